import PyProof.Rows.All
import Wide.All
import OpenK.AllK
import Wide.FinOn
import PyProof.EqAt
import PyProof.EqKinds
import PyProof.TupleCall
import KE.DataCmp
import KE.GoesMore
import HandS.ForMost
import HandS.ForExc
import HandS.Deep
import HandS.TupMul
import HandS.TupAny
import HandS.ExcInit
import HandS.ExcField
import HandS.Codes
import HandS.Walk
import HandS.More
import HandS.Flow
import HandS.Defaults
import HandS.Head0
import HandS.Head1
import HandS.Head2
import HandS.HeadEnd
import HandS.HeadHook1
import HandS.HeadHook2
import PySem.Challenge.RW_sameanswers_k23_bounds_of_agents
set_option Elab.async false
set_option linter.all false
set_option maxRecDepth 100000
set_option maxHeartbeats 0
set_option pp.maxSteps 400
namespace K23
open PySem PySem.Spec PyProof.Rows L2

def topS (i : Nat) : Stmt := PySem.Challenge.pw_sameanswers_k23_bounds_of_agents.main.body.getD i (.Pass ⟨0, 0, 0, 0⟩)

/-! ### defs by their names -/
/-- a def of the text as it stands behind the top -/
structure DefAt (K : PySem.W.Frag) (mg : Str → Option Value) (x : Str) (st : Stmt) : Prop where
  ex : ∃ (f : Addr) (fd : FuncData), FunD K x x (defArgs st) (defBody st) (defScope st) [] [] f fd ∧ mg x = some (.ref f)
/-- a def that may be called by its name and keeps the promise sp -/
structure Cal (P : Program) (w : World) (K : PySem.W.Frag) (mg : Str → Option Value) (base : Heap) (CX : CXT) (k : Nat) (x : Str) (sp : Sp) : Prop where
  ex : ∃ (f : Addr) (fd : FuncData) (ps : List Str), FnOk P w K mg base CX k f fd ps sp ∧ mg x = some (.ref f) ∧ PySem.W.keepIn K (.ref f) = true ∧ Binds K fd ps []
abbrev BindH (x : Str) (st : Stmt) (ps : List Str) : Prop := ∀ (kV doc pm : Value) (an : Option Addr) (cdv ct : Value) (us : List Value), us.length = ps.length → bindArgs (PySem.W.fnOf x x (defArgs st) (defBody st) (defScope st) .none kV doc pm an cdv ct) ⟨us, []⟩ = pure (ps.zip us)
section
variable {P : Program} {w : World} {K : PySem.W.Frag} {mg : Str → Option Value} {base : Heap}
theorem calX {CX : CXT} {x : Str} {st : Stmt} {N ps : List Str} {k : Nat} {sp : Sp} (D : DefAt K mg x st) (S : FnScope N ps (defScope st)) (hb : BindH x st ps) (len : ∀ vs H Q E, sp vs H Q E → vs.length = ps.length)
    (hbody : ∀ (f : Addr) (cdv : Value) (A : Around) (outer : List Env) (s : Shared) (H : Hp) (vs : List V) (Q : VK) (E : XK), Room k (A.deeper (envOfC x (defScope st) s.heap.objs.size f cdv)) → sp vs H Q E →
      ∃ t, PSs (cxOf CX P w K mg base N x (defScope st) f cdv A outer s H E) (defBody st) t ∧ t { nx := fun _ H' => Q .non H', rt := Q } (start N vs) H) : Cal P w K mg base CX (k + 1) x sp := by
  obtain ⟨f, fd, F, hm⟩ := D.ex
  exact ⟨f, fd, ps, F.ok S len (hbody f), hm, F.kp, F.bindsN hb⟩
theorem cal0 {x : Str} {st : Stmt} {N ps : List Str} {k : Nat} {sp : Sp} (D : DefAt K mg x st) (S : FnScope N ps (defScope st)) (hb : BindH x st ps) (len : ∀ vs H Q E, sp vs H Q E → vs.length = ps.length)
    (hbody : ∀ (f : Addr) (cdv : Value) (A : Around) (outer : List Env) (s : Shared) (H : Hp) (vs : List V) (Q : VK) (E : XK), Room k (A.deeper (envOfC x (defScope st) s.heap.objs.size f cdv)) → sp vs H Q E →
      ∃ t, PSs (cxOf CX0 P w K mg base N x (defScope st) f cdv A outer s H E).nox (defBody st) t ∧ t { nx := fun _ H' => Q .non H', rt := Q } (start N vs) H) : Cal P w K mg base CX0 (k + 1) x sp :=
  calX D S hb len fun f cdv A outer s H vs Q E hr h => by
    obtain ⟨t, p, q⟩ := hbody f cdv A outer s H vs Q E hr h
    exact ⟨t, p.nox, q⟩
end
section
variable {X : Cx} {k j : Nat} {x : Str} {sp : Sp} {p pos : Pos} {e : Expr} {es : List Expr} {t : TA}
theorem pe_c (c : Cal X.prog X.w X.K X.mg X.base CX0 k x sp) (hr : Room j X.A) (hk : k ≤ j) (hg : Gl X x) (ha : PA X (e :: es) t)
    (hdb : (x == ("__debug__" : Str)) = false := by decide) (he : starEach (e :: es) X.env = (false, eval e X.env) :: starEach es X.env := by rfl) (hpl : (backTo pos (starEach es X.env)).any (·.1) = false := by rfl) :
    PE X (.Call (.Name x p) (e :: es) [] pos) (tCall sp [] E0 t) := by
  obtain ⟨f, fd, ps, F, hm, kp, b⟩ := c.ex
  exact pe_call F (hr.mono hk) hg hm kp b .nil pass0 ha hdb he hpl
/-- a def that may raise, called where W is wished of what is raised -/
theorem pe_cS {W : WX} (c : Cal X.prog X.w X.K X.mg X.base (L2.CX X.prog X.w) k x sp) (tk : Takes X W) (hr : Room j X.A) (hk : k ≤ j) (hg : Gl X x) (ha : PA X (e :: es) t)
    (hdb : (x == ("__debug__" : Str)) = false := by decide) (he : starEach (e :: es) X.env = (false, eval e X.env) :: starEach es X.env := by rfl) (hpl : (backTo pos (starEach es X.env)).any (·.1) = false := by rfl) :
    PE X (.Call (.Name x p) (e :: es) [] pos) (tCallS sp (WE W) t) := by
  obtain ⟨f, fd, ps, F, hm, kp, b⟩ := c.ex
  exact pe_callS F (hr.mono hk) hg hm kp b (fun σ => passAt tk σ) ha hdb he hpl
theorem pe_g {x : Str} {v : V} {pos : Pos} (hg : Gl X x) (h : ∃ u, X.mg x = some u ∧ RelV v u) (hd : (x == ("__debug__" : Str)) = false := by decide) : PE X (.Name x pos) (tC v) := by
  obtain ⟨u, hm, r⟩ := h
  exact pe_glob hg hm r hd
end

/-! ### heaps -/
/-- all that was tracked, but for the object at b, is as it was -/
def Fr (b : Addr) (H H' : Hp) : Prop := ∀ a o, a ≠ b → H a = some o → H' a = some o
theorem Fr.refl (b : Addr) (H : Hp) : Fr b H H := fun _ _ _ h => h
theorem Fr.trans {b : Addr} {H H1 H2 : Hp} (x : Fr b H H1) (y : Fr b H1 H2) : Fr b H H2 := fun a o n h => y a o n (x a o n h)
theorem Fr.of {b : Addr} {H H' : Hp} (h : Same H H') : Fr b H H' := fun a o _ e => h a o e
theorem Fr.new {b p : Addr} {H H' : Hp} {o : HO} (h : Fr b H H') (n : H' p = none) : Fr b H (upd H' p o) := fun a u na e => by
  have q := h a u na e
  rw [upd_ne (ne_of_none q n)]
  exact q
theorem Fr.mut {b p : Addr} {H H' : Hp} {o : HO} (h : Fr b H H') (n : H p = none) : Fr b H (upd H' p o) := fun a u na e => by
  rw [upd_ne (ne_of_none e n)]
  exact h a u na e
theorem Fr.at {b : Addr} {H H' : Hp} {o : HO} (h : Fr b H H') : Fr b H (upd H' b o) := fun a u na e => by
  rw [upd_ne na]
  exact h a u na e
theorem same_new {p : Addr} {H H' : Hp} {o : HO} (h : Same H H') (n : H' p = none) : Same H (upd H' p o) := fun a u e => by
  have q := h a u e
  rw [upd_ne (ne_of_none q n)]
  exact q
theorem same_mut {p : Addr} {H H' : Hp} {o : HO} (h : Same H H') (n : H p = none) : Same H (upd H' p o) := fun a u e => by
  rw [upd_ne (ne_of_none e n)]
  exact h a u e
theorem none_back {H H' : Hp} {p : Addr} (h : Same H H') (n : H' p = none) : H p = none := h.free n
theorem none_backF {b : Addr} {H H' : Hp} {p : Addr} (h : Fr b H H') (np : p ≠ b) (n : H' p = none) : H p = none := by
  cases q : H p with
  | none => rfl
  | some o =>
    rw [h p o np q] at n
    cases n
theorem upd_back {H : Hp} {p q : Addr} {o : HO} (h : upd H p o q = none) : H q = none ∧ q ≠ p := by
  by_cases e : q = p
  · rw [e, upd_same] at h
    cases h
  · rw [upd_ne e] at h
    exact ⟨h, e⟩

/-- tuples stay -/
def Tp (K : PySem.W.Frag) (H H' : Hp) : Prop := ∀ a xs, SqT K H a xs → SqT K H' a xs
theorem Tp.refl (K : PySem.W.Frag) (H : Hp) : Tp K H H := fun _ _ h => h
theorem Tp.trans {K : PySem.W.Frag} {H H1 H2 : Hp} (x : Tp K H H1) (y : Tp K H1 H2) : Tp K H H2 := fun a xs h => y a xs (x a xs h)
theorem Tp.same {K : PySem.W.Frag} {H H' : Hp} (h : Same H H') : Tp K H H' := fun a xs q => by
  rcases q with (q | ⟨o, q⟩) | q
  · exact .inl (.inl (h _ _ q))
  · exact .inl (.inr ⟨o, h _ _ q⟩)
  · exact .inr q
theorem Tp.fr {K : PySem.W.Frag} {b : Addr} {H H' : Hp} {xs : List V} (h : Fr b H H') (hb : H b = some (.lst xs)) : Tp K H H' := fun a ys q => by
  rcases q with (q | ⟨o, q⟩) | q
  · exact .inl (.inl (h _ _ (ne_of q hb (by intro z; cases z)) q))
  · exact .inl (.inr ⟨o, h _ _ (ne_of q hb (by intro z; cases z)) q⟩)
  · exact .inr q

/-! ### data: ints, texts, tuples of such -/
mutual
inductive TD (K : PySem.W.Frag) (H : Hp) : V → PyData → Prop
  | int (i : Int) : TD K H (.int i) (.int i)
  | str (x : Str) : TD K H (.str x) (.str x)
  | tup {a : Addr} {xs : List V} {ds : List PyData} : SqT K H a xs → TDs K H xs ds → TD K H (.ref a) (.tuple ds)
inductive TDs (K : PySem.W.Frag) (H : Hp) : List V → List PyData → Prop
  | nil : TDs K H [] []
  | cons {v : V} {vs : List V} {d : PyData} {ds : List PyData} : TD K H v d → TDs K H vs ds → TDs K H (v :: vs) (d :: ds)
end
section
variable {K : PySem.W.Frag} {H H' : Hp}
mutual
theorem TD.mono (t : Tp K H H') : ∀ {v : V} {d : PyData}, TD K H v d → TD K H' v d
  | _, _, .int i => .int i
  | _, _, .str x => .str x
  | _, _, .tup h r => .tup (t _ _ h) (TDs.mono t r)
theorem TDs.mono (t : Tp K H H') : ∀ {vs : List V} {ds : List PyData}, TDs K H vs ds → TDs K H' vs ds
  | _, _, .nil => .nil
  | _, _, .cons h r => .cons (TD.mono t h) (TDs.mono t r)
end
mutual
theorem TD.dp : ∀ {v : V} {d : PyData}, TD K H v d → Dp K H v d
  | _, _, .int i => .int i
  | _, _, .str x => .str x
  | _, _, .tup h r => .tup h (TDs.dp r)
theorem TDs.dp : ∀ {vs : List V} {ds : List PyData}, TDs K H vs ds → DpAll K H vs ds
  | _, _, .nil => .nil
  | _, _, .cons h r => .cons (TD.dp h) (TDs.dp r)
end
theorem TDs.append : ∀ {vs ws : List V} {ds es : List PyData}, TDs K H vs ds → TDs K H ws es → TDs K H (vs ++ ws) (ds ++ es)
  | _, _, _, _, .nil, s => s
  | _, _, _, _, .cons h r, s => .cons h (TDs.append r s)
theorem TDs.length : ∀ {vs : List V} {ds : List PyData}, TDs K H vs ds → vs.length = ds.length
  | _, _, .nil => rfl
  | _, _, .cons _ r => congrArg (· + 1) (TDs.length r)
theorem TDs.get : ∀ {vs : List V} {ds : List PyData} {i : Nat} {v : V}, TDs K H vs ds → vs[i]? = some v → ∃ d, ds[i]? = some d ∧ TD K H v d
  | _, _, _, _, .nil, e => by simp at e
  | _, _, 0, _, .cons h _, e => by simp at e; subst e; exact ⟨_, rfl, h⟩
  | _, _, i + 1, v, .cons _ r, e => by
    obtain ⟨d, h1, h2⟩ := TDs.get (i := i) (v := v) r (by simpa using e)
    exact ⟨d, by simpa using h1, h2⟩
theorem TDs.get' : ∀ {vs : List V} {ds : List PyData} {i : Nat} {d : PyData}, TDs K H vs ds → ds[i]? = some d → ∃ v, vs[i]? = some v ∧ TD K H v d
  | _, _, _, _, .nil, e => by simp at e
  | _, _, 0, _, .cons h _, e => by simp at e; subst e; exact ⟨_, rfl, h⟩
  | _, _, i + 1, d, .cons _ r, e => by
    obtain ⟨v, h1, h2⟩ := TDs.get' (i := i) (d := d) r (by simpa using e)
    exact ⟨v, by simpa using h1, h2⟩
theorem TDs.take : ∀ {vs : List V} {ds : List PyData} (n : Nat), TDs K H vs ds → TDs K H (vs.take n) (ds.take n)
  | _, _, 0, _ => by simpa using TDs.nil
  | _, _, _ + 1, .nil => .nil
  | _, _, n + 1, .cons h r => .cons h (TDs.take n r)
theorem TDs.drop : ∀ {vs : List V} {ds : List PyData} (n : Nat), TDs K H vs ds → TDs K H (vs.drop n) (ds.drop n)
  | _, _, 0, r => r
  | _, _, _ + 1, .nil => .nil
  | _, _, n + 1, .cons _ r => TDs.drop n r
theorem TD.tup_inv {v : V} {ds : List PyData} (h : TD K H v (.tuple ds)) : ∃ a xs, v = .ref a ∧ SqT K H a xs ∧ TDs K H xs ds := by
  cases h with
  | tup h r => exact ⟨_, _, rfl, h, r⟩
theorem TD.str_inv {v : V} {x : Str} (h : TD K H v (.str x)) : v = .str x := by
  cases h
  rfl
theorem TD.int_inv {v : V} {i : Int} (h : TD K H v (.int i)) : v = .int i := by
  cases h
  rfl
theorem TDs.cons_inv {vs : List V} {d : PyData} {ds : List PyData} (h : TDs K H vs (d :: ds)) : ∃ v ws, vs = v :: ws ∧ TD K H v d ∧ TDs K H ws ds := by
  cases h with
  | cons h r => exact ⟨_, _, rfl, h, r⟩
theorem TDs.nil_inv {vs : List V} (h : TDs K H vs []) : vs = [] := by
  cases h
  rfl
theorem TDs.strs : ∀ (xs : List Str), TDs K H (xs.map V.str) (xs.map PyData.str)
  | [] => .nil
  | x :: r => .cons (.str x) (TDs.strs r)
theorem TDs.strs_inv : ∀ {vs : List V} {xs : List Str}, TDs K H vs (xs.map PyData.str) → vs = xs.map V.str
  | _, [], h => h.nil_inv
  | _, x :: r, h => by
    obtain ⟨v, ws, rfl, h1, h2⟩ := h.cons_inv
    rw [h1.str_inv, TDs.strs_inv h2] <;> rfl
theorem TD.new_tup {p : Addr} {vs : List V} {ds : List PyData} (n : H p = none) (r : TDs K H vs ds) : TD K (upd H p (.tup vs)) (.ref p) (.tuple ds) :=
  .tup (SqT.of upd_same) (r.mono (.same (same_new (.refl H) n)))
end

/-! ### the box of draws -/
/-- at b: the list of the digits (a list of ints at another address) and how many were drawn -/
def BoxOk (H : Hp) (b : Addr) : Prop := ∃ (dl : Addr) (ds : List Int) (at_ : Int), H b = some (.lst [.ref dl, .int at_]) ∧ H dl = some (.lst (ds.map V.int)) ∧ dl ≠ b ∧ 0 ≤ at_
theorem BoxOk.lst {H : Hp} {b : Addr} (h : BoxOk H b) : ∃ xs, H b = some (.lst xs) := by
  obtain ⟨dl, ds, at_, h1, _⟩ := h
  exact ⟨_, h1⟩
theorem BoxOk.same {H H' : Hp} {b : Addr} (h : BoxOk H b) (s : Same H H') : BoxOk H' b := by
  obtain ⟨dl, ds, at_, h1, h2, h3⟩ := h
  exact ⟨dl, ds, at_, s _ _ h1, s _ _ h2, h3⟩
theorem BoxOk.ne {H : Hp} {b p : Addr} (h : BoxOk H b) (n : H p = none) : p ≠ b := by
  obtain ⟨xs, hb⟩ := h.lst
  exact (ne_of_none hb n).symm
theorem BoxOk.new {H : Hp} {b p : Addr} {o : HO} (h : BoxOk H b) (n : H p = none) : BoxOk (upd H p o) b := h.same (same_new (.refl H) n)
theorem BoxOk.mut {H : Hp} {b p : Addr} {o : HO} {H0 : Hp} (h0 : BoxOk H0 b) (h : BoxOk H b) (f : Fr b H0 H) (n : H0 p = none) : BoxOk (upd H p o) b → True := fun _ => trivial
theorem tp_of {K : PySem.W.Frag} {b : Addr} {H H' : Hp} (h : BoxOk H b) (f : Fr b H H') : Tp K H H' := by
  obtain ⟨xs, hb⟩ := h.lst
  exact .fr f hb

/-! ### what the top holds -/
structure Txt (K : PySem.W.Frag) (mg : Str → Option Value) : Prop where
  len : mg "len" = none
  all : mg "all" = none
  any : mg "any" = none
  enum : mg "enumerate" = none
  range : mg "range" = none
  sorted : mg "sorted" = none
  int : mg "int" = none
  min : mg "min" = none
  tuple : mg "tuple" = none
  list : mg "list" = none
  ord : mg "ord" = none
  NAME : ∃ u, mg "NAME_MOST" = some u ∧ RelV (.int 8) u
  DEPTH : ∃ u, mg "DEPTH_MOST" = some u ∧ RelV (.int 3) u
  LINE : ∃ u, mg "LINE_MOST" = some u ∧ RelV (.int 20) u
  LINES : ∃ u, mg "LINES_MOST" = some u ∧ RelV (.int 12) u
  WORD : ∃ u, mg "WORD_MOST" = some u ∧ RelV (.int 12) u
  LETTERS : ∃ u, mg "LETTERS" = some u ∧ RelV (.str "abcdefghijklmnopqrstuvwxyz0123456789") u
  PERCENT : ∃ u, mg "PERCENT" = some u ∧ RelV (.int 37) u
  ROWS : ∃ u, mg "ROWS_MOST" = some u ∧ RelV (.int 24) u
  CASES : ∃ u, mg "CASES_MOST" = some u ∧ RelV (.int 6) u
  STOP : ∃ a : Addr, (∃ u, mg "STOP" = some u ∧ RelV (.ref a) u) ∧ ∀ H, TD K H (.ref a) (.tuple [.str "stop"])
  DOUBT : ∃ a : Addr, (∃ u, mg "DOUBT" = some u ∧ RelV (.ref a) u) ∧ ∀ H, TD K H (.ref a) (.tuple [.str "write", .str "doubt", .tuple []])
end K23
/-! ### list.count over data; enumerate over a tuple -/
namespace K23
open PySem PySem.Spec PyProof.Rows L2
section
variable {X : Cx}
def rCountD (K : PySem.W.Frag) : V → List V → Hp → VK → Prop := fun x xs H Q => ∃ (a : Addr) (y : V) (d : PyData) (ds : List PyData), x = V.ref a ∧ xs = [y] ∧ Dp K H (V.ref a) (.list ds) ∧ Dp K H y d ∧
  SeqAt.shaped (.list ds) = true ∧ SeqAt.shaped d = true ∧ Q (.int ((ds.countP fun z => PyData.eqv z d : Nat) : Int)) H
theorem mt_countD (hu : X.A.units + 65 < cLine) : MtR X "list.count" (rCountD X.K) := by
  intro pins s σ H x xs v us Q I rx rxs h
  obtain ⟨a, y, d, ds, rfl, rfl, hl, hy, sl, sd, q⟩ := h
  cases rx
  cases rxs with
  | cons ry rt =>
    rename_i uy ut
    cases rt
    obtain ⟨bs, r1⟩ := Dp.reads I d y uy hy ry
    have hxs : PyData.canLayAll0 ds = true := SeqAt.canLay_of_shaped sl
    have hroom : X.A.units + 1 + min (PyData.depthAll ds) d.depth < cLine := room_in_shaped sd hu
    cases hl with
    | lst hs ha =>
      obtain ⟨its, rv, ⟨⟨cls, dd, data, sls⟩, n, ho, hc, hdn, hdt⟩, hlen⟩ := I.list hs
      simp only at hc hdt
      subst hc hdt
      obtain ⟨as, h4⟩ := Dp.readsAll I ds _ its ha rv
      have hmap : its.map (SeqAt.readOf s.heap) = ds := SeqAt.readsAll_map ds its as hxs h4
      refine call_meets PySem.F.slot_list_count ⟨_, ho, rfl⟩ PySem.F.entry_list_count (PySem.F.args_list_count_2 _ _)
        (SeqAt.list_countAt a its.toArray n dd sls uy (fun u => PyData.eqv (SeqAt.readOf s.heap u) d)) ⟨ho, SeqAt.items_eqAt (vs := its.toArray) (show ReadsAll s.heap its.toArray.toList ds as from h4) r1 hxs (SeqAt.canLay_of_shaped sd) hroom, ?_⟩
      have ec : its.toArray.toList.countP (fun u => PyData.eqv (SeqAt.readOf s.heap u) d) = ds.countP fun z => PyData.eqv z d := by
        rw [← hmap, List.countP_map]
        rfl
      refine ⟨.int ((ds.countP fun z => PyData.eqv z d : Nat) : Int), H, I.tok _, ⟨s.toks, ?_⟩, q⟩
      show Value.int ((its.toArray.toList.countP (fun u => PyData.eqv (SeqAt.readOf s.heap u) d) : Nat) : Int) s.toks = Value.int ((ds.countP fun z => PyData.eqv z d : Nat) : Int) s.toks
      rw [ec]
end

set_option maxHeartbeats 4000000 in
theorem meets_enumerate_newT (t : Addr) (items : Array Value) :
    Meets (Builtin.«enumerate.__new__» ⟨[.type "enumerate", .ref t], []⟩) (fun _ R s => s.heap.IsTuple t items ∧
      R (.ok (.ret (.ref (s.heap.push { cls := .type "tuple_iterator", data := .fields #[.ref t, .int 0 0] }).objs.size)))
        { s with heap := (s.heap.push { cls := .type "tuple_iterator", data := .fields #[.ref t, .int 0 0] }).push { cls := .type "enumerate", data := .fields #[.none, .bool false, .ref s.heap.objs.size, rawInt 0, .none, .none] } }) :=
  .of_wp fun prog w A R s h => by
    obtain ⟨hp, g, d, tk, os⟩ := s; obtain ⟨h1, h⟩ := h
    have hsub := sub_enumerate
    have q1 : ∀ {A' : Around} {E : Value → Shared → Prop} {Q : Value → Shared → Prop}, Q (.ref hp.objs.size) ⟨hp.push { cls := .type "tuple_iterator", data := .fields #[.ref t, .int 0 0] }, g, d, tk, os⟩ → wpAny (model prog w) A' (pyIter (.ref t)) Q E ⟨hp, g, d, tk, os⟩ :=
      fun q => wpAny_pyIter_tuple (s := ⟨hp, g, d, tk, os⟩) h1 q
    wp_walk using q1
    refine wpAny_stack_any fun st => wpAny_pure ?_
    split
    · rename_i c _ _ _ _ _
      cases (c == Value.type "enumerate")
      · wp_walk using q1
        exact ⟨_, rfl, h⟩
      · wp_walk using q1
        exact ⟨_, rfl, h⟩
    · wp_walk using q1
      exact ⟨_, rfl, h⟩
section
variable {prog : Program} {w : World} {A : Around} {E : Value → Shared → Prop} {s : Shared}
theorem call_enumerate_tuple {l : Addr} {items : Array Value} {Q : Value → Shared → Prop} (hL : s.heap.IsTuple l items)
    (h : ∀ h', IsEnum h' (s.heap.objs.size + 1) s.heap.objs.size 0 .none → h'.IsTupleIter s.heap.objs.size l 0 → h'.objs.size = s.heap.objs.size + 2 →
      (∀ b o, s.heap.get? b = some o → h'.get? b = some o) → Q (.ref (s.heap.objs.size + 1)) { s with heap := h' }) :
    wpAny (model prog w) A (call (.type "enumerate") [.ref l]) Q E s := by
  refine callType_new F.called_enumerate (by decide) (F.typeCall_enumerate_1 _) (F.newCall_enumerate_1 _) (fun obj => F.args_object_init_2 obj _) F.entry_enumerate_new
    (meets_enumerate_newT l items) ⟨hL, ?_⟩
  have hz : (s.heap.push { cls := .type "tuple_iterator", data := .fields #[.ref l, .int 0 0] }).objs.size = s.heap.objs.size + 1 := Heap.size_push ..
  show _ ∧ _
  rw [hz]
  have he : IsEnum ((s.heap.push { cls := .type "tuple_iterator", data := .fields #[.ref l, .int 0 0] }).push
      { cls := .type "enumerate", data := .fields #[.none, .bool false, .ref s.heap.objs.size, rawInt 0, .none, .none] }) (s.heap.objs.size + 1) s.heap.objs.size 0 .none := by
    have := Heap.get?_push_size (s.heap.push { cls := .type "tuple_iterator", data := .fields #[.ref l, .int 0 0] })
      (o := { cls := .type "enumerate", data := .fields #[.none, .bool false, .ref s.heap.objs.size, rawInt 0, .none, .none] }) rfl
    rw [hz] at this; exact this
  refine ⟨⟨_, he, rfl⟩, h _ he ⟨_, Heap.get?_push_of_some _ (Heap.get?_push_size _ rfl), rfl, rfl⟩ (by rw [Heap.size_push, hz]) fun b o x => Heap.get?_push_of_some _ (Heap.get?_push_of_some _ x)⟩
theorem enumT_end {e it l : Addr} {i : Nat} {items : Array Value} {old : Value} {c : Int} {Q : Option Value → Shared → Prop} (hh : A.handled = none)
    (he : IsEnum s.heap e it c old) (hit : s.heap.IsTupleIter it l i) (hl : s.heap.IsTuple l items) (hx : items[i]? = none)
    (hQ : ∀ h', Heap.ExtBut it s.heap h' → Q none { s with heap := h' }) : wpAny (model prog w) A (pyNext (.ref e)) Q E s := by
  have hT : s.TypeIs (.ref e) "enumerate" := ⟨_, he, rfl⟩
  unfold pyNext
  refine wpAny_bind (wpAny_attempt (wpAny_callSpecial?_slot (name := Str.ofString "__next__") hT F.slot_enumerate_next
    (wpAny_call_entry F.slot_enumerate_next hT F.entry_enumerate_next ?_ (F.args_enumerate_next_1 _))))
  show wpAny _ _ (field (.ref e) 2 >>= _) _ _ _
  refine wpAny_bind (wpAny_field he rfl (x := .ref it) rfl ?_)
  refine wpAny_bind (wpAny_nextOf_tuple_end hh hit hl hx fun h' x he' hx' => ?_)
  obtain ⟨o, ho, hc⟩ := hx'
  refine wpAny_bind (wpAny_isInstance (T := "StopIteration") (b := true) ⟨o, ho, hc⟩ isSubtype_stop ?_)
  exact wpAny_pure (hQ _ he')
end
/-- the tuple at a, each item in a new pair -/
def IteT (K : PySem.W.Frag) (a : Addr) : It :=
  ⟨fun i H => ∃ (xs : List V) (x : V), SqT K H a xs ∧ xs[i]? = some x, fun i H v H' => ∃ T x, v = .ref T ∧ H T = none ∧ H' = upd H T (.tup [.int (i : Nat), x]) ∧ ∀ xs, SqT K H a xs → xs[i]? = some x, fun i H => ∃ xs : List V, SqT K H a xs ∧ xs.length ≤ i⟩
theorem turn_enumT {P : Program} {w : World} {K : PySem.W.Frag} {elts : List Expr} {kk : Nat} {tpos : Pos} (a e it : Addr) :
    Turn P w K (.Tuple elts kk tpos) (IteT K a) [e, it] e (fun i h => (∃ old, IsEnum h e it ((i : Nat) : Int) old) ∧ h.IsTupleIter it a i ∧ e ≠ it ∧ a ≠ it ∧ a ≠ e) where
  mem := by simp
  obj := fun i h st b hb => by
    obtain ⟨⟨old, he⟩, ⟨o, ho, hc, hd⟩, _⟩ := st
    have e' : b = e ∨ b = it := by simpa using hb
    rcases e' with z | z
    · rw [z]; exact ⟨_, he, fun v q => nomatch q⟩
    · rw [z]; exact ⟨o, ho, fun v q => by rw [hd] at q; cases q⟩
  keep := fun i h h' st k => let ⟨⟨old, he⟩, hi, hne⟩ := st; ⟨⟨old, k e (by simp) _ he⟩, hi.at fun o q => k it (by simp) o q, hne⟩
  item := by
    intro X hP hw hK hc i pins s σ H E I hf st hg
    subst hP hw hK
    obtain ⟨⟨old, he⟩, hit, hne, hai, hae⟩ := st
    obtain ⟨xs, x, hq, hx⟩ := hg
    obtain ⟨its, rv, p, hz⟩ := I.tuple hq
    obtain ⟨u, hu, ru⟩ := rv.get hx
    have hel : e < s.heap.objs.size := Heap.lt_size he
    have hil : it < s.heap.objs.size := by obtain ⟨_, q, _⟩ := hit; exact Heap.lt_size q
    have hisz : i < its.toArray.size := by
      have := (List.getElem?_eq_some_iff.mp hu).1
      simpa using this
    have D : Draws X.prog X.w X.A.in1 it [it, a] its.toArray.size (fun i v => its.toArray[i]? = some v) (fun i h => h.IsTupleIter it a i ∧ h.IsTuple a its.toArray) := Draws.tuple (show X.A.in1.handled = none from I.ok.hd hc) it a hai its.toArray
    refine wpAny_pyNext_enum_itemD D he ⟨hit, show s.heap.IsTuple a its.toArray from p⟩ hisz hne (by simp; exact ⟨hne, hae.symm⟩) fun v h' tk hP ho hit' hT hsz hk => ?_
    have ev : v = u := by
      have e1 : its.toArray[i]? = some v := hP
      have e2 : its.toArray[i]? = some u := by simpa using hu
      rw [e1] at e2
      exact Option.some.inj e2
    subst ev
    refine ⟨_, rfl, wpAny_letOwnedTupleGo_enum (s := { s with heap := h', toks := tk + 1 }) ho fun h'' he' sb => ?_⟩
    have hT2 : h''.get? s.heap.objs.size = some { cls := .type "tuple", data := .seq #[.int i tk, v] } := (sb.2 _ (Nat.ne_of_gt hel)).trans hT
    have new : ObjOk X.prog X.w (upd H s.heap.objs.size (.tup [.int (i : Nat), x])) h'' s.heap.objs.size (.tup [.int (i : Nat), x]) :=
      ⟨by show 2 ≤ sizeLine; decide, [.int i tk, v], .cons ⟨_, rfl⟩ (.cons ru .nil), ⟨_, hT2, rfl, _, rfl⟩⟩
    have I1 : Inv X pins σ (upd H s.heap.objs.size (.tup [.int (i : Nat), x])) { s with heap := h'', toks := tk + 1 } :=
      I.turnedNew (ch := [e, it]) (fun b ob hb q => (sb.2 b (fun z => hb (by simp [z]))).trans (hk b ob (fun z => hb (by simp [z])) (fun z => hb (by simp [z])) q)) hf (Nat.le_refl _) new
    refine ⟨.ref s.heap.objs.size, _, I1, rfl, ⟨_, x, rfl, I.hok.fresh (Nat.le_refl _), rfl, fun ys hy => by rw [I.tuple_inj hy hq]; exact hx⟩, ⟨⟨v, ?_⟩, hit'.1.at fun o q => (sb.2 it (Ne.symm hne)).trans q, hne, hai, hae⟩, fun b hb => ?_⟩
    · have e1 : ((i + 1 : Nat) : Int) = (i : Int) + 1 := by omega
      rw [e1]; exact he'
    · have hb' : b < s.heap.objs.size := by
        have e' : b = e ∨ b = it := by simpa using hb
        rcases e' with z | z
        · rw [z]; exact hel
        · rw [z]; exact hil
      rw [upd_ne (Nat.ne_of_lt hb')]
      exact (hf b hb).1
  done := by
    intro X hP hw hK hc i pins s σ H E I hf st hg
    subst hP hw hK
    obtain ⟨⟨old, he⟩, hit, hne, hai, hae⟩ := st
    obtain ⟨xs, hq, hx⟩ := hg
    obtain ⟨its, rv, p, hz⟩ := I.tuple hq
    obtain ⟨f0, f1, f2, f3, f4, f5⟩ := hf it (by simp)
    have hl := rv.length
    exact enumT_end (I.ok.hd hc) he hit (show s.heap.IsTuple a its.toArray from p) (by simp; omega) fun h' eb => ⟨rfl, I.turned (t' := s.toks) (fun b o hb q => eb b o hb q) f0 f1 f3 f4 f5⟩
  self := fun A i s Q E st h => let ⟨⟨_, he⟩, _⟩ := st; wpAny_pyIter_enum he h
def iEnumT (K : PySem.W.Frag) (ta : TA) : TI := fun σ H R => ta σ H fun vs H1 => ∃ a xs, vs = [.ref a] ∧ SqT K H1 a xs ∧ R (IteT K a) H1
theorem pi_enumT {X : Cx} {e : Expr} {ta : TA} {p pos tpos : Pos} {elts : List Expr} {kk : Nat} (hg : Gl X "enumerate") (hm : X.mg "enumerate" = none) (ha : PA X [e] ta) (hs : starEach [e] X.env = [(false, eval e X.env)] := by rfl) :
    PI X (.Tuple elts kk tpos) (.Call (.Name "enumerate" p) [e] [] pos) (iEnumT X.K ta) := by
  refine ⟨fun pins s σ H R I h => ?_⟩
  refine Call_ (ld_blt I hg hm boot_enumerate (PyProof.Rows.callWith_type1 (thn (ha.run pos pins s σ H _ I h) fun us s1 ⟨vs, H1, I1, r1, q1⟩ => ?_) hs rfl))
  obtain ⟨a, xs, ex, hq, q⟩ := q1
  subst ex
  cases r1 with
  | cons r rr =>
    cases rr
    cases r
    obtain ⟨its, rv, p', hz⟩ := I1.tuple hq
    refine call_enumerate_tuple (show s1.heap.IsTuple a its.toArray from p') fun h' he hit hsz hk => wpAny_pyIter_enum he ?_
    have I2 : Inv X pins σ H1 { s1 with heap := h' } := I1.kept (t' := s1.toks) hk
    have la : a < s1.heap.objs.size := by
      obtain ⟨o, q, _⟩ := p'
      exact Heap.lt_size q
    refine ⟨s1.heap.objs.size + 1, [s1.heap.objs.size + 1, s1.heap.objs.size], _, _, H1, rfl, I2, turn_enumT a (s1.heap.objs.size + 1) s1.heap.objs.size, ⟨⟨.none, he⟩, hit, Nat.succ_ne_self _, Nat.ne_of_lt la, Nat.ne_of_lt (Nat.lt_succ_of_lt la)⟩, fun b hb => ?_, q⟩
    have e' : b = s1.heap.objs.size + 1 ∨ b = s1.heap.objs.size := by simpa using hb
    have hle : s1.heap.objs.size ≤ b := by
      rcases e' with z | z
      · rw [z]; exact Nat.le_add_right _ _
      · rw [z]; exact Nat.le_refl _
    exact I1.fpOk hle (I1.hok.fresh hle)
theorem walk_enumT {K : PySem.W.Frag} {a : Addr} {xs : List V} : Walk (IteT K a) xs.length (fun H => SqT K H a xs) (YPair (fun i => some (.int (i : Nat))) (fun i => xs[i]?)) := by
  refine ⟨fun i _ hi q => ⟨xs, xs[i], q, by simp [hi]⟩, fun _ q => ⟨xs, q, Nat.le_refl _⟩, fun i H v H' _ q y => ?_⟩
  obtain ⟨T, x, h1, h2, h3, h4⟩ := y
  exact ⟨T, .int (i : Nat), x, h1, h2, h3, rfl, h4 xs q⟩
end K23
namespace K23
open PySem PySem.Spec PyProof.Rows L2
abbrev s_is_name : Stmt := topS 11
abbrev s_is_path : Stmt := topS 12
abbrev s_is_place : Stmt := topS 13
abbrev s__is_plain : Stmt := topS 14
abbrev s_is_line : Stmt := topS 15
abbrev s_is_word : Stmt := topS 16
abbrev s_is_lines : Stmt := topS 17
abbrev s__check : Stmt := topS 19
abbrev s_check_action : Stmt := topS 20
abbrev s_is_good_row : Stmt := topS 26
abbrev s__is_agent : Stmt := topS 27
abbrev s_check_agent : Stmt := topS 28
abbrev s_follower : Stmt := topS 29
abbrev s_doubter : Stmt := topS 30
abbrev s__law_cell : Stmt := topS 32
abbrev s__law_digits : Stmt := topS 33
abbrev s__law_draw : Stmt := topS 34
abbrev s__law_path : Stmt := topS 35
abbrev s__law_line : Stmt := topS 36
abbrev s__law_lines : Stmt := topS 37
abbrev s__law_inside : Stmt := topS 38
abbrev s__law_blocked : Stmt := topS 39
abbrev s__law_files : Stmt := topS 40
abbrev s__law_is_folder : Stmt := topS 42
abbrev s__law_names : Stmt := topS 43
abbrev s__law_found : Stmt := topS 44
abbrev s__law_asked : Stmt := topS 45
abbrev s__law_spots : Stmt := topS 46
abbrev s__law_refusal : Stmt := topS 47
abbrev s__law_act : Stmt := topS 48
abbrev s__law_some_path : Stmt := topS 49
abbrev s__law_place : Stmt := topS 50
abbrev s__law_question : Stmt := topS 51
abbrev s__law_part : Stmt := topS 52
abbrev s__law_deed : Stmt := topS 53
abbrev s__law_action : Stmt := topS 54
abbrev s__law_agent : Stmt := topS 55
abbrev s__law_refused : Stmt := topS 58
abbrev s__law_bad : Stmt := topS 59
abbrev s_law : Stmt := topS 60
abbrev s_init : Stmt := inClass (topS 2) 0
end K23
/-! ### is_name .. is_lines -/
namespace K23
open PySem PySem.Spec PyProof.Rows L2
def lettersL : List Nat := ("abcdefghijklmnopqrstuvwxyz0123456789" : Str).cps.toList
def nameB (t : Str) : Bool := decide ((1 : Int) ≤ (t.length : Int)) && decide ((t.length : Int) ≤ 8) && t.cps.toList.all fun c => decide (c ∈ lettersL)
theorem take_more {α : Type} : ∀ {l : List α} {i : Nat} {x : α}, l[i]? = some x → l.take (i + 1) = l.take i ++ [x]
  | [], i, x, h => by simp at h
  | a :: l, 0, x, h => by
    have e : a = x := Option.some.inj h
    subst e
    rfl
  | a :: l, i + 1, x, h => by
    have ih := take_more (l := l) (i := i) (x := x) h
    show a :: l.take (i + 1) = a :: l.take i ++ [x]
    rw [ih]
    rfl
theorem map_more {α β : Type} {l : List α} {i : Nat} {x : α} (f : α → β) (h : l[i]? = some x) : (l.take (i + 1)).map f = (l.take i).map f ++ [f x] := by
  rw [take_more h, List.map_append] <;> rfl
theorem sl_lt {n : Nat} (h : n ≤ 100000) : n < sizeLine := Nat.lt_of_le_of_lt h (by decide)
theorem all_id {α : Type} (l : List α) (f : α → Bool) : (l.map f).all id = l.all f := by
  induction l with
  | nil => rfl
  | cons a l ih => simp [List.all_cons, ih]
theorem any_id {α : Type} (l : List α) (f : α → Bool) : (l.map f).any id = l.any f := by
  induction l with
  | nil => rfl
  | cons a l ih => simp [List.any_cons, ih]
/-- a comprehension that keeps nothing but a value of each item: the made list behind i turns -/
def MadeAt (H0 : Hp) (D : Addr) (vs : List V) (H : Hp) : Prop := Same H0 H ∧ H D = some (.lst vs)
theorem MadeAt.start {H0 : Hp} {D : Addr} (h : H0 D = none) : MadeAt H0 D [] (upd H0 D (.lst [])) := ⟨same_new (.refl _) h, upd_same⟩
theorem MadeAt.push {H0 H' : Hp} {D : Addr} {vs : List V} {y : V} (h0 : H0 D = none) (s : Same H0 H') : MadeAt H0 D (vs ++ [y]) (upd H' D (.lst (vs ++ [y]))) := ⟨same_mut s h0, upd_same⟩

theorem lcY {σ : L2.St} {H : Hp} {F G : Hp → Prop} (h : F H) : tYes σ H fun b H3 => if b = true then F H3 else G H3 := by
  show (if true = true then F H else G H)
  rw [if_pos rfl]
  exact h
theorem tl_len (t : Str) : t.cps.toList.length = t.length := by simp [Str.length]

section
variable {P : Program} {w : World} {K : PySem.W.Frag} {mg : Str → Option Value} {base : Heap}
def spName : Sp := fun vs H Q _ => ∃ t : Str, vs = [.str t] ∧ t.length ≤ 1000 ∧ ∀ H', Same H H' → Q (.bl (nameB t)) H'
theorem sc_name : FnScope ["text", "sign"] ["text"] (defScope s_is_name) := ⟨rfl, rfl, rfl, by decide +kernel, rfl, by decide +kernel, by decide +kernel⟩
theorem ok_name (D : DefAt K mg "is_name" s_is_name) (T : Txt K mg) : Cal P w K mg base CX0 1 "is_name" spName := by
  refine cal0 D sc_name (fun _ _ _ _ _ _ us hl => match us, hl with | [_], _ => rfl) (fun vs H Q E h => ?_) (fun f cdv A outer s H vs Q E hr h => ?_)
  · obtain ⟨t, rfl, _⟩ := h
    rfl
  · obtain ⟨t, rfl, hl, k⟩ := h
    refine ⟨_, pss_one (ps_ret (pe_and (pe_chain op_le op_le pe_int (pe_callB call_len_str (by rfl) T.len PySem.boot_len (pa_cons (pv 0) pa_nil)) (pe_g (by rfl) T.NAME))
      (pe_one (pe_callB (cr_all rfl) (by rfl) T.all (by decide +kernel) (pa_cons (pe_lc (own := [("sign", 1)]) (g := gName 1) (tt := tYes) rfl sc_name.nd (pi_str (pv 0)) (blkOk_by (N := ["text", "sign"]) (sc := defScope s_is_name) (by decide +kernel))
          (fun _ _ _ _ _ => pg_name (i := 1) sc_name.nd rfl (Or.inl rfl)) (fun _ _ _ _ _ => pts_nil) (fun _ _ _ _ _ => pe_cmpR op_in_sign (pv 1) (pe_g (by rfl) T.LETTERS) rfl)) pa_nil))))), ?_⟩
    refine ⟨_, rfl, t, rfl, Nat.le_trans hl (by decide), _, _, rfl, rfl, _, rfl, ?_⟩
    by_cases c1 : (1 : Int) ≤ (t.length : Int)
    · rw [decide_eq_true c1]
      refine iteT ⟨_, _, rfl, rfl, _, rfl, ?_⟩
      by_cases c2 : (t.length : Int) ≤ 8
      · rw [decide_eq_true c2]
        refine iteT ⟨_, rfl, t, rfl, fun D hD => lc_it walk_str (fun i H' => MadeAt H D ((t.cps.toList.take i).map fun c => V.bl (decide (c ∈ lettersL))) H') (MadeAt.start hD) (fun _ _ _ _ => trivial) ?_ ?_⟩
        · rintro i x H1 H2 hi ⟨s1, h1⟩ ⟨rfl, c, hc, rfl⟩
          refine ⟨rfl, lcY ⟨_, rfl, c, _, rfl, rfl, _, h1, ?_, ?_⟩⟩
          · rw [List.length_map, List.length_take]
            exact sl_lt (by have := tl_len t; omega)
          · have e : t.cps.toList[i]? = some c := by rw [Array.getElem?_toList]; exact hc
            rw [map_more _ e]
            exact MadeAt.push hD s1
        · rintro H1 ⟨s1, h1⟩
          refine ⟨D, t.cps.toList.map fun c => decide (c ∈ lettersL), rfl, ?_, ?_⟩
          · refine SqL.of ?_
            rw [h1, List.take_of_length_le (by simp), List.map_map] <;> rfl
          · have e : nameB t = (t.cps.toList.map fun c => decide (c ∈ lettersL)).all id := by
              unfold nameB
              rw [decide_eq_true c1, decide_eq_true c2, all_id] <;> rfl
            rw [← e]
            exact k _ s1
      · rw [decide_eq_false c2]
        refine iteF ?_
        have e : nameB t = false := by
          unfold nameB
          rw [decide_eq_false c2, Bool.and_false, Bool.false_and]
        have q := k H (.refl H)
        rw [e] at q
        exact q
    · rw [decide_eq_false c1]
      refine iteF ⟨_, rfl, iteF ?_⟩
      have e : nameB t = false := by
        unfold nameB
        rw [decide_eq_false c1, Bool.false_and, Bool.false_and]
      have q := k H (.refl H)
      rw [e] at q
      exact q
/-! is_path, is_place -/
def partsS (t : Str) : List Str := Txt.split t "/"
def pathB (t : Str) : Bool := decide (((partsS t).length : Int) ≤ 3) && (partsS t).all nameB
def TxtOk (t : Str) : Prop := t.length ≤ 1000 ∧ (partsS t).length ≤ 1000 ∧ ∀ p ∈ partsS t, p.length ≤ 1000
instance (t : Str) : Decidable (TxtOk t) := by unfold TxtOk; infer_instance
def spPath : Sp := fun vs H Q _ => ∃ t : Str, vs = [.str t] ∧ TxtOk t ∧ ∀ H', Same H H' → Q (.bl (pathB t)) H'
theorem sc_path : FnScope ["text", "names", "name"] ["text"] (defScope s_is_path) := ⟨rfl, rfl, rfl, by decide +kernel, rfl, by decide +kernel, by decide +kernel⟩
theorem ok_path (D : DefAt K mg "is_path" s_is_path) (T : Txt K mg) (cN : Cal P w K mg base CX0 1 "is_name" spName) : Cal P w K mg base CX0 2 "is_path" spPath := by
  refine cal0 D sc_path (fun _ _ _ _ _ _ us hl => match us, hl with | [_], _ => rfl) (fun vs H Q E h => ?_) (fun f cdv A outer s H vs Q E hr h => ?_)
  · obtain ⟨t, rfl, _⟩ := h
    rfl
  · obtain ⟨t, rfl, ⟨hl, hn, hp⟩, k⟩ := h
    refine ⟨_, pss_cons (ps_set (i := 1) sc_path.nd rfl (Or.inl rfl) (pe_split (pv 0) pe_str)) (pss_one (ps_ret (pe_and (pe_cmpR op_le (pe_callB call_len_seq (by rfl) T.len PySem.boot_len (pa_cons (pv 1) pa_nil)) (pe_g (by rfl) T.DEPTH) (nomark _))
      (pe_one (pe_callB (cr_all rfl) (by rfl) T.all (by decide +kernel) (pa_cons (pe_lc (own := [("name", 2)]) (g := gName 2) (tt := tYes) rfl sc_path.nd (pi_list (pv 1)) (blkOk_by (N := ["text", "names", "name"]) (sc := defScope s_is_path) (by decide +kernel))
          (fun _ _ _ _ _ => pg_name (i := 2) sc_path.nd rfl (Or.inl rfl)) (fun _ _ _ _ _ => pts_nil) (fun _ _ _ _ _ => pe_c cN hr (Nat.le_refl _) (by rfl) (pa_cons (pv 2) pa_nil))) pa_nil)))))), ?_⟩
    refine ⟨_, rfl, ⟨_, rfl⟩, _, _, rfl, rfl, rfl, Nat.le_trans (Nat.add_le_add_right hl 2) (by decide), fun a ha => ?_⟩
    have e0 : Txt.split t "/" = partsS t := rfl
    rw [e0]
    have s1 : Same H (upd H a (.lst ((partsS t).map V.str))) := same_new (.refl H) ha
    have hL : SqL K (upd H a (.lst ((partsS t).map V.str))) a ((partsS t).map V.str) := SqL.of upd_same
    refine ⟨_, rfl, a, _, rfl, .inl hL, _, _, rfl, rfl, _, rfl, ?_⟩
    by_cases c1 : (((partsS t).map V.str).length : Int) ≤ 3
    · rw [decide_eq_true c1]
      refine iteT ⟨_, rfl, a, rfl, ⟨_, hL⟩, fun D hD => lc_it (walk_list (xs := (partsS t).map V.str)) (fun i H' => MadeAt (upd H a (.lst ((partsS t).map V.str))) D (((partsS t).take i).map fun p => V.bl (nameB p)) H') (MadeAt.start hD) (fun i H' _ m => m.1.seq hL) ?_ ?_⟩
      · rintro i x H1 H2 hi ⟨s2, h2⟩ ⟨rfl, hx⟩
        rw [List.getElem?_map] at hx
        obtain ⟨p, hp1, rfl⟩ := Option.map_eq_some_iff.mp hx
        refine ⟨rfl, lcY ⟨_, rfl, p, rfl, hp p (List.mem_of_getElem? hp1), fun H3 s3 => ⟨_, s3 _ _ h2, ?_, ?_⟩⟩⟩
        · rw [List.length_map, List.length_take]
          exact sl_lt (by omega)
        · rw [map_more _ hp1]
          exact MadeAt.push hD (s2.trans s3)
      · rintro H1 ⟨s2, h2⟩
        refine ⟨D, (partsS t).map nameB, rfl, ?_, ?_⟩
        · refine SqL.of ?_
          rw [h2, List.take_of_length_le (by simp), List.map_map] <;> rfl
        · have e : pathB t = ((partsS t).map nameB).all id := by
            unfold pathB
            rw [List.length_map] at c1
            rw [decide_eq_true c1, all_id] <;> rfl
          rw [← e]
          exact k _ (s1.trans s2)
    · rw [decide_eq_false c1]
      refine iteF ?_
      have e : pathB t = false := by
        unfold pathB
        rw [List.length_map] at c1
        rw [decide_eq_false c1, Bool.false_and]
      have q := k _ s1
      rw [e] at q
      exact q
def placeB (t : Str) : Bool := decide (V.str t = V.str "") || pathB t
def spPlace : Sp := fun vs H Q _ => ∃ t : Str, vs = [.str t] ∧ TxtOk t ∧ ∀ H', Same H H' → Q (.bl (placeB t)) H'
theorem sc_place : FnScope ["text"] ["text"] (defScope s_is_place) := ⟨rfl, rfl, rfl, by decide +kernel, rfl, by decide +kernel, by decide +kernel⟩
theorem ok_place (D : DefAt K mg "is_place" s_is_place) (cP : Cal P w K mg base CX0 2 "is_path" spPath) : Cal P w K mg base CX0 3 "is_place" spPlace := by
  refine cal0 D sc_place (fun _ _ _ _ _ _ us hl => match us, hl with | [_], _ => rfl) (fun vs H Q E h => ?_) (fun f cdv A outer s H vs Q E hr h => ?_)
  · obtain ⟨t, rfl, _⟩ := h
    rfl
  · obtain ⟨t, rfl, ht, k⟩ := h
    refine ⟨_, pss_one (ps_ret (pe_or (pe_cmpR op_eq (pv 0) pe_str (nomark _)) (pe_one (pe_c cP hr (Nat.le_refl _) (by rfl) (pa_cons (pv 0) pa_nil))))), ?_⟩
    refine ⟨_, rfl, rfl, _, rfl, ?_⟩
    by_cases c : V.str t = V.str ""
    · rw [decide_eq_true c]
      refine iteT ?_
      have e : placeB t = true := by
        unfold placeB
        rw [decide_eq_true c, Bool.true_or]
      have q := k _ (.refl H)
      rw [e] at q
      exact q
    · rw [decide_eq_false c]
      refine iteF ⟨_, rfl, t, rfl, ht, fun H' s' => ?_⟩
      have e : placeB t = pathB t := by
        unfold placeB
        rw [decide_eq_false c, Bool.false_or]
      rw [← e]
      exact k _ s'
/-! _is_plain, is_line, is_word, is_lines -/
def geB (c : Nat) : Bool := !decide ((⟨#[c]⟩ : Str).cps.toList < (" " : Str).cps.toList)
def leB (c : Nat) : Bool := !decide (("~" : Str).cps.toList < (⟨#[c]⟩ : Str).cps.toList)
def badC (c : Nat) : Bool := !(geB c && leB c) || (decide (V.str ⟨#[c]⟩ = V.str "\"") || decide (V.int ((c : Nat) : Int) = V.int 37))
def plainB (t : Str) : Bool := t.cps.toList.all fun c => !badC c
def spPlain : Sp := fun vs H Q _ => ∃ t : Str, vs = [.str t] ∧ Q (.bl (plainB t)) H
theorem sc_plain : FnScope ["text", "sign"] ["text"] (defScope s__is_plain) := ⟨rfl, rfl, rfl, by decide +kernel, rfl, by decide +kernel, by decide +kernel⟩
theorem ok_plain (D : DefAt K mg "_is_plain" s__is_plain) (T : Txt K mg) : Cal P w K mg base CX0 1 "_is_plain" spPlain := by
  refine cal0 D sc_plain (fun _ _ _ _ _ _ us hl => match us, hl with | [_], _ => rfl) (fun vs H Q E h => ?_) (fun f cdv A outer s H vs Q E hr h => ?_)
  · obtain ⟨t, rfl, _⟩ := h
    rfl
  · obtain ⟨t, rfl, k⟩ := h
    refine ⟨_, pss_cons (ps_for PassesOwn.never rfl (pi_str (pv 0)) (pg_name (i := 1) sc_plain.nd rfl (Or.inl rfl))
      (pss_one (ps_if (PW.pt (pw_or (pt_not (pt_chain op_le_str op_le_str pe_str (pv 1) pe_str)) (pw_or (pt_cmpR op_eq (pv 1) pe_str (nomark _)) (pw_or1 (pt_cmpR op_eq (pe_callB call_ord (by rfl) T.ord (by decide +kernel) (pa_cons (pv 1) pa_nil)) (pe_g (by rfl) T.PERCENT) (nomark _))))))
        (pss_one (ps_ret pe_bl)) pss_nil))) (pss_one (ps_ret pe_bl)), ?_⟩
    refine ⟨_, rfl, t, rfl, for_it walk_str (fun i σ H' => ∃ v : Option V, σ = [some (.str t), v] ∧ H' = H ∧ (t.cps.toList.take i).all (fun c => !badC c) = true) ⟨none, rfl, rfl, by rw [List.take_zero] <;> rfl⟩ (fun _ _ _ _ _ => trivial) ?_ ?_⟩
    · rintro i x σ H1 H2 hi ⟨v, rfl, rfl, ha⟩ ⟨rfl, c, hc, rfl⟩
      have e : t.cps.toList[i]? = some c := by rw [Array.getElem?_toList]; exact hc
      have bad : badC c = true → plainB t = false := fun hb => by
        refine Bool.eq_false_iff.mpr fun z => ?_
        have z2 := List.all_eq_true.mp z c (List.mem_of_getElem? e)
        rw [hb] at z2
        cases z2
      have good : badC c = false → (t.cps.toList.take (i + 1)).all (fun c => !badC c) = true := fun hb => by
        rw [take_more e, List.all_append, ha, List.all_cons, hb] <;> rfl
      have kF : badC c = true → Q (.bl false) H2 := fun hb => by
        rw [← bad hb]
        exact k
      refine ⟨_, rfl, " ", ⟨#[c]⟩, rfl, rfl, geB c, rfl, ?_⟩
      cases g : geB c with
      | false =>
        refine iteF ⟨false, rfl, ?_⟩
        exact kF (by unfold badC; rw [g] <;> rfl)
      | true =>
        refine iteT ⟨⟨#[c]⟩, "~", rfl, rfl, leB c, rfl, ?_⟩
        cases l : leB c with
        | false => exact kF (by unfold badC; rw [g, l] <;> rfl)
        | true =>
          refine ⟨_, rfl, rfl, _, rfl, ?_⟩
          by_cases c2 : V.str ⟨#[c]⟩ = V.str "\""
          · rw [decide_eq_true c2]
            exact kF (by unfold badC; rw [decide_eq_true c2, Bool.true_or, Bool.or_true])
          · rw [decide_eq_false c2]
            refine iteF ⟨_, rfl, _, rfl, rfl, rfl, _, rfl, ?_⟩
            by_cases c3 : V.int ((c : Nat) : Int) = V.int 37
            · have e3 : decide (V.int (((⟨#[c]⟩ : Str).cps.getD 0 0 : Nat) : Int) = V.int 37) = true := decide_eq_true c3
              rw [e3]
              exact kF (by unfold badC; rw [decide_eq_true c3, Bool.or_true, Bool.or_true])
            · have e3 : decide (V.int (((⟨#[c]⟩ : Str).cps.getD 0 0 : Nat) : Int) = V.int 37) = false := decide_eq_false c3
              rw [e3]
              exact ⟨_, rfl, rfl, good (by unfold badC; rw [decide_eq_false c2, decide_eq_false c3, g, l] <;> rfl)⟩
    · rintro σ H1 ⟨v, rfl, rfl, ha⟩
      have e : plainB t = true := by
        have z := ha
        rw [List.take_of_length_le (by simp)] at z
        exact z
      have q := k
      rw [e] at q
      exact q
def lineB (t : Str) : Bool := decide ((t.length : Int) ≤ 20) && plainB t
def wordB (t : Str) : Bool := decide ((1 : Int) ≤ (t.length : Int)) && decide ((t.length : Int) ≤ 12) && plainB t
def spLine : Sp := fun vs H Q _ => ∃ t : Str, vs = [.str t] ∧ t.length ≤ 1000 ∧ Q (.bl (lineB t)) H
def spWord : Sp := fun vs H Q _ => ∃ t : Str, vs = [.str t] ∧ t.length ≤ 1000 ∧ Q (.bl (wordB t)) H
theorem sc_line : FnScope ["text"] ["text"] (defScope s_is_line) := ⟨rfl, rfl, rfl, by decide +kernel, rfl, by decide +kernel, by decide +kernel⟩
theorem sc_word : FnScope ["text"] ["text"] (defScope s_is_word) := ⟨rfl, rfl, rfl, by decide +kernel, rfl, by decide +kernel, by decide +kernel⟩
theorem ok_line (D : DefAt K mg "is_line" s_is_line) (T : Txt K mg) (cP : Cal P w K mg base CX0 1 "_is_plain" spPlain) : Cal P w K mg base CX0 2 "is_line" spLine := by
  refine cal0 D sc_line (fun _ _ _ _ _ _ us hl => match us, hl with | [_], _ => rfl) (fun vs H Q E h => ?_) (fun f cdv A outer s H vs Q E hr h => ?_)
  · obtain ⟨t, rfl, _⟩ := h
    rfl
  · obtain ⟨t, rfl, hl, k⟩ := h
    refine ⟨_, pss_one (ps_ret (pe_and (pe_cmpR op_le (pe_callB call_len_str (by rfl) T.len PySem.boot_len (pa_cons (pv 0) pa_nil)) (pe_g (by rfl) T.LINE) (nomark _)) (pe_one (pe_c cP hr (Nat.le_refl _) (by rfl) (pa_cons (pv 0) pa_nil))))), ?_⟩
    refine ⟨_, rfl, t, rfl, Nat.le_trans hl (by decide), _, _, rfl, rfl, _, rfl, ?_⟩
    by_cases c : (t.length : Int) ≤ 20
    · rw [decide_eq_true c]
      refine iteT ⟨_, rfl, t, rfl, ?_⟩
      have e : lineB t = plainB t := by
        unfold lineB
        rw [decide_eq_true c, Bool.true_and]
      rw [← e]
      exact k
    · rw [decide_eq_false c]
      refine iteF ?_
      have e : lineB t = false := by
        unfold lineB
        rw [decide_eq_false c, Bool.false_and]
      rw [e] at k
      exact k
theorem ok_word (D : DefAt K mg "is_word" s_is_word) (T : Txt K mg) (cP : Cal P w K mg base CX0 1 "_is_plain" spPlain) : Cal P w K mg base CX0 2 "is_word" spWord := by
  refine cal0 D sc_word (fun _ _ _ _ _ _ us hl => match us, hl with | [_], _ => rfl) (fun vs H Q E h => ?_) (fun f cdv A outer s H vs Q E hr h => ?_)
  · obtain ⟨t, rfl, _⟩ := h
    rfl
  · obtain ⟨t, rfl, hl, k⟩ := h
    refine ⟨_, pss_one (ps_ret (pe_and (pe_chain op_le op_le pe_int (pe_callB call_len_str (by rfl) T.len PySem.boot_len (pa_cons (pv 0) pa_nil)) (pe_g (by rfl) T.WORD)) (pe_one (pe_c cP hr (Nat.le_refl _) (by rfl) (pa_cons (pv 0) pa_nil))))), ?_⟩
    refine ⟨_, rfl, t, rfl, Nat.le_trans hl (by decide), _, _, rfl, rfl, _, rfl, ?_⟩
    by_cases c1 : (1 : Int) ≤ (t.length : Int)
    · rw [decide_eq_true c1]
      refine iteT ⟨_, _, rfl, rfl, _, rfl, ?_⟩
      by_cases c : (t.length : Int) ≤ 12
      · rw [decide_eq_true c]
        refine iteT ⟨_, rfl, t, rfl, ?_⟩
        have e : wordB t = plainB t := by
          unfold wordB
          rw [decide_eq_true c, decide_eq_true c1, Bool.true_and, Bool.true_and]
        rw [← e]
        exact k
      · rw [decide_eq_false c]
        refine iteF ?_
        have e : wordB t = false := by
          unfold wordB
          rw [decide_eq_false c, Bool.and_false, Bool.false_and]
        rw [e] at k
        exact k
    · rw [decide_eq_false c1]
      refine iteF ⟨_, rfl, iteF ?_⟩
      have e : wordB t = false := by
        unfold wordB
        rw [decide_eq_false c1, Bool.false_and, Bool.false_and]
      rw [e] at k
      exact k
def linesB (ls : List Str) : Bool := decide ((ls.length : Int) ≤ 12) && ls.all lineB
def spLines (K : PySem.W.Frag) : Sp := fun vs H Q _ => ∃ (a : Addr) (ls : List Str), vs = [.ref a] ∧ SqT K H a (ls.map V.str) ∧ ls.length ≤ 1000 ∧ (∀ l ∈ ls, l.length ≤ 1000) ∧ ∀ H', Same H H' → Q (.bl (linesB ls)) H'
theorem seqT {H H' : Hp} {a : Addr} {xs : List V} (s : Same H H') (h : SqT K H a xs) : SqT K H' a xs := Tp.same s _ _ h
theorem sc_lines : FnScope ["lines", "line"] ["lines"] (defScope s_is_lines) := ⟨rfl, rfl, rfl, by decide +kernel, rfl, by decide +kernel, by decide +kernel⟩
theorem ok_lines (D : DefAt K mg "is_lines" s_is_lines) (T : Txt K mg) (cL : Cal P w K mg base CX0 2 "is_line" spLine) : Cal P w K mg base CX0 3 "is_lines" (spLines K) := by
  refine cal0 D sc_lines (fun _ _ _ _ _ _ us hl => match us, hl with | [_], _ => rfl) (fun vs H Q E h => ?_) (fun f cdv A outer s H vs Q E hr h => ?_)
  · obtain ⟨a, ls, rfl, _⟩ := h
    rfl
  · obtain ⟨a, ls, rfl, hT, hn, hl, k⟩ := h
    refine ⟨_, pss_one (ps_ret (pe_and (pe_cmpR op_le (pe_callB call_len_seq (by rfl) T.len PySem.boot_len (pa_cons (pv 0) pa_nil)) (pe_g (by rfl) T.LINES) (nomark _))
      (pe_one (pe_callB (cr_all rfl) (by rfl) T.all (by decide +kernel) (pa_cons (pe_lc (own := [("line", 1)]) (g := gName 1) (tt := tYes) rfl sc_lines.nd (pi_tup (pv 0)) (blkOk_by (N := ["lines", "line"]) (sc := defScope s_is_lines) (by decide +kernel))
          (fun _ _ _ _ _ => pg_name (i := 1) sc_lines.nd rfl (Or.inl rfl)) (fun _ _ _ _ _ => pts_nil) (fun _ _ _ _ _ => pe_c cL hr (Nat.le_refl _) (by rfl) (pa_cons (pv 1) pa_nil))) pa_nil))))), ?_⟩
    refine ⟨_, rfl, a, _, rfl, .inr hT, _, _, rfl, rfl, _, rfl, ?_⟩
    by_cases c1 : ((ls.map V.str).length : Int) ≤ 12
    · rw [decide_eq_true c1]
      refine iteT ⟨_, rfl, a, rfl, ⟨_, hT⟩, fun D hD => lc_it (walk_tup (xs := ls.map V.str)) (fun i H' => MadeAt H D ((ls.take i).map fun p => V.bl (lineB p)) H') (MadeAt.start hD) (fun i H' _ m => seqT m.1 hT) ?_ ?_⟩
      · rintro i x H1 H2 hi ⟨s2, h2⟩ ⟨rfl, hx⟩
        rw [List.getElem?_map] at hx
        obtain ⟨p, hp1, rfl⟩ := Option.map_eq_some_iff.mp hx
        refine ⟨rfl, lcY ⟨_, rfl, p, rfl, hl p (List.mem_of_getElem? hp1), ⟨_, h2, ?_, ?_⟩⟩⟩
        · rw [List.length_map, List.length_take]
          exact sl_lt (by omega)
        · rw [map_more _ hp1]
          exact MadeAt.push hD s2
      · rintro H1 ⟨s2, h2⟩
        refine ⟨D, ls.map lineB, rfl, ?_, ?_⟩
        · refine SqL.of ?_
          rw [h2, List.take_of_length_le (by simp), List.map_map] <;> rfl
        · have e : linesB ls = (ls.map lineB).all id := by
            unfold linesB
            rw [List.length_map] at c1
            rw [decide_eq_true c1, all_id] <;> rfl
          rw [← e]
          exact k _ s2
    · rw [decide_eq_false c1]
      refine iteF ?_
      have e : linesB ls = false := by
        unfold linesB
        rw [List.length_map] at c1
        rw [decide_eq_false c1, Bool.false_and]
      have q := k _ (.refl H)
      rw [e] at q
      exact q
end
end K23
/-! ### shapes of data; actions, rows -/
namespace K23
open PySem PySem.Spec PyProof.Rows L2
theorem ifT {b : Bool} {A B : Prop} (h : b = true) (q : A) : if b = true then A else B := by
  rw [if_pos h]
  exact q
theorem ifF {b : Bool} {A B : Prop} (h : b = false) (q : B) : if b = true then A else B := by
  rw [h]
  exact iteF q
/-- data that == may look at, no deeper than n -/
def Sh (n : Nat) (d : PyData) : Prop := d.canLay0 = true ∧ d.depth ≤ n
theorem Sh.shaped {n : Nat} {d : PyData} (h : Sh n d) (hn : n ≤ 64 := by decide) : SeqAt.shaped d = true := by
  show (d.canLay0 && decide (d.depth ≤ 64)) = true
  rw [h.1, decide_eq_true (Nat.le_trans h.2 hn)] <;> rfl
theorem Sh.mono {n m : Nat} {d : PyData} (h : Sh n d) (hn : n ≤ m) : Sh m d := ⟨h.1, Nat.le_trans h.2 hn⟩
theorem Sh.int {n : Nat} (i : Int) : Sh n (.int i) := ⟨by simp [PyData.canLay0], by simp [PyData.depth]⟩
theorem Sh.str {n : Nat} {x : Str} (h : PySem.PyData.strOk x = true) : Sh n (.str x) := ⟨by simpa [PyData.canLay0] using h, by simp [PyData.depth]⟩
theorem canAll {n : Nat} : ∀ {ds : List PyData}, (∀ d ∈ ds, Sh n d) → PyData.canLayAll0 ds = true ∧ PyData.depthAll ds ≤ n
  | [], _ => ⟨by simp [PyData.canLayAll0], by simp [PyData.depthAll]⟩
  | d :: ds, h => by
    have h1 := h d (List.mem_cons_self ..)
    obtain ⟨h2, h3⟩ := canAll (ds := ds) fun e he => h e (List.mem_cons_of_mem _ he)
    have h4 := h1.2
    refine ⟨by simp only [PyData.canLayAll0, h1.1, h2, Bool.and_self], ?_⟩
    simp only [PyData.depthAll]
    omega
theorem Sh.tuple {n : Nat} {ds : List PyData} (h : ∀ d ∈ ds, Sh n d) : Sh (n + 1) (.tuple ds) := by
  obtain ⟨h1, h2⟩ := canAll h
  refine ⟨by simpa only [PyData.canLay0] using h1, ?_⟩
  simp only [PyData.depth]
  omega
theorem Sh.list {n : Nat} {ds : List PyData} (h : ∀ d ∈ ds, Sh n d) : Sh (n + 1) (.list ds) := by
  obtain ⟨h1, h2⟩ := canAll h
  refine ⟨by simpa only [PyData.canLay0] using h1, ?_⟩
  simp only [PyData.depth]
  omega
theorem Sh.refl {n : Nat} {d : PyData} (h : Sh n d) : PyData.eqv d d = true := SeqAt.eqv_refl d h.1
theorem sh_nil {n : Nat} : ∀ d ∈ ([] : List PyData), Sh n d := fun _ h => nomatch h
theorem sh_cons {n : Nat} {d : PyData} {ds : List PyData} (h : Sh n d) (r : ∀ e ∈ ds, Sh n e) : ∀ e ∈ d :: ds, Sh n e := fun e he => by
  rcases List.mem_cons.mp he with q | q
  · rw [q]
    exact h
  · exact r e q
theorem sh_strs {n : Nat} {xs : List Str} (h : ∀ x ∈ xs, PySem.PyData.strOk x = true) : ∀ d ∈ xs.map PyData.str, Sh n d := fun d hd => by
  obtain ⟨x, hx, rfl⟩ := List.mem_map.mp hd
  exact .str (h x hx)

/-- an item of a tuple, by its place -/
theorem TD.ix {K : PySem.W.Frag} {H : Hp} {a : Addr} {ds : List PyData} {i : Nat} {d : PyData} (h : TD K H (.ref a) (.tuple ds)) (hd : ds[i]? = some d) : ∃ xs v, SqT K H a xs ∧ atI xs ((i : Nat) : Int) = some v ∧ TD K H v d := by
  obtain ⟨b, xs, e, h1, h2⟩ := h.tup_inv
  cases e
  obtain ⟨v, hv, hd2⟩ := h2.get' hd
  exact ⟨xs, v, h1, atI_nat hv, hd2⟩

/-! ### actions -/
inductive Act where
  | two (w p : Str)
  | find (p x : Str)
  | write (p : Str) (ls : List Str)
  | move (p q : Str)
  | splice (p : Str) (o n : List Str)
def ldD (ls : List Str) : PyData := .tuple (ls.map PyData.str)
def Act.items : Act → List PyData
  | .two w p => [.str w, .str p]
  | .find p x => [.str "find", .str p, .str x]
  | .write p ls => [.str "write", .str p, ldD ls]
  | .move p q => [.str "move", .str p, .str q]
  | .splice p o n => [.str "splice", .str p, ldD o, ldD n]
def Act.d (A : Act) : PyData := .tuple A.items
def Act.word : Act → Str
  | .two w _ => w
  | .find .. => "find"
  | .write .. => "write"
  | .move .. => "move"
  | .splice .. => "splice"
def Act.path : Act → Str
  | .two _ p => p
  | .find p _ => p
  | .write p _ => p
  | .move p _ => p
  | .splice p _ _ => p
/-- a text that may stand anywhere here -/
def TOk (t : Str) : Prop := TxtOk t ∧ PySem.PyData.strOk t = true
instance (t : Str) : Decidable (TOk t) := by unfold TOk; infer_instance
def LsOk (ls : List Str) : Prop := ls.length ≤ 1000 ∧ ∀ l ∈ ls, TOk l
def twoWs : List Str := ["read", "kind", "list", "count", "remove"]
def Act.WF : Act → Prop
  | .two w p => w ∈ twoWs ∧ TOk p
  | .find p x => TOk p ∧ TOk x
  | .write p ls => TOk p ∧ LsOk ls
  | .move p q => TOk p ∧ TOk q
  | .splice p o n => TOk p ∧ LsOk o ∧ LsOk n
def kindB (w : Str) : Bool := decide (V.str w = V.str "kind") || (decide (V.str w = V.str "list") || (decide (V.str w = V.str "count") || decide (V.str w = V.str "find")))
def Act.okB : Act → Bool
  | .two w p => if kindB w = true then placeB p else pathB p
  | .find p x => placeB p && wordB x
  | .write p ls => pathB p && linesB ls
  | .move p q => pathB p && pathB q
  | .splice p o n => pathB p && ((linesB o && decide ((0 : Int) < (o.length : Int))) && linesB n)
theorem Act.it0 (A : Act) : A.items[0]? = some (.str A.word) := by cases A <;> rfl
theorem Act.it1 (A : Act) : A.items[1]? = some (.str A.path) := by cases A <;> rfl
theorem twoOk : ∀ w ∈ twoWs, PySem.PyData.strOk w = true := by decide +kernel
theorem ldD_sh {ls : List Str} (h : LsOk ls) : Sh 1 (ldD ls) := .tuple (sh_strs fun x hx => (h.2 x hx).2)
theorem Act.sh {A : Act} (h : A.WF) : Sh 2 A.d := by
  refine .tuple ?_
  cases A with
  | two w p => exact sh_cons (.str (twoOk w h.1)) (sh_cons (.str h.2.2) sh_nil)
  | find p x => exact sh_cons (.str (by decide +kernel)) (sh_cons (.str h.1.2) (sh_cons (.str h.2.2) sh_nil))
  | write p ls => exact sh_cons (.str (by decide +kernel)) (sh_cons (.str h.1.2) (sh_cons (ldD_sh h.2) sh_nil))
  | move p q => exact sh_cons (.str (by decide +kernel)) (sh_cons (.str h.1.2) (sh_cons (.str h.2.2) sh_nil))
  | splice p o n => exact sh_cons (.str (by decide +kernel)) (sh_cons (.str h.1.2) (sh_cons (ldD_sh h.2.1) (sh_cons (ldD_sh h.2.2) sh_nil)))
theorem Act.tok {A : Act} (h : A.WF) : TOk A.path := by
  cases A with
  | two w p => exact h.2
  | find p x => exact h.1
  | write p ls => exact h.1
  | move p q => exact h.1
  | splice p o n => exact h.1

/-! ### rows -/
structure Case where
  ans : PyData
  nxt : Int
def Case.d (c : Case) : PyData := .tuple [c.ans, .int c.nxt]
inductive Row where
  | stop
  | act (A : Act) (cs : List Case) (o : Int)
def Row.d : Row → PyData
  | .stop => .tuple [.str "stop"]
  | .act A cs o => .tuple [.str "act", A.d, .tuple (cs.map Case.d), .int o]
def CsOk (cs : List Case) : Prop := cs.length ≤ 1000 ∧ ∀ c ∈ cs, Sh 10 c.ans
def Row.WF : Row → Prop
  | .stop => True
  | .act A cs _ => A.WF ∧ CsOk cs
theorem Case.sh {c : Case} (h : Sh 10 c.ans) : Sh 11 c.d := .tuple (sh_cons h (sh_cons (.int _) sh_nil))
theorem cs_sh {cs : List Case} (h : CsOk cs) : ∀ d ∈ cs.map Case.d, Sh 11 d := fun d hd => by
  obtain ⟨c, hc, rfl⟩ := List.mem_map.mp hd
  exact Case.sh (h.2 c hc)
theorem Row.sh {r : Row} (h : r.WF) : Sh 13 r.d := by
  cases r with
  | stop => exact .tuple (sh_cons (.str (by decide +kernel)) sh_nil)
  | act A cs o => exact .tuple (sh_cons (.str (by decide +kernel)) (sh_cons ((Act.sh h.1).mono (by decide)) (sh_cons (Sh.tuple (cs_sh h.2)) (sh_cons (.int _) sh_nil))))
def rowB (A : Act) (cs : List Case) (o at_ many : Int) : Bool :=
  A.okB && (!(decide ((6 : Int) < (cs.length : Int)) || (cs.map Case.ans).any fun a => decide ((1 : Int) < (((cs.map Case.ans).countP fun z => PyData.eqv z a : Nat) : Int))) &&
    ((decide (at_ < o) && decide (o < many)) && cs.all fun c => decide (at_ < c.nxt) && decide (c.nxt < many)))
def rowOk (n i : Nat) : Row → Bool
  | .stop => true
  | .act A cs o => rowB A cs o (i : Int) (n : Int)
structure AgentOk (rows : List Row) : Prop where
  lo : 1 ≤ rows.length
  hi : rows.length ≤ 24
  last : rows.getLast? = some .stop
  all : ∀ i r, rows[i]? = some r → rowOk rows.length i r = true
theorem stop_eqv (r : Row) : PyData.eqv r.d (.tuple [.str "stop"]) = (match r with | .stop => true | _ => false) := by
  cases r with
  | stop => rfl
  | act A cs o =>
    show PyData.eqv (.tuple [.str "act", A.d, .tuple (cs.map Case.d), .int o]) (.tuple [.str "stop"]) = false
    simp only [PyData.eqv, PyData.eqvAll]
    rfl
end K23
/-! ### the error; _check, check_action -/
namespace K23
open PySem PySem.Spec PyProof.Rows L2
structure ExT (K : PySem.W.Frag) (mg : Str → Option Value) (C fI : Addr) : Prop where
  oex : OexC K C
  iC : PySem.W.findIn K (.ref C) "__init__" = some (some (.ref fI))
  tI : PySem.W.typeIn K (.ref fI) = some (.type "function")
  noN : PySem.W.findIn K (.ref C) "name" = some none
  gC : mg "OutOfRange" = some (.ref C)
  exm : PySem.W.exmOne K (.ref C) (.ref C) = some true
  xf : XfC K C
  fn : ∃ fd : FuncData, FunD K "__init__" "OutOfRange.__init__" (defArgs s_init) (defBody s_init) (defScope s_init) [] [] fI fd
/-- behind an error: all that was tracked stands; d is the error's own dict -/
structure ErrAt (H H' : Hp) (d : Addr) (z : Str) : Prop where
  same : Same H H'
  at_ : H' d = some (.xd [(("name" : Str), V.str z)])
theorem ErrAt.back {H H1 H' : Hp} {d : Addr} {z : Str} (s : Same H H1) (e : ErrAt H1 H' d z) : ErrAt H H' d z := ⟨s.trans e.same, e.at_⟩
section
variable {P : Program} {w : World} {K : PySem.W.Frag} {mg : Str → Option Value} {base : Heap} {C fI : Addr}
def spInit (K : PySem.W.Frag) (C : Addr) : Sp := fun vs H Q _ => ∃ (a : Addr) (z : Str), vs = [.ref a, .str z] ∧ H a = some (exo a C none) ∧ ∀ dx, H dx = none → dx ≠ a → Q .non (upd (upd H dx (exd dx [(("name" : Str), V.str z)])) a (exo a C (some dx)))
theorem sc_init : FnScope ["self", "name"] ["self", "name"] (defScope s_init) := ⟨rfl, rfl, rfl, by decide +kernel, rfl, by decide +kernel, by decide +kernel⟩
theorem ok_init {fd : FuncData} (F : FunD K "__init__" "OutOfRange.__init__" (defArgs s_init) (defBody s_init) (defScope s_init) [] [] fI fd) (X : ExT K mg C fI) : FnOk P w K mg base CX0 1 fI fd ["self", "name"] (spInit K C) := by
  refine F.ok sc_init (fun vs H Q E h => ?_) (fun cdv A outer s H vs Q E hr h => ?_)
  · obtain ⟨a, z, rfl, _⟩ := h
    rfl
  · obtain ⟨a, z, rfl, ha, k⟩ := h
    refine ⟨_, PSs.nox (pss_one (ps_ost (pv 0) (pv 1))), ?_⟩
    exact ⟨_, rfl, _, rfl, a, C, rfl, X.oex, X.noN, .inl ⟨ha, fun dx h1 h2 => k dx h1 h2⟩⟩
def spCheck (C : Addr) : Sp := fun vs H Q E => ∃ (g : Bool) (z : Str), vs = [.bl g, .str z] ∧ (g = true → Q .non H) ∧ (g = false → ∀ d H', ErrAt H H' d z → E (.ref C) (some d) H')
theorem sc_check : FnScope ["good", "name"] ["good", "name"] (defScope s__check) := ⟨rfl, rfl, rfl, by decide +kernel, rfl, by decide +kernel, by decide +kernel⟩
/-- the heap behind a made and raised error -/
theorem err_heap {H H2 : Hp} {a d : Addr} {z : Str} {fs : List (Str × V)} (ha : H a = none) (hd : H d = none) (s : ∀ b o, b ≠ a → H b = some o → H2 b = some o) (e : fs = [(("name" : Str), V.str z)]) : ErrAt H (upd (del H2 a) d (.xd fs)) d z := by
  subst e
  refine ⟨fun b o q => ?_, upd_same⟩
  have n1 : b ≠ d := ne_of_none q hd
  have n2 : b ≠ a := ne_of_none q ha
  rw [upd_ne n1, del_ne n2]
  exact s b o n2 q
/-- OutOfRange(z), made: its reading -/
theorem mk_read {H : Hp} {Q : XK} {z : Str} {vs : List V} (ev : vs = [.str z]) (h : ∀ d H', ErrAt H H' d z → Q (.ref C) (some d) H') :
    vs.length ≤ 1000 ∧ ∀ a, H a = none → spInit K C (.ref a :: (vs ++ [])) (upd H a (exo a C none)) (fun v H2 => v = .non ∧ ∃ (d : Addr) (fs : List (Str × V)), H2 a = some (exo a C (some d)) ∧ H2 d = some (exd d fs) ∧ H d = none ∧ Q (.ref C) (some d) (upd (del H2 a) d (.xd fs))) (fun _ _ _ => False) := by
  subst ev
  refine ⟨by show 1 ≤ 1000; decide, fun a ha => ⟨a, z, rfl, upd_same, fun dx h1 h2 => ⟨rfl, dx, [(("name" : Str), V.str z)], upd_same, ?_, ?_, ?_⟩⟩⟩
  · rw [upd_ne h2]
    exact upd_same
  · rw [upd_ne h2] at h1
    exact h1
  · rw [upd_ne h2] at h1
    refine h dx _ (err_heap ha h1 (fun b o n q => ?_) rfl)
    rw [upd_ne n, upd_ne (ne_of_none q h1), upd_ne n]
    exact q
theorem ok_check (D : DefAt K mg "_check" s__check) (X : ExT K mg C fI) : Cal P w K mg base (L2.CX P w) 3 "_check" (spCheck C) := by
  obtain ⟨fd, FI⟩ := X.fn
  have GI : FnOk P w K mg base CX0 1 fI fd ["self", "name"] (spInit K C) := ok_init FI X
  have bI : Binds K fd ["self", "name"] [] := FI.bindsN fun _ _ _ _ _ _ us hl => match us, hl with | [_, _], _ => rfl
  refine calX D sc_check (fun _ _ _ _ _ _ us hl => match us, hl with | [_, _], _ => rfl) (fun vs H Q E h => ?_) (fun f cdv A outer s H vs Q E hr h => ?_)
  · obtain ⟨g, z, rfl, _⟩ := h
    rfl
  · obtain ⟨g, z, rfl, kT, kF⟩ := h
    refine ⟨_, pss_one (ps_if (pt_not (pt_val (pv 0))) (pss_one (ps_raise rfl (takes_of rfl rfl rfl rfl) (pmk_oex X.oex X.iC X.tI GI hr bI .nil pass0 rfl X.gC (pa_cons (pv 1) pa_nil)))) pss_nil), ?_⟩
    refine ⟨_, rfl, g, rfl, ?_⟩
    cases g with
    | true => exact iteF (kT rfl)
    | false => exact iteT ⟨_, rfl, mk_read rfl (kF rfl)⟩
/-! check_action -/
theorem pe_cE {X : Cx} {k j : Nat} {x : Str} {sp : Sp} {p pos : Pos} {e : Expr} {es : List Expr} {t : TA} {E : XK} (c : Cal X.prog X.w X.K X.mg X.base (L2.CX X.prog X.w) k x sp) (hx : Passes (L2.CX X.prog X.w) X E) (hr : Room j X.A) (hk : k ≤ j) (hg : Gl X x) (ha : PA X (e :: es) t)
    (hdb : (x == ("__debug__" : Str)) = false := by decide) (he : starEach (e :: es) X.env = (false, eval e X.env) :: starEach es X.env := by rfl) (hpl : (backTo pos (starEach es X.env)).any (·.1) = false := by rfl) :
    PE X (.Call (.Name x p) (e :: es) [] pos) (tCall sp [] E t) := by
  obtain ⟨f, fd, ps, F, hm, kp, b⟩ := c.ex
  exact pe_call F (hr.mono hk) hg hm kp b .nil hx ha hdb he hpl
def spChkAct (K : PySem.W.Frag) (C : Addr) : Sp := fun vs H Q E => ∃ (a : Addr) (A : Act), vs = [.ref a] ∧ TD K H (.ref a) A.d ∧ A.WF ∧ (A.okB = true → ∀ H', Same H H' → Q .non H') ∧ (A.okB = false → ∀ z d H', ErrAt H H' d z → E (.ref C) (some d) H')
theorem sc_chka : FnScope ["action", "word"] ["action"] (defScope s_check_action) := ⟨rfl, rfl, rfl, by decide +kernel, rfl, by decide +kernel, by decide +kernel⟩
abbrev rIx2 (K : PySem.W.Frag) : TE := tOp (rIxT K) (tVar 0) (tC (.int 1))
/-- action[i] -/
theorem rd_ix {K : PySem.W.Frag} {σ : L2.St} {H : Hp} {Q : VK} {a : Addr} {ds : List PyData} {i : Nat} {n : Int} {d : PyData} (s0 : σ[0]? = some (some (.ref a))) (h : TD K H (.ref a) (.tuple ds)) (hd : ds[i]? = some d) (hn : n = ((i : Nat) : Int)) (q : ∀ v, TD K H v d → Q v H) :
    tOp (rIxT K) (tVar 0) (tC (.int n)) σ H Q := by
  subst hn
  obtain ⟨xs, v, h1, h2, h3⟩ := h.ix hd
  exact ⟨_, s0, a, xs, _, v, rfl, rfl, h1, h2, q v h3⟩
theorem rd_ixS {K : PySem.W.Frag} {σ : L2.St} {H : Hp} {Q : VK} {a : Addr} {ds : List PyData} {i : Nat} {n : Int} {x : Str} (s0 : σ[0]? = some (some (.ref a))) (h : TD K H (.ref a) (.tuple ds)) (hd : ds[i]? = some (.str x)) (hn : n = ((i : Nat) : Int)) (q : Q (.str x) H) :
    tOp (rIxT K) (tVar 0) (tC (.int n)) σ H Q := rd_ix s0 h hd hn fun v hv => by
  rw [hv.str_inv]
  exact q
/-- action[i], lines -/
theorem rd_ixL {K : PySem.W.Frag} {σ : L2.St} {H : Hp} {Q : VK} {a : Addr} {ds : List PyData} {i : Nat} {n : Int} {ls : List Str} (s0 : σ[0]? = some (some (.ref a))) (h : TD K H (.ref a) (.tuple ds)) (hd : ds[i]? = some (ldD ls)) (hn : n = ((i : Nat) : Int)) (q : ∀ b, SqT K H b (ls.map V.str) → Q (.ref b) H) :
    tOp (rIxT K) (tVar 0) (tC (.int n)) σ H Q := rd_ix s0 h hd hn fun v hv => by
  obtain ⟨b, xs, rfl, h1, h2⟩ := hv.tup_inv
  rw [h2.strs_inv] at h1
  exact q b h1
/-- word == literal -/
theorem rd_eqS {σ : L2.St} {H : Hp} {Q : Bool → Hp → Prop} {i : Nat} {x y : Str} (s : σ[i]? = some (some (.str x))) (q : Q (decide (V.str x = V.str y)) H) : tTest (tOp rEq (tVar i) (tC (.str y))) σ H Q := ⟨_, s, rfl, _, rfl, q⟩
theorem rd_if {c : TT} {t u : TS} {D : Ends} {σ : L2.St} {H : Hp} (h : c σ H fun b H1 => if b = true then t D σ H1 else u D σ H1) : tIfS c t u D σ H := h
theorem rd_or {t u : TT} {σ : L2.St} {H : Hp} {Q : Bool → Hp → Prop} {b c : Bool} (h : ∀ Q : Bool → Hp → Prop, Q b H → t σ H Q) (h2 : ∀ Q : Bool → Hp → Prop, Q c H → u σ H Q) (q : Q (b || c) H) : tOr t u σ H Q := by
  refine h _ ?_
  cases b with
  | true => exact iteT q
  | false => exact iteF (h2 _ q)
theorem rd_kind {σ : L2.St} {H : Hp} {Q : Bool → Hp → Prop} {i : Nat} {x : Str} (s : σ[i]? = some (some (.str x))) (q : Q (kindB x) H) :
    tOr (tTest (tOp rEq (tVar i) (tC (.str "kind")))) (tOr (tTest (tOp rEq (tVar i) (tC (.str "list")))) (tOr (tTest (tOp rEq (tVar i) (tC (.str "count")))) (tTest (tOp rEq (tVar i) (tC (.str "find")))))) σ H Q :=
  rd_or (fun _ q => rd_eqS s q) (fun _ q => rd_or (fun _ q => rd_eqS s q) (fun _ q => rd_or (fun _ q => rd_eqS s q) (fun _ q => rd_eqS s q) q) q) q
def Act.firstB (A : Act) : Bool := if kindB A.word = true then placeB A.path else pathB A.path
def Act.secondB : Act → Bool
  | .two _ _ => true
  | .find _ x => wordB x
  | .write _ ls => linesB ls
  | .move _ q => pathB q
  | .splice _ o n => (linesB o && decide ((0 : Int) < (o.length : Int))) && linesB n
theorem kb_find : kindB "find" = true := by decide +kernel
theorem kb_write : kindB "write" = false := by decide +kernel
theorem kb_move : kindB "move" = false := by decide +kernel
theorem kb_splice : kindB "splice" = false := by decide +kernel
theorem Act.okB_eq (A : Act) : A.okB = (A.firstB && A.secondB) := by
  cases A with
  | two w p => exact (Bool.and_true _).symm
  | find p x =>
    show (placeB p && wordB x) = ((if kindB "find" = true then placeB p else pathB p) && wordB x)
    rw [kb_find, if_pos rfl]
  | write p x =>
    show (pathB p && linesB x) = ((if kindB "write" = true then placeB p else pathB p) && linesB x)
    rw [kb_write, if_neg Bool.false_ne_true]
  | move p x =>
    show (pathB p && pathB x) = ((if kindB "move" = true then placeB p else pathB p) && pathB x)
    rw [kb_move, if_neg Bool.false_ne_true]
  | splice p o n =>
    show (pathB p && ((linesB o && decide ((0 : Int) < (o.length : Int))) && linesB n)) = ((if kindB "splice" = true then placeB p else pathB p) && ((linesB o && decide ((0 : Int) < (o.length : Int))) && linesB n))
    rw [kb_splice, if_neg Bool.false_ne_true]
theorem two_find : ∀ w ∈ twoWs, decide (V.str w = V.str "find") = false := by decide +kernel
theorem two_write : ∀ w ∈ twoWs, decide (V.str w = V.str "write") = false := by decide +kernel
theorem two_move : ∀ w ∈ twoWs, decide (V.str w = V.str "move") = false := by decide +kernel
theorem two_splice : ∀ w ∈ twoWs, decide (V.str w = V.str "splice") = false := by decide +kernel
theorem ok_chka (D : DefAt K mg "check_action" s_check_action) (T : Txt K mg) (cC : Cal P w K mg base (L2.CX P w) 3 "_check" (spCheck C)) (cP : Cal P w K mg base CX0 2 "is_path" spPath) (cL : Cal P w K mg base CX0 3 "is_place" spPlace)
    (cW : Cal P w K mg base CX0 2 "is_word" spWord) (cLs : Cal P w K mg base CX0 3 "is_lines" (spLines K)) : Cal P w K mg base (L2.CX P w) 4 "check_action" (spChkAct K C) := by
  refine calX D sc_chka (fun _ _ _ _ _ _ us hl => match us, hl with | [_], _ => rfl) (fun vs H Q E h => ?_) (fun f cdv A outer s H vs Q E hr h => ?_)
  · obtain ⟨a, A, rfl, _⟩ := h
    rfl
  · obtain ⟨a, Ac, rfl, hT, hW, kT, kF⟩ := h
    have hx := passes_call (takes_of (X := cxOf (L2.CX P w) P w K mg base ["action", "word"] "check_action" (defScope s_check_action) f cdv A outer s H E) rfl rfl rfl rfl) (E := E) (fun _ _ _ _ h => h)
    refine ⟨_, pss_cons (ps_set (i := 1) sc_chka.nd rfl (Or.inl rfl) (pe_ix ix_tup (pv 0) pe_int (fun _ _ => rfl)))
      (C8.pss_cut (ps_if (PW.pt (pw_or (pt_cmpR op_eq (pv 1) pe_str (nomark _)) (pw_or (pt_cmpR op_eq (pv 1) pe_str (nomark _)) (pw_or (pt_cmpR op_eq (pv 1) pe_str (nomark _)) (pw_or1 (pt_cmpR op_eq (pv 1) pe_str (nomark _)))))))
        (pss_one (ps_expr (pe_cE cC hx hr (by decide) (by rfl) (pa_cons (pe_c cL hr (by decide) (by rfl) (pa_cons (pe_ix ix_tup (pv 0) pe_int (fun _ _ => rfl)) pa_nil)) (pa_cons pe_str pa_nil)))))
        (pss_one (ps_expr (pe_cE cC hx hr (by decide) (by rfl) (pa_cons (pe_c cP hr (by decide) (by rfl) (pa_cons (pe_ix ix_tup (pv 0) pe_int (fun _ _ => rfl)) pa_nil)) (pa_cons pe_str pa_nil))))))
      (pss_one (ps_if (pt_cmpR op_eq (pv 1) pe_str (nomark _))
        (pss_one (ps_expr (pe_cE cC hx hr (by decide) (by rfl) (pa_cons (pe_c cW hr (by decide) (by rfl) (pa_cons (pe_ix ix_tup (pv 0) pe_int (fun _ _ => rfl)) pa_nil)) (pa_cons pe_str pa_nil)))))
        (pss_one (ps_if (pt_cmpR op_eq (pv 1) pe_str (nomark _))
          (pss_one (ps_expr (pe_cE cC hx hr (by decide) (by rfl) (pa_cons (pe_c cLs hr (by decide) (by rfl) (pa_cons (pe_ix ix_tup (pv 0) pe_int (fun _ _ => rfl)) pa_nil)) (pa_cons pe_str pa_nil)))))
          (pss_one (ps_if (pt_cmpR op_eq (pv 1) pe_str (nomark _))
            (pss_one (ps_expr (pe_cE cC hx hr (by decide) (by rfl) (pa_cons (pe_c cP hr (by decide) (by rfl) (pa_cons (pe_ix ix_tup (pv 0) pe_int (fun _ _ => rfl)) pa_nil)) (pa_cons pe_str pa_nil)))))
            (pss_one (ps_if (pt_cmpR op_eq (pv 1) pe_str (nomark _))
              (pss_cons (ps_expr (pe_cE cC hx hr (by decide) (by rfl) (pa_cons (pe_and (pe_c cLs hr (by decide) (by rfl) (pa_cons (pe_ix ix_tup (pv 0) pe_int (fun _ _ => rfl)) pa_nil)) (pe_one (pe_cmpR op_gt (pe_callB call_len_seq (by rfl) T.len PySem.boot_len (pa_cons (pe_ix ix_tup (pv 0) pe_int (fun _ _ => rfl)) pa_nil)) pe_int (nomark _)))) (pa_cons pe_str pa_nil))))
                (pss_one (ps_expr (pe_cE cC hx hr (by decide) (by rfl) (pa_cons (pe_c cLs hr (by decide) (by rfl) (pa_cons (pe_ix ix_tup (pv 0) pe_int (fun _ _ => rfl)) pa_nil)) (pa_cons pe_str pa_nil))))))
              pss_nil))))))))), ?_⟩
    refine rd_ixS rfl hT Ac.it0 rfl ?_
    have hp := (Act.tok hW).1
    have bad1 : Ac.firstB = false → Ac.okB = false := fun g => by rw [Act.okB_eq, g, Bool.false_and]
    refine ⟨fun σ' H' => σ' = [some (.ref a), some (.str Ac.word)] ∧ Same H H' ∧ Ac.firstB = true, ?_, ?_⟩
    · refine rd_if ?_
      refine rd_kind (i := 1) rfl ?_
      refine ite2 (fun c => ?_) (fun c => ?_)
      · have ef : Ac.firstB = placeB Ac.path := if_pos c
        refine rd_ixS rfl hT Ac.it1 rfl ⟨_, rfl, hp, fun H1 s1 => ⟨placeB Ac.path, _, rfl, fun g => ⟨rfl, s1, ef.trans g⟩, fun g d H' e => kF (bad1 (ef.trans g)) _ d H' (e.back s1)⟩⟩
      · have ef : Ac.firstB = pathB Ac.path := if_neg c
        refine rd_ixS rfl hT Ac.it1 rfl ⟨_, rfl, hp, fun H1 s1 => ⟨pathB Ac.path, _, rfl, fun g => ⟨rfl, s1, ef.trans g⟩, fun g d H' e => kF (bad1 (ef.trans g)) _ d H' (e.back s1)⟩⟩
    · rintro σ1 H1 ⟨rfl, s1, h1⟩
      have eB : Ac.okB = Ac.secondB := by rw [Act.okB_eq, h1, Bool.true_and]
      rw [eB] at kT kF
      have hT1 := hT.mono (.same s1)
      cases Ac with
      | two w p =>
        refine rd_eqS rfl (ifF (two_find w hW.1) (rd_eqS rfl (ifF (two_write w hW.1) (rd_eqS rfl (ifF (two_move w hW.1) (rd_eqS rfl (ifF (two_splice w hW.1) ?_)))))))
        exact kT rfl _ s1
      | find p x =>
        refine rd_eqS rfl (ifT (show decide (V.str "find" = V.str "find") = true from by decide +kernel) ?_)
        refine rd_ixS rfl hT1 (i := 2) rfl rfl ⟨x, rfl, hW.2.1.1, ⟨wordB x, _, rfl, fun g => kT g _ s1, fun g d H' e => kF g _ d H' (e.back s1)⟩⟩
      | write p ls =>
        refine rd_eqS rfl (ifF (show decide (V.str "write" = V.str "find") = false from by decide +kernel) (rd_eqS rfl (ifT (show decide (V.str "write" = V.str "write") = true from by decide +kernel) ?_)))
        refine rd_ixL rfl hT1 (i := 2) rfl rfl fun b hb => ⟨b, ls, rfl, hb, hW.2.1, fun l hl => (hW.2.2 l hl).1.1, fun H2 s2 => ⟨linesB ls, _, rfl, fun g => kT g _ (s1.trans s2), fun g d H' e => kF g _ d H' (e.back (s1.trans s2))⟩⟩
      | move p q =>
        refine rd_eqS rfl (ifF (show decide (V.str "move" = V.str "find") = false from by decide +kernel) (rd_eqS rfl (ifF (show decide (V.str "move" = V.str "write") = false from by decide +kernel) (rd_eqS rfl (ifT (show decide (V.str "move" = V.str "move") = true from by decide +kernel) ?_)))))
        refine rd_ixS rfl hT1 (i := 2) rfl rfl ⟨q, rfl, hW.2.1, fun H2 s2 => ⟨pathB q, _, rfl, fun g => kT g _ (s1.trans s2), fun g d H' e => kF g _ d H' (e.back (s1.trans s2))⟩⟩
      | splice p o n =>
        refine rd_eqS rfl (ifF (show decide (V.str "splice" = V.str "find") = false from by decide +kernel) (rd_eqS rfl (ifF (show decide (V.str "splice" = V.str "write") = false from by decide +kernel) (rd_eqS rfl (ifF (show decide (V.str "splice" = V.str "move") = false from by decide +kernel) (rd_eqS rfl (ifT (show decide (V.str "splice" = V.str "splice") = true from by decide +kernel) ?_)))))))
        have last : ∀ H2, Same H H2 → (linesB o && decide ((0 : Int) < (o.length : Int))) = true → tDrop (tCall (spCheck C) [] E (tCons (tCall (spLines K) [] E0 (tCons (tOp (rIxT K) (tVar 0) (tC (.int 3))) tNil)) (tCons (tC (.str "new")) tNil))) { nx := fun _ H' => Q .non H', rt := Q } [some (.ref a), some (.str "splice")] H2 := fun H2 s2 g2 => by
          have e2 : (Act.splice p o n).secondB = linesB n := by
            show ((linesB o && decide ((0 : Int) < (o.length : Int))) && linesB n) = linesB n
            rw [g2, Bool.true_and]
          rw [e2] at kT kF
          refine rd_ixL rfl (hT.mono (.same s2)) (i := 3) rfl rfl fun b hb => ⟨b, n, rfl, hb, hW.2.2.1, fun l hl => (hW.2.2.2 l hl).1.1, fun H3 s3 => ⟨linesB n, _, rfl, fun g => kT g _ (s2.trans s3), fun g d H' e => kF g _ d H' (e.back (s2.trans s3))⟩⟩
        have bad2 : (linesB o && decide ((0 : Int) < (o.length : Int))) = false → (Act.splice p o n).secondB = false := fun g => by
          show ((linesB o && decide ((0 : Int) < (o.length : Int))) && linesB n) = false
          rw [g, Bool.false_and]
        refine rd_ixL rfl hT1 (i := 2) rfl rfl fun b hb => ⟨b, o, rfl, hb, hW.2.1.1, fun l hl => (hW.2.1.2 l hl).1.1, fun H2 s2 => ⟨linesB o, rfl, ?_⟩⟩
        have s12 := s1.trans s2
        refine ite2 (fun c => ?_) (fun c => ?_)
        · refine rd_ixL rfl (hT.mono (.same s12)) (i := 2) rfl rfl fun b2 hb2 => ⟨b2, _, rfl, .inr hb2, _, _, rfl, rfl, ?_⟩
          have el : ((o.map V.str).length : Int) = (o.length : Int) := by rw [List.length_map]
          refine ⟨decide ((0 : Int) < ((o.map V.str).length : Int)), _, rfl, fun g => ?_, fun g d H' e => ?_⟩
          · exact last H2 s12 (by rw [← el, g, c] <;> rfl)
          · exact kF (bad2 (by rw [← el, g, Bool.and_false])) _ d H' (e.back s12)
        · refine ⟨false, _, rfl, (fun g => nomatch g), fun g d H' e => kF (bad2 ?_) _ d H' (e.back s12)⟩
          have c' : linesB o = false := by simpa using c
          rw [c', Bool.false_and]
end
end K23
/-! ### is_good_row -/
namespace K23
open PySem PySem.Spec PyProof.Rows L2
theorem case_at {K : PySem.W.Frag} {H : Hp} {xs : List V} {cs : List Case} {i : Nat} {x : V} (h : TDs K H xs (cs.map Case.d)) (hx : xs[i]? = some x) :
    ∃ c ta va, cs[i]? = some c ∧ x = .ref ta ∧ SqT K H ta [va, .int c.nxt] ∧ TD K H va c.ans := by
  obtain ⟨d, hd, t⟩ := h.get hx
  rw [List.getElem?_map] at hd
  obtain ⟨c, hc, rfl⟩ := Option.map_eq_some_iff.mp hd
  obtain ⟨ta, ys, rfl, h1, h2⟩ := t.tup_inv
  obtain ⟨va, y1, rfl, h3, h4⟩ := h2.cons_inv
  obtain ⟨vb, y2, rfl, h5, h6⟩ := h4.cons_inv
  have e1 := h5.int_inv
  have e2 := h6.nil_inv
  subst e1 e2
  exact ⟨c, ta, va, hc, rfl, h1, h3⟩
theorem TDs.push {K : PySem.W.Frag} {H : Hp} {vs : List V} {ds : List PyData} {v : V} {d : PyData} (h : TDs K H vs ds) (r : TD K H v d) : TDs K H (vs ++ [v]) (ds ++ [d]) := h.append (.cons r .nil)
/-- the list at D, made anew behind H0: data -/
def MadeD (K : PySem.W.Frag) (H0 : Hp) (D : Addr) (ds : List PyData) (H : Hp) : Prop := Same H0 H ∧ ∃ vs, H D = some (.lst vs) ∧ TDs K H vs ds
theorem MadeD.start {K : PySem.W.Frag} {H0 : Hp} {D : Addr} (h : H0 D = none) : MadeD K H0 D [] (upd H0 D (.lst [])) := ⟨same_new (.refl _) h, [], upd_same, .nil⟩
/-- a list changes: tuples stand -/
theorem tp_lst {K : PySem.W.Frag} {H : Hp} {D : Addr} {vs ws : List V} (h : H D = some (.lst vs)) : Tp K H (upd H D (.lst ws)) := fun a xs q => by
  have key : ∀ u, (∃ o, u = HO.frz o (.tup xs)) ∨ u = HO.tup xs → H a = some u → upd H D (.lst ws) a = some u := fun u hu e => by
    have n : a ≠ D := fun z => by
      rw [z, h] at e
      have e' := Option.some.inj e
      rcases hu with ⟨o, hu⟩ | hu
      · rw [hu] at e'
        cases e'
      · rw [hu] at e'
        cases e'
    rw [upd_ne n]
    exact e
  rcases q with (q | ⟨o, q⟩) | q
  · exact .inl (.inl (key _ (.inr rfl) q))
  · exact .inl (.inr ⟨o, key _ (.inl ⟨o, rfl⟩) q⟩)
  · exact .inr q
theorem MadeD.push {K : PySem.W.Frag} {H0 H : Hp} {D : Addr} {vs : List V} {ds : List PyData} {v : V} {d : PyData} (h0 : H0 D = none) (s : Same H0 H) (h : H D = some (.lst vs)) (r : TDs K H vs ds) (t : TD K H v d) : MadeD K H0 D (ds ++ [d]) (upd H D (.lst (vs ++ [v]))) :=
  ⟨same_mut s h0, _, upd_same, (r.push t).mono (tp_lst h)⟩
theorem countP_map' {α β : Type} (f : α → β) (p : β → Bool) (l : List α) : (l.map f).countP p = l.countP (p ∘ f) := List.countP_map ..
section
variable {P : Program} {w : World} {K : PySem.W.Frag} {mg : Str → Option Value} {base : Heap} {C fI : Addr}
theorem pe_countD {X : Cx} {K : PySem.W.Frag} (hK : X.K = K) {o e : Expr} {to : TE} {te : TA} {apos cpos : Pos} (hu : X.A.units + 65 < cLine) (ho : PE X o to) (ha : PA X [e] te)
    (hbase : attributeBase o "count" X.env (eval o X.env) = eval o X.env := by rfl)
    (hfew : ((backTo cpos (starEach [e] X.env)).all (fun x => !x.1) && (backToKw cpos (keywordEach [] X.env)).all (fun x => x.1.isSome)
      && decide (([e] : List Expr).length + ([] : List Keyword).length + (if ([] : List Keyword).isEmpty then 0 else 1) < 30)) = true := by rfl)
    (hline : (apos.endLine == cpos.line) = true := by rfl) (hs : starEach [e] X.env = (false, eval e X.env) :: starEach [] X.env := by rfl) (hplain : (backTo cpos (starEach [] X.env)).any (·.1) = false := by rfl) :
    PE X (.Call (.Attribute o "count" apos) [e] [] cpos) (tBM K "list" (rCountD K) to te) := by
  subst hK
  exact pe_bm PySem.F.plainAttrs_list PySem.F.slot_list_count PySem.F.type_list_count (mt_countD hu) ho ha hbase hfew hline hs hplain
def spRow (K : PySem.W.Frag) : Sp := fun vs H Q _ => ∃ (a : Addr) (A : Act) (cs : List Case) (o at_ many : Int), vs = [.ref a, .int at_, .int many] ∧ TD K H (.ref a) (Row.act A cs o).d ∧ A.WF ∧ CsOk cs ∧ ∀ H', Same H H' → Q (.bl (rowB A cs o at_ many)) H'
def n_row : List Str := ["row", "at", "many", "_", "action", "cases", "other", "answers", "answer", "after"]
theorem sc_row : FnScope n_row ["row", "at", "many"] (defScope s_is_good_row) := ⟨rfl, rfl, rfl, by decide +kernel, rfl, by decide +kernel, by decide +kernel⟩
def dupB (cs : List Case) : Bool := (cs.map Case.ans).any fun a => decide ((1 : Int) < (((cs.map Case.ans).countP fun z => PyData.eqv z a : Nat) : Int))
def inB (cs : List Case) (at_ many : Int) : Bool := cs.all fun c => decide (at_ < c.nxt) && decide (c.nxt < many)
theorem rowB_eq (A : Act) (cs : List Case) (o at_ many : Int) : rowB A cs o at_ many = (A.okB && (!(decide ((6 : Int) < (cs.length : Int)) || dupB cs) && ((decide (at_ < o) && decide (o < many)) && inB cs at_ many))) := rfl
theorem ok_row (D : DefAt K mg "is_good_row" s_is_good_row) (T : Txt K mg) (X : ExT K mg C fI) (cA : Cal P w K mg base (L2.CX P w) 4 "check_action" (spChkAct K C)) : Cal P w K mg base CX0 5 "is_good_row" (spRow K) := by
  refine cal0 D sc_row (fun _ _ _ _ _ _ us hl => match us, hl with | [_, _, _], _ => rfl) (fun vs H Q E h => ?_) (fun f cdv A outer s H vs Q E hr h => ?_)
  · obtain ⟨a, Ac, cs, o, at_, many, rfl, _⟩ := h
    rfl
  · obtain ⟨a, Ac, cs, o, at_, many, rfl, hT, hA, hC, k⟩ := h
    have hu65 : (A.deeper (envOfC "is_good_row" (defScope s_is_good_row) s.heap.objs.size f cdv)).units + 65 < cLine := by
      have := hr.un
      omega
    refine ⟨_, (pss_cons (ps_asg (pv 0) (pg_tup (by rfl) (pgs_cons (pg_name (i := 3) sc_row.nd rfl (Or.inl rfl)) (pgs_cons (pg_name (i := 4) sc_row.nd rfl (Or.inl rfl)) (pgs_cons (pg_name (i := 5) sc_row.nd rfl (Or.inl rfl)) (pgs_cons (pg_name (i := 6) sc_row.nd rfl (Or.inl rfl)) pgs_nil))))))
      (C8.pss_cut (ps_try_only (tb := fun W => tDrop (tCallS (spChkAct K C) (WE W) (tCons (tVar 4) tNil))) (ts := fun _ _ _ => tRet (tC (.bl false))) (Wout := fun _ _ _ _ => False) rfl rfl ⟨by rfl, by decide, .inl X.gC⟩ takes0 (fun W pn xe tk _ => pss_one (ps_expr (by exact (pe_cS cA tk hr (by decide) (by rfl) (pa_cons (pv 4) pa_nil))))) (fun a oe cls d pn _ _ => pss_one (ps_ret pe_bl)))
      (C8.pss_cut (ps_set (i := 7) sc_row.nd rfl (Or.inr rfl) (pe_lc (own := [("answer", 8), ("_", 3)]) (g := gTup K 2 (gCons (gName 8) (gCons (gName 3) (gNil)))) (tt := tYes) rfl sc_row.nd (pi_tup (pv 5)) (blkOk_by (N := n_row) (sc := defScope s_is_good_row) (by decide +kernel)) (fun _ _ _ _ _ => (pg_tup (by rfl) (pgs_cons (pg_name (i := 8) sc_row.nd rfl (Or.inl rfl)) (pgs_cons (pg_name (i := 3) sc_row.nd rfl (Or.inl rfl)) pgs_nil)))) (fun _ _ _ _ _ => pts_nil) (fun _ _ _ _ _ => (pv 8))))
      (C8.pss_cut (ps_if (PW.pt (pw_or (pt_cmpR op_gt (pe_callB call_len_seq (by rfl) T.len PySem.boot_len (pa_cons (pv 5) pa_nil)) (pe_g (by rfl) T.CASES) (nomark _)) (pw_or1 (pt_val (pe_callB (cr_any rfl) (by rfl) T.any (by decide +kernel) (pa_cons (pe_lc (own := [("answer", 8)]) (g := gName 8) (tt := tYes) rfl sc_row.nd (pi_list (pv 7)) (blkOk_by (N := n_row) (sc := defScope s_is_good_row) (by decide +kernel)) (fun _ _ _ _ _ => (pg_name (i := 8) sc_row.nd rfl (Or.inl rfl))) (fun _ _ _ _ _ => pts_nil) (fun _ _ _ _ _ => (pe_cmpR op_gt (pe_countD (K := K) rfl (by exact hu65) (pv 7) (pa_cons (pv 8) pa_nil)) pe_int (nomark _)))) pa_nil)))))) (pss_one (ps_ret pe_bl)) pss_nil)
      (pss_one (ps_ret (pe_and (pe_chain op_lt op_lt (pv 1) (pv 6) (pv 2)) (pe_one (pe_callB (cr_all rfl) (by rfl) T.all (by decide +kernel) (pa_cons (pe_lc (own := [("_", 3), ("after", 9)]) (g := gTup K 2 (gCons (gName 3) (gCons (gName 9) (gNil)))) (tt := tYes) rfl sc_row.nd (pi_tup (pv 5)) (blkOk_by (N := n_row) (sc := defScope s_is_good_row) (by decide +kernel)) (fun _ _ _ _ _ => (pg_tup (by rfl) (pgs_cons (pg_name (i := 3) sc_row.nd rfl (Or.inl rfl)) (pgs_cons (pg_name (i := 9) sc_row.nd rfl (Or.inl rfl)) pgs_nil)))) (fun _ _ _ _ _ => pts_nil) (fun _ _ _ _ _ => (pe_chain op_lt op_lt (pv 1) (pv 9) (pv 2)))) pa_nil)))))))))), ?_⟩
    obtain ⟨ra, xs, e, hS, hI⟩ := hT.tup_inv
    cases e
    obtain ⟨v0, y0, rfl, t0, hI⟩ := hI.cons_inv
    obtain ⟨v1, y1, rfl, t1, hI⟩ := hI.cons_inv
    obtain ⟨v2, y2, rfl, t2, hI⟩ := hI.cons_inv
    obtain ⟨v3, y3, rfl, t3, hI⟩ := hI.cons_inv
    have e3 := hI.nil_inv
    subst e3
    have e0 := t0.str_inv
    have e4 := t3.int_inv
    subst e0 e4
    obtain ⟨aa, ys, rfl, _, _⟩ := id t1.tup_inv
    obtain ⟨ca, cxs, rfl, hcS, hcD⟩ := t2.tup_inv
    refine ⟨_, rfl, a, _, rfl, hS, rfl, _, _, rfl, _, _, rfl, _, _, rfl, _, _, rfl, rfl, ?_⟩
    refine ⟨fun σ' H' => σ' = [some (.ref a), some (.int at_), some (.int many), some (.str "act"), some (.ref aa), some (.ref ca), some (.int o), none, none, none] ∧ Same H H' ∧ Ac.okB = true, ?_, ?_⟩
    · refine ⟨_, rfl, aa, Ac, rfl, t1, hA, fun g H' s' => ⟨rfl, s', g⟩, fun g z d H' e => ⟨true, X.exm, fun _ a0 _ => ?_, fun q => Bool.noConfusion q⟩⟩
      show Q (.bl false) H'
      have q := k H' e.same
      rw [rowB_eq, g, Bool.false_and] at q
      exact q
    rintro σ1 H1 ⟨rfl, s1, hok⟩
    have hcS1 := seqT s1 hcS
    have hcD1 := hcD.mono (.same s1)
    refine ⟨fun σ' H' => ∃ D vs, σ' = [some (.ref a), some (.int at_), some (.int many), some (.str "act"), some (.ref aa), some (.ref ca), some (.int o), some (.ref D), none, none] ∧ Same H H' ∧ H' D = some (.lst vs) ∧ TDs K H' vs (cs.map Case.ans), ?_, ?_⟩
    · refine ⟨_, rfl, ca, rfl, ⟨_, hcS1⟩, fun D hD => lc_it (walk_tup (xs := cxs)) (fun i H' => MadeD K H1 D ((cs.take i).map Case.ans) H') ?_ (fun i H' _ m => seqT m.1 hcS1) ?_ ?_⟩
      · exact MadeD.start hD
      · rintro i x H2 H3 hi ⟨s2, vs, h2, d2⟩ ⟨rfl, hx⟩
        obtain ⟨c, ta, va, hc, rfl, hta, hva⟩ := case_at (hcD1.mono (.same s2)) hx
        refine ⟨ta, _, rfl, hta, rfl, _, _, rfl, _, _, rfl, rfl, rfl, lcY ⟨_, rfl, vs, h2, ?_, ?_⟩⟩
        · rw [d2.length, List.length_map, List.length_take]
          exact sl_lt (by have := hC.1; omega)
        · rw [map_more _ hc]
          exact MadeD.push hD s2 h2 d2 hva
      · rintro H2 ⟨s2, vs, h2, d2⟩
        refine ⟨D, vs, rfl, s1.trans s2, h2, ?_⟩
        have el : cxs.length = cs.length := by rw [hcD.length, List.length_map]
        rw [el, List.take_length] at d2
        exact d2
    rintro σ2 H2 ⟨D, vs, rfl, s2, hL, hD⟩
    have hcS2 := seqT s2 hcS
    have el : cxs.length = cs.length := by rw [hcD.length, List.length_map]
    have shA : ∀ d ∈ cs.map Case.ans, Sh 10 d := fun d hd => by
      obtain ⟨c, hc, rfl⟩ := List.mem_map.mp hd
      exact hC.2 c hc
    refine ⟨fun σ' H' => σ' = [some (.ref a), some (.int at_), some (.int many), some (.str "act"), some (.ref aa), some (.ref ca), some (.int o), some (.ref D), none, none] ∧ Same H H' ∧ (decide ((6 : Int) < (cs.length : Int)) || dupB cs) = false, ?_, ?_⟩
    · have kF : ∀ H', Same H H' → (decide ((6 : Int) < (cs.length : Int)) || dupB cs) = true → Q (.bl false) H' := fun H' s' g => by
        have q := k H' s'
        rw [rowB_eq, hok, g] at q
        exact q
      refine rd_if ?_
      refine ⟨_, rfl, ca, _, rfl, .inr hcS2, _, _, rfl, rfl, _, rfl, ?_⟩
      rw [el]
      by_cases c6 : (6 : Int) < (cs.length : Int)
      · rw [decide_eq_true c6]
        refine iteT (iteT (kF _ s2 ?_))
        rw [decide_eq_true c6, Bool.true_or]
      · rw [decide_eq_false c6]
        refine iteF ⟨_, rfl, D, rfl, ⟨_, SqL.of hL⟩, fun D2 hD2 => lc_it (walk_list (xs := vs)) (fun i H' => MadeAt H2 D2 (((cs.map Case.ans).take i).map fun a => V.bl (decide ((1 : Int) < (((cs.map Case.ans).countP fun z => PyData.eqv z a : Nat) : Int)))) H') (MadeAt.start hD2) (fun i H' _ m => SqL.of (m.1 _ _ hL)) ?_ ?_⟩
        · rintro i x H3 H4 hi ⟨s3, h3⟩ ⟨rfl, hx⟩
          obtain ⟨d, hd, td⟩ := hD.get hx
          have hL3 := s3 _ _ hL
          have hD3 := hD.mono (.same s3)
          refine ⟨rfl, lcY ⟨_, rfl, .inl ⟨rfl, _, SqL.of hL3⟩, _, rfl, D, x, d, _, rfl, rfl, .lst (SqL.of hL3) hD3.dp, (td.mono (.same s3)).dp, (Sh.list shA).shaped, (shA d (List.mem_of_getElem? hd)).shaped, _, _, rfl, rfl, _, h3, ?_, ?_⟩⟩
          · rw [List.length_map, List.length_take, List.length_map]
            exact sl_lt (by have := hC.1; omega)
          · rw [map_more _ hd]
            exact MadeAt.push hD2 s3
        · rintro H3 ⟨s3, h3⟩
          refine ⟨D2, (cs.map Case.ans).map fun a => decide ((1 : Int) < (((cs.map Case.ans).countP fun z => PyData.eqv z a : Nat) : Int)), rfl, ?_, ?_⟩
          · refine SqL.of ?_
            have e5 : vs.length = (cs.map Case.ans).length := hD.length
            rw [h3, e5, List.take_length]
            exact congrArg (fun l => some (HO.lst l)) List.map_map.symm
          · rw [any_id]
            refine ⟨dupB cs, rfl, ?_⟩
            cases g : dupB cs with
            | true => exact iteT (kF _ (s2.trans s3) (by rw [g, Bool.or_true]))
            | false => exact iteF ⟨rfl, s2.trans s3, rfl⟩
    rintro σ3 H3 ⟨rfl, s3, hdup⟩
    have hcS3 := seqT s3 hcS
    have hcD3 := hcD.mono (.same s3)
    have eR : rowB Ac cs o at_ many = ((decide (at_ < o) && decide (o < many)) && inB cs at_ many) := by
      rw [rowB_eq, hok, hdup] <;> rfl
    rw [eR] at k
    refine ⟨_, rfl, _, rfl, _, _, rfl, rfl, _, rfl, ?_⟩
    by_cases c1 : at_ < o
    · rw [decide_eq_true c1] at k ⊢
      refine iteT ⟨_, rfl, _, _, rfl, rfl, _, rfl, ?_⟩
      by_cases c2 : o < many
      · rw [decide_eq_true c2] at k ⊢
        refine iteT ⟨_, rfl, ca, rfl, ⟨_, hcS3⟩, fun D2 hD2 => lc_it (walk_tup (xs := cxs)) (fun i H' => MadeAt H3 D2 ((cs.take i).map fun c => V.bl (decide (at_ < c.nxt) && decide (c.nxt < many))) H') (MadeAt.start hD2) (fun i H' _ m => seqT m.1 hcS3) ?_ ?_⟩
        · rintro i x H4 H5 hi ⟨s4, h4⟩ ⟨rfl, hx⟩
          obtain ⟨c, ta, va, hc, rfl, hta, hva⟩ := case_at (hcD3.mono (.same s4)) hx
          refine ⟨ta, _, rfl, hta, rfl, _, _, rfl, _, _, rfl, rfl, rfl, lcY ?_⟩
          have last : ∃ acc, H5 D2 = some (.lst acc) ∧ acc.length < sizeLine ∧ MadeAt H3 D2 ((cs.take (i + 1)).map fun c => V.bl (decide (at_ < c.nxt) && decide (c.nxt < many))) (upd H5 D2 (.lst (acc ++ [V.bl (decide (at_ < c.nxt) && decide (c.nxt < many))]))) := by
            refine ⟨_, h4, ?_, ?_⟩
            · rw [List.length_map, List.length_take]
              exact sl_lt (by have := hC.1; omega)
            · rw [map_more _ hc]
              exact MadeAt.push hD2 s4
          refine ⟨_, rfl, _, rfl, _, _, rfl, rfl, _, rfl, ?_⟩
          by_cases c3 : at_ < c.nxt
          · rw [decide_eq_true c3] at last ⊢
            exact iteT ⟨_, rfl, _, _, rfl, rfl, last⟩
          · rw [decide_eq_false c3] at last ⊢
            exact iteF last
        · rintro H4 ⟨s4, h4⟩
          refine ⟨D2, cs.map fun c => decide (at_ < c.nxt) && decide (c.nxt < many), rfl, ?_, ?_⟩
          · refine SqL.of ?_
            rw [h4, el, List.take_length, List.map_map] <;> rfl
          · rw [all_id]
            exact k _ (s3.trans s4)
      · rw [decide_eq_false c2] at k ⊢
        exact iteF (k _ s3)
    · rw [decide_eq_false c1] at k ⊢
      exact iteF ⟨_, rfl, iteF (k _ s3)⟩
end
end K23
/-! ### rules as they stand within a comprehension's block -/
namespace K23
open PySem PySem.Spec PyProof.Rows L2
section
variable {X : Cx} {K : PySem.W.Frag}
theorem ix_tupK (h : X.K = K) : IxR X (rIxT K) := by
  subst h
  exact ix_tup
theorem ix_listK (h : X.K = K) : IxR X (rIxL K) := by
  subst h
  exact ix_list
theorem op_eqDK (h : X.K = K) (hu : X.A.units + 64 < cLine) : OpR X (compareOp .Eq) (rEqD K) := by
  subst h
  exact op_eqD hu
theorem op_neDK (h : X.K = K) (hu : X.A.units + 64 < cLine) : OpR X (compareOp .NotEq) (rNeD K) := by
  subst h
  exact op_neD hu
theorem sl_tupAK (h : X.K = K) : SlR X (rSlA K) := by
  subst h
  exact sl_tupA
def rLenK (K : PySem.W.Frag) : List V → Hp → VK → Prop := fun xs H Q => ∃ p ys, xs = [.ref p] ∧ (SqL K H p ys ∨ SqT K H p ys) ∧ Q (.int ys.length) H
theorem call_len_seqK (h : X.K = K) : CallR X (.builtin "len") (rLenK K) := by
  subst h
  exact call_len_seq
end
/-! ### _is_agent, check_agent -/
theorem atI_neg1 {xs : List V} {v : V} (h : xs.getLast? = some v) : atI xs (-1) = some v := by
  obtain ⟨ys, rfl⟩ := List.getLast?_eq_some_iff.mp h
  exact atI_last ys v
section
variable {P : Program} {w : World} {K : PySem.W.Frag} {mg : Str → Option Value} {base : Heap} {C fI : Addr}
/-- the value v is an agent of these rows -/
def AgAt (K : PySem.W.Frag) (H : Hp) (a : Addr) (rows : List Row) : Prop := TD K H (.ref a) (.tuple (rows.map Row.d)) ∧ rows.length ≤ 1000 ∧ ∀ r ∈ rows, r.WF
theorem AgAt.mono {H H' : Hp} {a : Addr} {rows : List Row} (t : Tp K H H') (h : AgAt K H a rows) : AgAt K H' a rows := ⟨h.1.mono t, h.2⟩
def spIsAgent (K : PySem.W.Frag) : Sp := fun vs H Q _ => ∃ (a : Addr) (rows : List Row), vs = [.ref a] ∧ AgAt K H a rows ∧ (AgentOk rows → ∀ H', Same H H' → Q (.bl true) H') ∧ (¬ AgentOk rows → ∀ H', Same H H' → Q (.bl false) H')
theorem stop_sh : Sh 1 (.tuple [.str "stop"]) := .tuple (sh_cons (.str (by decide +kernel)) sh_nil)
def n_isag : List Str := ["agent", "at", "row"]
theorem sc_isag : FnScope n_isag ["agent"] (defScope s__is_agent) := ⟨rfl, rfl, rfl, by decide +kernel, rfl, by decide +kernel, by decide +kernel⟩
theorem ok_isag (D : DefAt K mg "_is_agent" s__is_agent) (T : Txt K mg) (c_is_good_row : Cal P w K mg base CX0 5 "is_good_row" (spRow K)) : Cal P w K mg base CX0 6 "_is_agent" (spIsAgent K) := by
  obtain ⟨aS, hSTOP, tS⟩ := T.STOP
  refine cal0 D sc_isag (fun _ _ _ _ _ _ us hl => match us, hl with | [_], _ => rfl) (fun vs H Q E h => ?_) (fun f cdv A outer s H vs Q E hr h => ?_)
  · obtain ⟨a, rows, rfl, _⟩ := h
    rfl
  · obtain ⟨a, rows, rfl, ⟨hT, hl, hW⟩, kT, kF⟩ := h
    refine ⟨_, (C8.pss_cut (ps_if (PW.pt (pw_or (pt_not (pt_chain op_le op_le pe_int (pe_callB call_len_seq (by rfl) T.len PySem.boot_len (pa_cons (pv 0) pa_nil)) (pe_g (by rfl) T.ROWS))) (pw_or1 (pt_cmpR (op_neD hr.units) (pe_ix ix_tup (pv 0) (pe_un un_neg pe_int) (fun _ _ => rfl)) (pe_g (by rfl) hSTOP) (nomark _))))) (pss_one (ps_ret pe_bl)) pss_nil)
      (pss_cons (ps_for PassesOwn.never rfl (pi_enumT (by rfl) T.enum (pa_cons (pv 0) pa_nil)) (pg_tup (by rfl) (pgs_cons (pg_name (i := 1) sc_isag.nd rfl (Or.inl rfl)) (pgs_cons (pg_name (i := 2) sc_isag.nd rfl (Or.inl rfl)) pgs_nil)))
        (pss_one (ps_if (PW.pt (pw_and (pt_cmpR (op_neD hr.units) (pv 2) (pe_g (by rfl) hSTOP) (nomark _)) (pw_and1 (pt_not (pt_val (pe_c c_is_good_row hr (by decide) (by rfl) (pa_cons (pv 2) (pa_cons (pv 1) (pa_cons (pe_callB call_len_seq (by rfl) T.len PySem.boot_len (pa_cons (pv 0) pa_nil)) pa_nil))))))))) (pss_one (ps_ret pe_bl)) pss_nil)))
      (pss_one (ps_ret pe_bl)))), ?_⟩
    obtain ⟨a', xs, e, hS, hD⟩ := hT.tup_inv
    cases e
    have el : xs.length = rows.length := by rw [hD.length, List.length_map]
    refine ⟨fun σ' H' => σ' = [some (.ref a), none, none] ∧ Same H H' ∧ 1 ≤ rows.length ∧ rows.length ≤ 24 ∧ rows.getLast? = some .stop, ?_, ?_⟩
    · refine rd_if ?_
      refine ⟨_, rfl, a, _, rfl, .inr hS, _, _, rfl, rfl, _, rfl, ?_⟩
      rw [el]
      by_cases c1 : (1 : Int) ≤ (rows.length : Int)
      · rw [decide_eq_true c1]
        refine iteT ⟨_, _, rfl, rfl, _, rfl, ?_⟩
        by_cases c2 : (rows.length : Int) ≤ 24
        · rw [decide_eq_true c2]
          refine iteF ?_
          have hne : xs ≠ [] := fun e => by
            rw [e] at el
            have : rows.length = 0 := el.symm
            omega
          obtain ⟨v, hv⟩ : ∃ v, xs.getLast? = some v := ⟨_, List.getLast?_eq_some_getLast hne⟩
          have hv2 := hv
          rw [List.getLast?_eq_getElem?] at hv2
          obtain ⟨d, hd, td⟩ := hD.get hv2
          rw [List.getElem?_map, el] at hd
          obtain ⟨r, hr0, rfl⟩ := Option.map_eq_some_iff.mp hd
          have hlast : rows.getLast? = some r := by rw [List.getLast?_eq_getElem?]; exact hr0
          refine ⟨_, rfl, 1, rfl, a, xs, -1, v, rfl, rfl, hS, atI_neg1 hv, _, _, td.dp, (tS H).dp, (Row.sh (hW r (List.mem_of_getElem? hr0))).shaped, stop_sh.shaped, _, rfl, ?_⟩
          rw [stop_eqv]
          cases r with
          | stop => exact iteF ⟨rfl, .refl H, by omega, by omega, hlast⟩
          | act A' cs o =>
            refine iteT (kF (fun g => ?_) _ (.refl H))
            have := g.last
            rw [hlast] at this
            cases this
        · rw [decide_eq_false c2]
          exact iteT (iteT (kF (fun g => c2 (by have := g.hi; omega)) _ (.refl H)))
      · rw [decide_eq_false c1]
        exact iteF ⟨false, rfl, iteT (iteT (kF (fun g => c1 (by have := g.lo; omega)) _ (.refl H)))⟩
    rintro σ1 H1 ⟨rfl, s1, h1, h24, hlast⟩
    have hS1 := seqT s1 hS
    refine ⟨_, rfl, a, xs, rfl, hS1, for_it (walk_enumT (xs := xs)) (fun i σ H' => ∃ v1 v2 : Option V, σ = [some (.ref a), v1, v2] ∧ Same H H' ∧ ∀ j r, j < i → rows[j]? = some r → rowOk rows.length j r = true)
      ⟨none, none, rfl, s1, fun j r hj _ => absurd hj (Nat.not_lt_zero _)⟩ (fun i σ H' _ ⟨_, _, _, s', _⟩ => seqT s' hS) ?_ ?_⟩
    · rintro i x σ H2 H3 hi ⟨v1, v2, rfl, s2, hall⟩ ⟨T0, x1, y1, rfl, hT0, rfl, hx1, hy1⟩
      cases hx1
      have s3 : Same H (upd H2 T0 (.tup [.int ((i : Nat) : Int), y1])) := same_new s2 hT0
      obtain ⟨d, hd, td⟩ := hD.get hy1
      rw [List.getElem?_map] at hd
      obtain ⟨r, hr0, rfl⟩ := Option.map_eq_some_iff.mp hd
      have td3 := td.mono (.same s3)
      have hWr := hW r (List.mem_of_getElem? hr0)
      refine ⟨T0, _, rfl, SqT.of upd_same, rfl, _, _, rfl, _, _, rfl, rfl, ?_⟩
      have go : ∀ H', Same H H' → rowOk rows.length i r = true → ∃ v1 v2 : Option V, [some (V.ref a), some (.int ((i : Nat) : Int)), some y1] = [some (V.ref a), v1, v2] ∧ Same H H' ∧ ∀ j r, j < i + 1 → rows[j]? = some r → rowOk rows.length j r = true := fun H' s' g =>
        ⟨_, _, rfl, s', fun j r' hj hr' => by
          by_cases e : j = i
          · subst e
            rw [hr0] at hr'
            cases hr'
            exact g
          · exact hall j r' (by omega) hr'⟩
      have bad : ∀ H', Same H H' → rowOk rows.length i r = false → Q (.bl false) H' := fun H' s' g => kF (fun ok => by
        have := ok.all i r hr0
        rw [g] at this
        cases this) H' s'
      refine rd_if ?_
      refine ⟨_, rfl, _, _, td3.dp, (tS _).dp, (Row.sh hWr).shaped, stop_sh.shaped, _, rfl, ?_⟩
      rw [stop_eqv]
      cases r with
      | stop => exact iteF (go _ s3 rfl)
      | act A' cs o =>
        obtain ⟨ra, _, rfl, _, _⟩ := id td3.tup_inv
        refine iteT ⟨_, rfl, _, rfl, _, rfl, a, xs, rfl, .inr (seqT s3 hS), ra, A', cs, o, _, _, rfl, td3, hWr.1, hWr.2, fun H4 s4 => ⟨_, rfl, ?_⟩⟩
        rw [el]
        have e : rowOk rows.length i (.act A' cs o) = rowB A' cs o ((i : Nat) : Int) ((rows.length : Nat) : Int) := rfl
        rw [e] at go bad
        cases g : rowB A' cs o ((i : Nat) : Int) ((rows.length : Nat) : Int) with
        | true => exact iteF (go _ (s3.trans s4) g)
        | false => exact iteT (bad _ (s3.trans s4) g)
    · rintro σ H2 ⟨v1, v2, rfl, s2, hall⟩
      exact kT ⟨h1, h24, hlast, fun i r hr0 => hall i r (by
        have := (List.getElem?_eq_some_iff.mp hr0).1
        omega) hr0⟩ _ s2
end
end K23
/-! ### check_agent, _law_refused, follower, doubter -/
namespace K23
open PySem PySem.Spec PyProof.Rows L2
theorem le1 : 1 ≤ sizeLine := by decide
theorem le2 : 2 ≤ sizeLine := by decide
theorem le3 : 3 ≤ sizeLine := by decide
theorem le4 : 4 ≤ sizeLine := by decide
theorem le5 : 5 ≤ sizeLine := by decide
theorem le0 : 0 ≤ sizeLine := by decide
theorem sl_le {n : Nat} (h : n ≤ 100000) : n ≤ sizeLine := Nat.le_trans h (by decide)
section
variable {P : Program} {w : World} {K : PySem.W.Frag} {mg : Str → Option Value} {base : Heap} {C fI : Addr}
def spChkAg (K : PySem.W.Frag) (C : Addr) : Sp := fun vs H Q E => ∃ (a : Addr) (rows : List Row), vs = [.ref a] ∧ AgAt K H a rows ∧ (AgentOk rows → ∀ H', Same H H' → Q .non H') ∧ (¬ AgentOk rows → ∀ d H', ErrAt H H' d "agent" → E (.ref C) (some d) H')
def n_chkag : List Str := ["agent"]
theorem sc_chkag : FnScope n_chkag ["agent"] (defScope s_check_agent) := ⟨rfl, rfl, rfl, by decide +kernel, rfl, by decide +kernel, by decide +kernel⟩
theorem ok_chkag (D : DefAt K mg "check_agent" s_check_agent) (X : ExT K mg C fI) (c__is_agent : Cal P w K mg base CX0 6 "_is_agent" (spIsAgent K)) : Cal P w K mg base (L2.CX P w) 7 "check_agent" (spChkAg K C) := by
  obtain ⟨fd, FI⟩ := X.fn
  have GI : FnOk P w K mg base CX0 1 fI fd ["self", "name"] (spInit K C) := ok_init FI X
  have bI : Binds K fd ["self", "name"] [] := FI.bindsN fun _ _ _ _ _ _ us hl => match us, hl with | [_, _], _ => rfl
  refine calX D sc_chkag (fun _ _ _ _ _ _ us hl => match us, hl with | [_], _ => rfl) (fun vs H Q E h => ?_) (fun f cdv A outer s H vs Q E hr h => ?_)
  · obtain ⟨a, rows, rfl, _⟩ := h
    rfl
  · obtain ⟨a, rows, rfl, hA, kT, kF⟩ := h
    have hr2 : Room (1 + 1) _ := hr.mono (by decide)
    refine ⟨_, (pss_one (ps_if (pt_not (pt_val (pe_c c__is_agent hr (by decide) (by rfl) (pa_cons (pv 0) pa_nil)))) (pss_one (ps_raise rfl (takes_of rfl rfl rfl rfl) (pmk_oex X.oex X.iC X.tI GI hr2 bI .nil pass0 rfl X.gC (pa_cons pe_str pa_nil)))) pss_nil)), ?_⟩
    refine ⟨_, rfl, a, rows, rfl, hA, fun g H' s' => ⟨_, rfl, iteF (kT g H' s')⟩, fun g H' s' => ⟨_, rfl, iteT (mk_read rfl fun d H2 e => kF g d H2 (e.back s'))⟩⟩
def spRef (K : PySem.W.Frag) : Sp := fun vs H Q _ => ∃ (a : Addr) (rows : List Row), vs = [.ref a] ∧ AgAt K H a rows ∧ (AgentOk rows → ∀ H', Same H H' → Q .non H') ∧ (¬ AgentOk rows → ∀ p H', Same H H' → TD K H' (.ref p) (.tuple [.str "refused", .str "agent"]) → Q (.ref p) H')
def n_ref : List Str := ["_law_agent_here", "_law_told", "e"]
theorem sc_ref : FnScope n_ref ["_law_agent_here"] (defScope s__law_refused) := ⟨rfl, rfl, rfl, by decide +kernel, rfl, by decide +kernel, by decide +kernel⟩
theorem ok_ref (D : DefAt K mg "_law_refused" s__law_refused) (X : ExT K mg C fI) (c_check_agent : Cal P w K mg base (L2.CX P w) 7 "check_agent" (spChkAg K C)) : Cal P w K mg base CX0 8 "_law_refused" (spRef K) := by
  refine cal0 D sc_ref (fun _ _ _ _ _ _ us hl => match us, hl with | [_], _ => rfl) (fun vs H Q E h => ?_) (fun f cdv A outer s H vs Q E hr h => ?_)
  · obtain ⟨a, rows, rfl, _⟩ := h
    rfl
  · obtain ⟨a, rows, rfl, hA, kT, kF⟩ := h
    refine ⟨_, (pss_cons (ps_try_as (i := 2) (tb := fun W => tAsg (tCallS (spChkAg K C) (WE W) (tCons (tVar 0) tNil)) (gName 1)) (ts := fun a cls d => tRet (tTup (tCons (tC (.str "refused")) (tCons (tXf a cls d C "name" (tVar 2)) tNil)))) (Wout := fun _ _ _ _ => False) rfl rfl sc_ref.nd rfl rfl ⟨rfl, by decide, Or.inl X.gC⟩ takes0 (fun W pn xe tk _ => pss_one (ps_set (i := 1) sc_ref.nd rfl (Or.inl rfl) (by exact (pe_cS c_check_agent tk hr (by decide) (by rfl) (by exact (pa_cons (pv 0) pa_nil)))))) (fun a oe cls d pn hz hf => pss_one (ps_ret (pe_tup (pa_cons pe_str (pa_cons (by exact (pe_xf X.xf X.noN hz hf (pv 2))) pa_nil))))))
      (pss_one (ps_ret (pv 1)))), ?_⟩
    refine ⟨_, rfl, a, rows, rfl, hA, fun g H' s' => ⟨_, rfl, kT g H' s'⟩, fun g d H' e => ⟨true, X.exm, fun _ a0 ha0 => ?_, fun q => Bool.noConfusion q⟩⟩
    refine ⟨_, rfl, rfl, rfl, d, _, V.str "agent", rfl, e.at_, (by simp [List.lookup]), le2, fun p hp => ?_⟩
    exact kF g p _ (same_new e.same hp) (TD.new_tup hp (.cons (.str _) (.cons (.str _) .nil)))
/-! follower, doubter, over the law's journals -/
def jA : Act := .two "read" "a"
def jN : PyData := .tuple [.str "none"]
def jE : PyData := .tuple [jA.d, jN]
def rowsF (m : Nat) : List Row := ((List.range m).map fun i => Row.act jA [⟨jN, ((i : Nat) : Int) + 1⟩] ((m : Nat) : Int)) ++ [.stop]
def rowD (m : Nat) (at_ : Int) (i : Nat) : Row := Row.act jA [⟨jN, if ((i : Nat) : Int) + 1 < ((m : Nat) : Int) then ((i : Nat) : Int) + 1 else ((m : Nat) : Int) + 1⟩] (if ((i : Nat) : Int) = at_ then ((m : Nat) : Int) else ((m : Nat) : Int) + 1)
def rowsD (m : Nat) (at_ : Int) : List Row := ((List.range m).map (rowD m at_)) ++ [.act (.write "doubt" []) [] (((m : Nat) : Int) + 1), .stop]
theorem jA_wf : jA.WF := ⟨by decide +kernel, by decide +kernel⟩
theorem jN_sh : Sh 10 jN := (Sh.tuple (n := 0) (sh_cons (.str (by decide +kernel)) sh_nil)).mono (by decide)
theorem cs1_ok (n : Int) : CsOk [⟨jN, n⟩] := ⟨by show 1 ≤ 1000; decide, fun c hc => by
  rw [List.mem_singleton.mp hc]
  exact jN_sh⟩
/-- the item of a journal of m such entries -/
theorem jn_at {H : Hp} {xs : List V} {m i : Nat} {x : V} (h : TDs K H xs (List.replicate m jE)) (hx : xs[i]? = some x) : ∃ ta va vn, x = .ref ta ∧ SqT K H ta [va, vn] ∧ TD K H va jA.d ∧ TD K H vn jN ∧ i < m := by
  obtain ⟨d, hd, t⟩ := h.get hx
  have hi : i < m := by
    have := (List.getElem?_eq_some_iff.mp hd).1
    rw [List.length_replicate] at this
    exact this
  have ed : d = jE := by
    rw [List.getElem?_replicate, if_pos hi] at hd
    exact (Option.some.inj hd).symm
  subst ed
  obtain ⟨ta, ys, rfl, h1, h2⟩ := t.tup_inv
  obtain ⟨va, y1, rfl, h3, h4⟩ := h2.cons_inv
  obtain ⟨vb, y2, rfl, h5, h6⟩ := h4.cons_inv
  have e2 := h6.nil_inv
  subst e2
  exact ⟨ta, va, vb, rfl, h1, h3, h5, hi⟩
def spFol (K : PySem.W.Frag) : Sp := fun vs H Q _ => ∃ (a : Addr) (m : Nat), vs = [.ref a] ∧ TD K H (.ref a) (.tuple (List.replicate m jE)) ∧ m ≤ 22 ∧ ∀ p H', Same H H' → AgAt K H' p (rowsF m) → Q (.ref p) H'
def n_fol : List Str := ["journal", "many", "rows", "at", "action", "answer"]
theorem sc_fol : FnScope n_fol ["journal"] (defScope s_follower) := ⟨rfl, rfl, rfl, by decide +kernel, rfl, by decide +kernel, by decide +kernel⟩
theorem ok_fol (D : DefAt K mg "follower" s_follower) (T : Txt K mg) : Cal P w K mg base CX0 1 "follower" (spFol K) := by
  obtain ⟨aS, hSTOP, tS⟩ := T.STOP
  refine cal0 D sc_fol (fun _ _ _ _ _ _ us hl => match us, hl with | [_], _ => rfl) (fun vs H Q E h => ?_) (fun f cdv A outer s H vs Q E hr h => ?_)
  · obtain ⟨a, m, rfl, _⟩ := h
    rfl
  · obtain ⟨a, m, rfl, hT, hm, k⟩ := h
    refine ⟨_, (pss_cons (ps_set (i := 1) sc_fol.nd rfl (Or.inr rfl) (pe_callB call_len_seq (by rfl) T.len PySem.boot_len (pa_cons (pv 0) pa_nil)))
      (pss_cons (ps_setLc (i := 2) (own := [("at", 3), ("action", 4), ("answer", 5)]) (g := gTup K 2 (gCons (gName 3) (gCons (gTup K 2 (gCons (gName 4) (gCons (gName 5) (gNil)))) (gNil)))) (tt := tYes) rfl sc_fol.nd rfl rfl (sw_true rfl rfl rfl (by decide +kernel)) (pi_enumT (by rfl) T.enum (pa_cons (pv 0) pa_nil)) (blkOk_by (N := n_fol) (sc := defScope s_follower) (by decide +kernel)) (fun _ _ _ _ _ => (pg_tup (by rfl) (pgs_cons (pg_name (i := 3) sc_fol.nd rfl (Or.inl rfl)) (pgs_cons (pg_tup (by rfl) (pgs_cons (pg_name (i := 4) sc_fol.nd rfl (Or.inl rfl)) (pgs_cons (pg_name (i := 5) sc_fol.nd rfl (Or.inl rfl)) pgs_nil))) pgs_nil)))) (fun _ _ _ _ _ => pts_nil) (fun _ _ _ _ _ => (pe_tup (pa_cons pe_str (pa_cons (pv 4) (pa_cons (pe_tup (pa_cons (pe_tup (pa_cons (pv 5) (pa_cons (pe_op op_add (pv 3) pe_int) pa_nil))) pa_nil)) (pa_cons (pv 1) pa_nil)))))))
      (pss_one (ps_ret (pe_callTy call_tuple_of (by rfl) T.tuple (by decide +kernel) (pa_cons (pe_op op_cat (pv 2) (pe_lst (pa_cons (pe_g (by rfl) hSTOP) pa_nil))) pa_nil)))))), ?_⟩
    obtain ⟨a', xs, e, hS, hD⟩ := hT.tup_inv
    cases e
    have el : xs.length = m := by rw [hD.length, List.length_replicate]
    refine ⟨_, rfl, a, xs, rfl, .inr hS, ?_⟩
    rw [el]
    refine ⟨_, rfl, a, xs, rfl, hS, fun D hDn => lc_it (walk_enumT (xs := xs)) (fun i H' => MadeD K H D (((List.range m).take i).map fun i => (Row.act jA [⟨jN, ((i : Nat) : Int) + 1⟩] ((m : Nat) : Int)).d) H') (MadeD.start hDn) (fun i H' _ q => seqT q.1 hS) ?_ ?_⟩
    · rintro i x H2 H3 hi ⟨s2, vs, h2, d2⟩ ⟨T0, x1, y1, rfl, hT0, rfl, hx1, hy1⟩
      cases hx1
      have s3 : Same H (upd H2 T0 (.tup [.int ((i : Nat) : Int), y1])) := same_new s2 hT0
      have h3 : upd H2 T0 (.tup [.int ((i : Nat) : Int), y1]) D = some (.lst vs) := by rw [upd_ne (ne_of_none h2 hT0)]; exact h2
      have d3 := d2.mono (.same (same_new (o := .tup [.int ((i : Nat) : Int), y1]) (.refl H2) hT0))
      obtain ⟨ta, va, vn, rfl, hta, hva, hvn, hi2⟩ := jn_at (hD.mono (.same s3)) hy1
      refine ⟨T0, _, rfl, SqT.of upd_same, rfl, _, _, rfl, _, _, rfl, ⟨ta, _, rfl, hta, rfl, _, _, rfl, _, _, rfl, rfl, rfl, rfl, ?_⟩⟩
      refine lcY ?_
      generalize upd H2 T0 (.tup [.int ((i : Nat) : Int), .ref ta]) = H4 at *
      refine ⟨_, rfl, _, rfl, _, rfl, _, _, rfl, rfl, le2, fun p1 hp1 => ⟨le1, fun p2 hp2 => ⟨_, rfl, le4, fun p3 hp3 => ?_⟩⟩⟩
      have t1 := TD.new_tup hp1 (.cons hvn (.cons (.int (((i : Nat) : Int) + 1)) .nil))
      have t2 := TD.new_tup hp2 (.cons t1 .nil)
      have m12 := same_new (o := .tup [.ref p1]) (same_new (o := .tup [vn, .int (((i : Nat) : Int) + 1)]) (.refl H4) hp1) hp2
      have t3 := TD.new_tup hp3 (.cons (.str "act") (.cons (hva.mono (.same m12)) (.cons t2 (.cons (.int ((m : Nat) : Int)) .nil))))
      have m3 := same_new (o := .tup [.str "act", va, .ref p2, .int ((m : Nat) : Int)]) m12 hp3
      refine ⟨vs, m3 _ _ h3, ?_, ?_⟩
      · rw [d3.length, List.length_map, List.length_take]
        exact sl_lt (by omega)
      · have er : (List.range m)[i]? = some i := List.getElem?_range hi2
        rw [map_more _ er]
        exact MadeD.push hDn (s3.trans m3) (m3 _ _ h3) (d3.mono (.same m3)) t3
    · rintro H2 ⟨s2, vs, h2, d2⟩
      rw [el, List.take_of_length_le (by rw [List.length_range] <;> exact Nat.le_refl _)] at d2
      refine ⟨_, rfl, le1, fun l hl => ⟨D, l, vs, _, rfl, rfl, ?_, upd_same, ?_, fun p hp => ?_⟩⟩
      · rw [upd_ne (ne_of_none h2 hl)]
        exact h2
      · rw [d2.length, List.length_map, List.length_range]
        exact sl_le (by show m + 1 ≤ 100000; omega)
      · refine ⟨p, _, rfl, .inl ⟨SqL.of upd_same, fun q hq => ?_⟩⟩
        have m1 := same_new (o := .lst [.ref aS]) (.refl H2) hl
        have m2 := same_new (o := .lst (vs ++ [.ref aS])) m1 hp
        have m3 := same_new (o := .tup (vs ++ [.ref aS])) m2 hq
        refine k q _ (s2.trans m3) ⟨?_, ?_, ?_⟩
        · have t := TD.new_tup hq (((d2.mono (.same m2))).append (.cons (tS _) .nil))
          unfold rowsF
          rw [List.map_append, List.map_map]
          exact t
        · unfold rowsF
          rw [List.length_append, List.length_map, List.length_range]
          show m + 1 ≤ 1000
          omega
        · intro r hr
          rcases List.mem_append.mp hr with q | q
          · obtain ⟨i, _, rfl⟩ := List.mem_map.mp q
            exact ⟨jA_wf, cs1_ok _⟩
          · rw [List.mem_singleton.mp q]
            trivial
def spDbt (K : PySem.W.Frag) : Sp := fun vs H Q _ => ∃ (a : Addr) (m : Nat) (at_ : Int), vs = [.ref a, .int at_] ∧ TD K H (.ref a) (.tuple (List.replicate m jE)) ∧ m ≤ 22 ∧ 0 ≤ at_ ∧ at_ < (m : Int) ∧ ∀ p H', Same H H' → AgAt K H' p (rowsD m at_) → Q (.ref p) H'
def n_dbt : List Str := ["journal", "at", "many", "rows", "place", "action", "answer", "after"]
theorem sc_dbt : FnScope n_dbt ["journal", "at"] (defScope s_doubter) := ⟨rfl, rfl, rfl, by decide +kernel, rfl, by decide +kernel, by decide +kernel⟩
theorem ok_dbt (D : DefAt K mg "doubter" s_doubter) (T : Txt K mg) : Cal P w K mg base CX0 1 "doubter" (spDbt K) := by
  obtain ⟨aS, hSTOP, tS⟩ := T.STOP
  obtain ⟨aD, hDOUBT, tD⟩ := T.DOUBT
  refine cal0 D sc_dbt (fun _ _ _ _ _ _ us hl => match us, hl with | [_, _], _ => rfl) (fun vs H Q E h => ?_) (fun f cdv A outer s H vs Q E hr h => ?_)
  · obtain ⟨a, m, at_, rfl, _⟩ := h
    rfl
  · obtain ⟨a, m, at_, rfl, hT, hm, ha0, ham, k⟩ := h
    refine ⟨_, (pss_cons (ps_set (i := 2) sc_dbt.nd rfl (Or.inl rfl) (pe_callB call_len_seq (by rfl) T.len PySem.boot_len (pa_cons (pv 0) pa_nil)))
      (pss_cons (ps_if (pt_not (pt_chain op_le op_lt pe_int (pv 1) (pv 2))) (pss_one ps_never) pss_nil)
      (pss_cons (ps_set (i := 3) sc_dbt.nd rfl (Or.inl rfl) (pe_lst pa_nil))
      (pss_cons (ps_for PassesOwn.never rfl (pi_enumT (by rfl) T.enum (pa_cons (pv 0) pa_nil)) (pg_tup (by rfl) (pgs_cons (pg_name (i := 4) sc_dbt.nd rfl (Or.inl rfl)) (pgs_cons (pg_tup (by rfl) (pgs_cons (pg_name (i := 5) sc_dbt.nd rfl (Or.inl rfl)) (pgs_cons (pg_name (i := 6) sc_dbt.nd rfl (Or.inl rfl)) pgs_nil))) pgs_nil)))
        (C8.pss_cut (ps_set (i := 7) sc_dbt.nd rfl (Or.inl rfl) (pe_ifExp (pt_cmpR op_lt (pe_op op_add (pv 4) pe_int) (pv 2) (nomark _)) (pe_op op_add (pv 4) pe_int) (pe_op op_add (pv 2) pe_int)))
      (pss_one (ps_expr (pe_bm PySem.F.plainAttrs_list PySem.F.slot_list_append PySem.F.type_list_append mt_append (pv 3) (pa_cons (pe_tup (pa_cons pe_str (pa_cons (pv 5) (pa_cons (pe_tup (pa_cons (pe_tup (pa_cons (pv 6) (pa_cons (pv 7) pa_nil))) pa_nil)) (pa_cons (pe_ifExp (pt_cmpR op_eq (pv 4) (pv 1) (nomark _)) (pv 2) (pe_op op_add (pv 2) pe_int)) pa_nil))))) pa_nil))))))
      (pss_one (ps_ret (pe_callTy call_tuple_of (by rfl) T.tuple (by decide +kernel) (pa_cons (pe_op op_cat (pv 3) (pe_lst (pa_cons (pe_tup (pa_cons pe_str (pa_cons (pe_g (by rfl) hDOUBT) (pa_cons (pe_tup pa_nil) (pa_cons (pe_op op_add (pv 2) pe_int) pa_nil))))) (pa_cons (pe_g (by rfl) hSTOP) pa_nil)))) pa_nil)))))))), ?_⟩
    obtain ⟨a', xs, e, hS, hD⟩ := hT.tup_inv
    cases e
    have el : xs.length = m := by rw [hD.length, List.length_replicate]
    refine ⟨_, rfl, a, xs, rfl, .inr hS, ?_⟩
    rw [el]
    refine ⟨_, rfl, _, _, rfl, rfl, _, rfl, ifT (decide_eq_true ha0) ⟨_, rfl, _, _, rfl, rfl, _, rfl, ?_⟩⟩
    refine ifF (by rw [decide_eq_true ham] <;> rfl) ?_
    refine ⟨le0, fun D hDn => ⟨_, rfl, a, xs, rfl, seqT (same_new (.refl H) hDn) hS, for_it (walk_enumT (xs := xs)) (fun i σ H' => ∃ v1 v2 v3 v4 : Option V, σ = [some (.ref a), some (.int at_), some (.int ((m : Nat) : Int)), some (.ref D), v1, v2, v3, v4] ∧ MadeD K H D (((List.range m).take i).map fun i => (rowD m at_ i).d) H') ?_ (fun i σ H' _ ⟨_, _, _, _, _, q⟩ => seqT q.1 hS) ?_ ?_⟩⟩
    · exact ⟨none, none, none, none, rfl, MadeD.start hDn⟩
    · rintro i x σ H2 H3 hi ⟨v1, v2, v3, v4, rfl, s2, vs, h2, d2⟩ ⟨T0, x1, y1, rfl, hT0, rfl, hx1, hy1⟩
      cases hx1
      have s3 : Same H (upd H2 T0 (.tup [.int ((i : Nat) : Int), y1])) := same_new s2 hT0
      have h3 : upd H2 T0 (.tup [.int ((i : Nat) : Int), y1]) D = some (.lst vs) := by rw [upd_ne (ne_of_none h2 hT0)]; exact h2
      have d3 := d2.mono (.same (same_new (o := .tup [.int ((i : Nat) : Int), y1]) (.refl H2) hT0))
      obtain ⟨ta, va, vn, rfl, hta, hva, hvn, hi2⟩ := jn_at (hD.mono (.same s3)) hy1
      refine ⟨T0, _, rfl, SqT.of upd_same, rfl, _, _, rfl, _, _, rfl, ⟨ta, _, rfl, hta, rfl, _, _, rfl, _, _, rfl, rfl, rfl, ?_⟩⟩
      generalize upd H2 T0 (.tup [.int ((i : Nat) : Int), .ref ta]) = H4 at *
      refine ⟨fun σ' H' => σ' = [some (.ref a), some (.int at_), some (.int ((m : Nat) : Int)), some (.ref D), some (.int ((i : Nat) : Int)), some va, some vn, some (.int (if ((i : Nat) : Int) + 1 < ((m : Nat) : Int) then ((i : Nat) : Int) + 1 else ((m : Nat) : Int) + 1))] ∧ H' = H4, ?_, ?_⟩
      · refine ⟨_, rfl, _, _, rfl, rfl, _, rfl, _, _, rfl, rfl, _, rfl, ?_⟩
        by_cases c : ((i : Nat) : Int) + 1 < ((m : Nat) : Int)
        · rw [if_pos c]
          exact ifT (decide_eq_true c) ⟨_, rfl, _, _, rfl, rfl, rfl, rfl⟩
        · rw [if_neg c]
          exact ifF (decide_eq_false c) ⟨_, rfl, _, _, rfl, rfl, rfl, rfl⟩
      rintro σ1 H1 ⟨rfl, rfl⟩
      refine ⟨_, rfl, .inl ⟨rfl, _, SqL.of h3⟩, _, rfl, _, rfl, _, rfl, le2, fun p1 hp1 => ⟨le1, fun p2 hp2 => ⟨_, rfl, _, rfl, rfl, _, rfl, ?_⟩⟩⟩
      have t1 := TD.new_tup hp1 (.cons hvn (.cons (.int (if ((i : Nat) : Int) + 1 < ((m : Nat) : Int) then ((i : Nat) : Int) + 1 else ((m : Nat) : Int) + 1)) .nil))
      have t2 := TD.new_tup hp2 (.cons t1 .nil)
      have m12 := same_new (o := .tup [.ref p1]) (same_new (o := .tup [vn, .int (if ((i : Nat) : Int) + 1 < ((m : Nat) : Int) then ((i : Nat) : Int) + 1 else ((m : Nat) : Int) + 1)]) (.refl H1) hp1) hp2
      have fin : ∀ z : Int, z = (if ((i : Nat) : Int) = at_ then ((m : Nat) : Int) else ((m : Nat) : Int) + 1) → ∀ p3, upd (upd H1 p1 (.tup [vn, .int (if ((i : Nat) : Int) + 1 < ((m : Nat) : Int) then ((i : Nat) : Int) + 1 else ((m : Nat) : Int) + 1)])) p2 (.tup [.ref p1]) p3 = none →
          ∃ l ys y, V.ref D = .ref l ∧ [V.ref p3] = [y] ∧ upd (upd (upd H1 p1 (.tup [vn, .int (if ((i : Nat) : Int) + 1 < ((m : Nat) : Int) then ((i : Nat) : Int) + 1 else ((m : Nat) : Int) + 1)])) p2 (.tup [.ref p1])) p3 (.tup [.str "act", va, .ref p2, .int z]) l = some (.lst ys) ∧ ys.length < sizeLine ∧
            ∃ v1 v2 v3 v4 : Option V, [some (V.ref a), some (.int at_), some (.int ((m : Nat) : Int)), some (.ref D), some (.int ((i : Nat) : Int)), some va, some vn, some (.int (if ((i : Nat) : Int) + 1 < ((m : Nat) : Int) then ((i : Nat) : Int) + 1 else ((m : Nat) : Int) + 1))] = [some (V.ref a), some (.int at_), some (.int ((m : Nat) : Int)), some (.ref D), v1, v2, v3, v4] ∧
              MadeD K H D (((List.range m).take (i + 1)).map fun i => (rowD m at_ i).d) (upd (upd (upd (upd H1 p1 (.tup [vn, .int (if ((i : Nat) : Int) + 1 < ((m : Nat) : Int) then ((i : Nat) : Int) + 1 else ((m : Nat) : Int) + 1)])) p2 (.tup [.ref p1])) p3 (.tup [.str "act", va, .ref p2, .int z])) l (.lst (ys ++ [y]))) := fun z hz p3 hp3 => by
        have t3 := TD.new_tup hp3 (.cons (.str "act") (.cons (hva.mono (.same m12)) (.cons t2 (.cons (.int z) .nil))))
        have m3 := same_new (o := .tup [.str "act", va, .ref p2, .int z]) m12 hp3
        refine ⟨D, vs, _, rfl, rfl, m3 _ _ h3, ?_, _, _, _, _, rfl, ?_⟩
        · rw [d3.length, List.length_map, List.length_take]
          exact sl_lt (by omega)
        · have er : (List.range m)[i]? = some i := List.getElem?_range hi2
          rw [map_more _ er]
          subst hz
          exact MadeD.push hDn (s3.trans m3) (m3 _ _ h3) (d3.mono (.same m3)) t3
      by_cases c : V.int ((i : Nat) : Int) = V.int at_
      · have c' : ((i : Nat) : Int) = at_ := by injection c
        exact ifT (decide_eq_true c) ⟨_, rfl, le4, fun p3 hp3 => fin _ (if_pos c').symm p3 hp3⟩
      · have c' : ¬ ((i : Nat) : Int) = at_ := fun e => c (by rw [e])
        exact ifF (decide_eq_false c) ⟨_, rfl, _, _, rfl, rfl, le4, fun p3 hp3 => fin _ (if_neg c').symm p3 hp3⟩
    · rintro σ H2 ⟨v1, v2, v3, v4, rfl, s2, vs, h2, d2⟩
      rw [el, List.take_of_length_le (by rw [List.length_range] <;> exact Nat.le_refl _)] at d2
      refine ⟨_, rfl, le0, fun p1 hp1 => ⟨_, rfl, _, _, rfl, rfl, le4, fun p2 hp2 => ⟨le2, fun l hl => ⟨D, l, vs, _, rfl, rfl, ?_, upd_same, ?_, fun p hp => ?_⟩⟩⟩⟩
      · rw [upd_ne (ne_of_none (same_new (same_new (.refl H2) hp1) hp2 _ _ h2) hl)]
        exact same_new (same_new (.refl H2) hp1) hp2 _ _ h2
      · rw [d2.length, List.length_map, List.length_range]
        exact sl_le (by show m + 2 ≤ 100000; omega)
      · refine ⟨p, _, rfl, .inl ⟨SqL.of upd_same, fun q hq => ?_⟩⟩
        have tn : TD K (upd H2 p1 (.tup [])) (.ref p1) (.tuple []) := TD.new_tup hp1 .nil
        have t2 := TD.new_tup hp2 (.cons (.str "act") (.cons (tD _) (.cons tn (.cons (.int (((m : Nat) : Int) + 1)) .nil))))
        have m0 := same_new (o := .tup [.str "act", .ref aD, .ref p1, .int (((m : Nat) : Int) + 1)]) (same_new (o := .tup []) (.refl H2) hp1) hp2
        have m1 := same_new (o := .lst [.ref p2, .ref aS]) m0 hl
        have m2 := same_new (o := .lst (vs ++ [.ref p2, .ref aS])) m1 hp
        have m3 := same_new (o := .tup (vs ++ [.ref p2, .ref aS])) m2 hq
        have m23 := same_new (o := .lst (vs ++ [.ref p2, .ref aS])) (same_new (o := .lst [.ref p2, .ref aS]) (.refl _) hl) hp
        refine k q _ (s2.trans m3) ⟨?_, ?_, ?_⟩
        · have t := TD.new_tup hq (((d2.mono (.same m2))).append (.cons (t2.mono (.same m23)) (.cons (tS _) .nil)))
          unfold rowsD
          rw [List.map_append, List.map_map]
          exact t
        · unfold rowsD
          rw [List.length_append, List.length_map, List.length_range]
          show m + 2 ≤ 1000
          omega
        · intro r hr
          rcases List.mem_append.mp hr with q | q
          · obtain ⟨i, _, rfl⟩ := List.mem_map.mp q
            exact ⟨jA_wf, cs1_ok _⟩
          · rcases List.mem_cons.mp q with q | q
            · rw [q]
              exact ⟨⟨by decide +kernel, by show 0 ≤ 1000; decide, fun l hl => nomatch hl⟩, by show 0 ≤ 1000; decide, fun c hc => nomatch hc⟩
            · rw [List.mem_singleton.mp q]
              trivial
end
end K23
/-! ### the law's draws -/
namespace K23
open PySem PySem.Spec PyProof.Rows L2
/-- at b the box: the digits' list at dl, and how many were drawn -/
def BoxAt (H : Hp) (b dl : Addr) : Prop := ∃ (ds : List Int) (at_ : Int), H b = some (.lst [.ref dl, .int at_]) ∧ H dl = some (.lst (ds.map V.int)) ∧ dl ≠ b ∧ 0 ≤ at_ ∧ ds.length ≤ 100000
/-- from H to H': the box stands in both; all else that was tracked is as it was -/
structure Bx (b dl : Addr) (H H' : Hp) : Prop where
  b0 : BoxAt H b dl
  b1 : BoxAt H' b dl
  fr : Fr b H H'
theorem Bx.refl {b dl : Addr} {H : Hp} (h : BoxAt H b dl) : Bx b dl H H := ⟨h, h, .refl b H⟩
theorem Bx.trans {b dl : Addr} {H H1 H2 : Hp} (x : Bx b dl H H1) (y : Bx b dl H1 H2) : Bx b dl H H2 := ⟨x.b0, y.b1, x.fr.trans y.fr⟩
theorem BoxAt.same {H H' : Hp} {b dl : Addr} (h : BoxAt H b dl) (s : Same H H') : BoxAt H' b dl := by
  obtain ⟨ds, at_, h1, h2, h3⟩ := h
  exact ⟨ds, at_, s _ _ h1, s _ _ h2, h3⟩
theorem Bx.same {b dl : Addr} {H H1 H2 : Hp} (x : Bx b dl H H1) (s : Same H1 H2) : Bx b dl H H2 := ⟨x.b0, x.b1.same s, x.fr.trans (.of s)⟩
theorem Bx.of {b dl : Addr} {H H' : Hp} (h : BoxAt H b dl) (s : Same H H') : Bx b dl H H' := (Bx.refl h).same s
theorem BoxAt.some_b {H : Hp} {b dl : Addr} (h : BoxAt H b dl) : ∃ xs, H b = some (.lst xs) := by
  obtain ⟨ds, at_, h1, _⟩ := h
  exact ⟨_, h1⟩
theorem BoxAt.ne {H : Hp} {b dl p : Addr} (h : BoxAt H b dl) (n : H p = none) : p ≠ b ∧ p ≠ dl := by
  obtain ⟨ds, at_, h1, h2, _⟩ := h
  exact ⟨(ne_of_none h1 n).symm, (ne_of_none h2 n).symm⟩
theorem BoxAt.upd {H : Hp} {b dl p : Addr} {o : HO} (h : BoxAt H b dl) (n1 : p ≠ b) (n2 : p ≠ dl) : BoxAt (upd H p o) b dl := by
  obtain ⟨ds, at_, h1, h2, h3⟩ := h
  exact ⟨ds, at_, by rw [upd_ne n1.symm]; exact h1, by rw [upd_ne n2.symm]; exact h2, h3⟩
theorem Bx.new {b dl p : Addr} {H H' : Hp} {o : HO} (x : Bx b dl H H') (n : H' p = none) : Bx b dl H (upd H' p o) := x.same (same_new (.refl H') n)
theorem Bx.mut {b dl p : Addr} {H H' : Hp} {o : HO} (x : Bx b dl H H') (n : H p = none) : Bx b dl H (upd H' p o) :=
  ⟨x.b0, x.b1.upd (x.b0.ne n).1 (x.b0.ne n).2, x.fr.mut n⟩
theorem Bx.tp {K : PySem.W.Frag} {b dl : Addr} {H H' : Hp} (x : Bx b dl H H') : Tp K H H' := by
  obtain ⟨xs, hb⟩ := x.b0.some_b
  exact .fr x.fr hb
/-- what is no part of the box stands -/
theorem Bx.get {b dl a : Addr} {H H' : Hp} {o : HO} (x : Bx b dl H H') (n : a ≠ b) (h : H a = some o) : H' a = some o := x.fr a o n h
theorem Bx.none_back {b dl p : Addr} {H H' : Hp} (x : Bx b dl H H') (n : H' p = none) : H p = none := none_backF x.fr (x.b1.ne n).1 n
theorem menuV {xs : List V} {r : Int} (h0 : 0 ≤ r) (h1 : r < (xs.length : Int)) : ∃ v ∈ xs, atI xs r = some v := by
  obtain ⟨n, rfl⟩ := Int.eq_ofNat_of_zero_le h0
  have hn : n < xs.length := by omega
  exact ⟨xs[n], List.getElem_mem hn, atI_nat (List.getElem?_eq_getElem hn)⟩
theorem menuS {ws : List Str} {r : Int} (h0 : 0 ≤ r) (h1 : r < (ws.length : Int)) : ∃ x ∈ ws, atI (ws.map V.str) r = some (.str x) := by
  obtain ⟨v, hv, e⟩ := menuV (xs := ws.map V.str) h0 (by rw [List.length_map]; exact h1)
  obtain ⟨x, hx, rfl⟩ := List.mem_map.mp hv
  exact ⟨x, hx, e⟩
section
variable {P : Program} {w : World} {K : PySem.W.Frag} {mg : Str → Option Value} {base : Heap}
theorem p1000 : (0 : Int) < 1000 := by decide
theorem pS1 : (0 : Int) < 2147483399 := by decide
theorem pS2 : (0 : Int) < 2147483563 := by decide
def spCell (K : PySem.W.Frag) : Sp := fun vs H Q _ => ∃ (a : Addr) (ns : List Int) (k : Int), vs = [.ref a, .int k] ∧ SqL K H a (ns.map V.int) ∧ 0 ≤ k ∧ ∀ z : Int, Q (.int z) H
def n_cell : List Str := ["_law_script", "_law_k"]
theorem sc_cell : FnScope n_cell ["_law_script", "_law_k"] (defScope s__law_cell) := ⟨rfl, rfl, rfl, by decide +kernel, rfl, by decide +kernel, by decide +kernel⟩
theorem ok_cell (D : DefAt K mg "_law_cell" s__law_cell) (T : Txt K mg) : Cal P w K mg base CX0 1 "_law_cell" (spCell K) := by
  refine cal0 D sc_cell (fun _ _ _ _ _ _ us hl => match us, hl with | [_, _], _ => rfl) (fun vs H Q E h => ?_) (fun f cdv A outer s H vs Q E hr h => ?_)
  · obtain ⟨a, ns, k, rfl, _⟩ := h
    rfl
  · obtain ⟨a, ns, k, rfl, hS, hk, q⟩ := h
    refine ⟨_, (pss_cons (ps_if (pt_cmpR op_lt (pv 1) (pe_callB call_len_seq (by rfl) T.len PySem.boot_len (pa_cons (pv 0) pa_nil)) (nomark _)) (pss_one (ps_ret (pe_ix ix_list (pv 0) (pv 1) (fun _ _ => rfl)))) pss_nil)
      (pss_one (ps_ret pe_int))), ?_⟩
    refine ⟨_, rfl, _, rfl, a, _, rfl, .inl hS, _, _, rfl, rfl, _, rfl, ?_⟩
    by_cases c : k < ((ns.map V.int).length : Int)
    · obtain ⟨v, hv, e⟩ := menuV hk c
      obtain ⟨z, _, rfl⟩ := List.mem_map.mp hv
      exact ifT (decide_eq_true c) ⟨_, rfl, _, rfl, a, _, k, _, rfl, rfl, hS, e, q z⟩
    · exact ifF (decide_eq_false c) (q 0)
def spDigits (K : PySem.W.Frag) : Sp := fun vs H Q _ => ∃ (a : Addr) (ns : List Int), vs = [.ref a, .int 0, .int 63] ∧ SqL K H a (ns.map V.int) ∧ ∀ l ds H', H l = none → Same H H' → H' l = some (.lst ((ds : List Int).map V.int)) → ds.length ≤ 100000 → Q (.ref l) H'
/-- ints in the list at l, at most n -/
def IntsAt (H0 : Hp) (l : Addr) (n : Nat) (H : Hp) : Prop := Same H0 H ∧ ∃ ds : List Int, H l = some (.lst (ds.map V.int)) ∧ ds.length ≤ n
theorem IntsAt.push {H0 H : Hp} {l : Addr} {n : Nat} {ds : List Int} {z : Int} (h0 : H0 l = none) (s : Same H0 H) (hl : ds.length ≤ n) : IntsAt H0 l (n + 1) (upd H l (.lst (ds.map V.int ++ [.int z]))) :=
  ⟨same_mut s h0, ds ++ [z], by rw [List.map_append]; exact upd_same, by rw [List.length_append]; show ds.length + 1 ≤ n + 1; omega⟩
theorem IntsAt.le {H0 H : Hp} {l : Addr} {n m : Nat} (h : IntsAt H0 l n H) (e : n ≤ m) : IntsAt H0 l m H := by
  obtain ⟨s, ds, h1, h2⟩ := h
  exact ⟨s, ds, h1, Nat.le_trans h2 e⟩
def n_dig : List Str := ["_law_script", "_law_first", "_law_last", "_law_digits_here", "_law_k", "_law_cell_here", "_law_turn", "_law_seed"]
theorem sc_dig : FnScope n_dig ["_law_script", "_law_first", "_law_last"] (defScope s__law_digits) := ⟨rfl, rfl, rfl, by decide +kernel, rfl, by decide +kernel, by decide +kernel⟩
theorem ok_dig (D : DefAt K mg "_law_digits" s__law_digits) (T : Txt K mg) (c_cell : Cal P w K mg base CX0 1 "_law_cell" (spCell K)) : Cal P w K mg base CX0 2 "_law_digits" (spDigits K) := by
  refine cal0 D sc_dig (fun _ _ _ _ _ _ us hl => match us, hl with | [_, _, _], _ => rfl) (fun vs H Q E h => ?_) (fun f cdv A outer s H vs Q E hr h => ?_)
  · obtain ⟨a, ns, rfl, _⟩ := h
    rfl
  · obtain ⟨a, ns, rfl, hS, q⟩ := h
    refine ⟨_, (pss_cons (ps_set (i := 3) sc_dig.nd rfl (Or.inl rfl) (pe_lst pa_nil))
      (pss_cons (ps_for PassesOwn.never rfl (pi_range2 (by rfl) T.range (pa_cons (pv 1) (pa_cons (pv 2) pa_nil))) (pg_name (i := 4) sc_dig.nd rfl (Or.inl rfl))
        (C8.pss_cut (ps_set (i := 5) sc_dig.nd rfl (Or.inl rfl) (pe_c c_cell hr (by decide) (by rfl) (pa_cons (pv 0) (pa_cons (pv 4) pa_nil))))
      (C8.pss_cut (ps_if (pt_cmpR op_lt (pv 5) pe_int (nomark _)) (pss_one (ps_set (i := 5) sc_dig.nd rfl (Or.inl rfl) (pe_op op_sub pe_int (pe_op op_mul pe_int (pv 5))))) pss_nil)
      (pss_one (ps_if (pt_cmpR op_ge (pv 5) pe_int (nomark _)) (pss_one (ps_for PassesOwn.never rfl (pi_range1 (by rfl) T.range (pa_cons pe_int pa_nil)) (pg_name (i := 6) sc_dig.nd rfl (Or.inl rfl))
        (pss_one (ps_if (pt_cmpR op_gt (pv 5) pe_int (nomark _)) (pss_cons (ps_expr (pe_bm PySem.F.plainAttrs_list PySem.F.slot_list_append PySem.F.type_list_append mt_append (pv 3) (pa_cons (pe_op op_mod (pe_callTy call_int1 (by rfl) T.int (by decide +kernel) (pa_cons (pv 5) pa_nil)) pe_int) pa_nil)))
      (pss_one (ps_set (i := 5) sc_dig.nd rfl (Or.inl rfl) (pe_op op_fdiv (pv 5) pe_int)))) pss_nil)))) (pss_cons (ps_set (i := 7) sc_dig.nd rfl (Or.inl rfl) (pe_op op_mod (pe_callTy call_int1 (by rfl) T.int (by decide +kernel) (pa_cons (pe_op op_add (pe_op op_add (pe_op op_mul (pv 5) pe_int) (pe_op op_mul (pv 4) pe_int)) pe_int) pa_nil)) pe_int))
      (pss_one (ps_for PassesOwn.never rfl (pi_range1 (by rfl) T.range (pa_cons pe_int pa_nil)) (pg_name (i := 6) sc_dig.nd rfl (Or.inl rfl))
        (pss_cons (ps_set (i := 7) sc_dig.nd rfl (Or.inl rfl) (pe_op op_mod (pe_callTy call_int1 (by rfl) T.int (by decide +kernel) (pa_cons (pe_op op_add (pe_op op_add (pe_op op_mul (pv 7) pe_int) (pe_op op_mul pe_int (pv 6))) pe_int) pa_nil)) pe_int))
      (pss_one (ps_expr (pe_bm PySem.F.plainAttrs_list PySem.F.slot_list_append PySem.F.type_list_append mt_append (pv 3) (pa_cons (pe_op op_mod (pe_callTy call_int1 (by rfl) T.int (by decide +kernel) (pa_cons (pe_op op_fdiv (pv 7) pe_int) pa_nil)) pe_int) pa_nil)))))))))))))
      (pss_one (ps_ret (pv 3))))), ?_⟩
    refine ⟨le0, fun l hl => ?_⟩
    refine ⟨_, rfl, _, rfl, 0, 63, rfl, ⟨by decide, by decide, by decide, by decide⟩, for_range (lo := 0) (n := 63) (fun i σ H' => ∃ v1 v2 v3 v4 : Option V, σ = [some (.ref a), some (.int 0), some (.int 63), some (.ref l), v1, v2, v3, v4] ∧ IntsAt H l (60 * i) H') ?_ ?_ ?_⟩
    · exact ⟨none, none, none, none, rfl, same_new (.refl H) hl, [], upd_same, Nat.zero_le _⟩
    · rintro i σ H1 hi ⟨v1, v2, v3, v4, rfl, hI⟩
      have hI0 := hI
      obtain ⟨s1, ds1, h1, l1⟩ := hI0
      -- _law_cell_here
      refine ⟨fun σ' H' => ∃ c : Int, σ' = [some (.ref a), some (.int 0), some (.int 63), some (.ref l), some (.int (0 + (i : Nat))), some (.int c), v3, v4] ∧ H' = H1, ⟨_, rfl, _, rfl, a, ns, _, rfl, s1.seq hS, by omega, fun z => ⟨z, rfl, rfl⟩⟩, ?_⟩
      rintro σ2 H2 ⟨c, rfl, rfl⟩
      refine ⟨fun σ' H' => ∃ c : Int, σ' = [some (.ref a), some (.int 0), some (.int 63), some (.ref l), some (.int (0 + (i : Nat))), some (.int c), v3, v4] ∧ H' = H2, ?_, ?_⟩
      · refine rd_if ⟨_, rfl, _, _, rfl, rfl, _, rfl, ?_⟩
        refine ite2 (fun _ => ?_) (fun _ => ⟨c, rfl, rfl⟩)
        exact ⟨_, rfl, _, _, rfl, rfl, .inl ⟨by decide, by decide⟩, _, _, rfl, rfl, _, rfl, rfl⟩
      rintro σ3 H3 ⟨c, rfl, rfl⟩
      refine rd_if ⟨_, rfl, _, _, rfl, rfl, _, rfl, ?_⟩
      refine ite2 (fun _ => ?_) (fun _ => ?_)
      · refine ⟨60, rfl, by decide, by decide, for_range (lo := 0) (n := 60) (fun j σ H' => ∃ (c : Int) (v3 : Option V), σ = [some (.ref a), some (.int 0), some (.int 63), some (.ref l), some (.int (0 + (i : Nat))), some (.int c), v3, v4] ∧ IntsAt H l (60 * i + j) H') ⟨c, v3, rfl, hI⟩ ?_ ?_⟩
        · rintro j σ H4 hj ⟨c, v3, rfl, s4, ds, h4, l4⟩
          refine rd_if ⟨_, rfl, _, _, rfl, rfl, _, rfl, ?_⟩
          refine ite2 (fun _ => ?_) (fun _ => ⟨c, _, rfl, s4, ds, h4, by omega⟩)
          refine ⟨_, rfl, .inl ⟨rfl, _, SqL.of h4⟩, _, rfl, .inl ⟨c, rfl, _, _, rfl, rfl, p1000, l, _, _, rfl, rfl, h4, sl_lt (by rw [List.length_map]; omega), ?_⟩⟩
          refine ⟨_, rfl, _, _, rfl, rfl, ⟨by decide, by decide⟩, ?_⟩
          exact ⟨_, _, rfl, IntsAt.push hl s4 l4⟩
        · rintro σ H4 ⟨c, v3, rfl, hI4⟩
          exact ⟨_, _, _, _, rfl, hI4.le (by omega)⟩
      · refine ⟨_, rfl, _, _, rfl, rfl, .inr ⟨by decide, by decide⟩, _, rfl, _, _, rfl, rfl, .inr ⟨by decide, by decide⟩, _, _, rfl, rfl, _, _, rfl, rfl, .inl ⟨_, rfl, _, _, rfl, rfl, pS1, ?_⟩⟩
        refine ⟨12, rfl, by decide, by decide, for_range (lo := 0) (n := 12) (fun j σ H' => ∃ (sd : Int) (v3 : Option V), σ = [some (.ref a), some (.int 0), some (.int 63), some (.ref l), some (.int (0 + (i : Nat))), some (.int c), v3, some (.int sd)] ∧ IntsAt H l (60 * i + j) H') ⟨_, v3, rfl, hI⟩ ?_ ?_⟩
        · rintro j σ H4 hj ⟨sd, v3, rfl, s4, ds, h4, l4⟩
          refine ⟨_, rfl, _, _, rfl, rfl, .inr ⟨by decide, by decide⟩, _, rfl, _, _, rfl, rfl, .inl ⟨by decide, by decide⟩, _, _, rfl, rfl, _, _, rfl, rfl, .inl ⟨_, rfl, _, _, rfl, rfl, pS2, ?_⟩⟩
          refine ⟨_, rfl, .inl ⟨rfl, _, SqL.of h4⟩, _, rfl, _, _, rfl, rfl, ⟨by decide, by decide⟩, .inl ⟨_, rfl, _, _, rfl, rfl, p1000, l, _, _, rfl, rfl, h4, sl_lt (by rw [List.length_map]; omega), ?_⟩⟩
          exact ⟨_, _, rfl, IntsAt.push hl s4 l4⟩
        · rintro σ H4 ⟨sd, v3, rfl, hI4⟩
          exact ⟨_, _, _, _, rfl, hI4.le (by omega)⟩
    · rintro σ H1 ⟨v1, v2, v3, v4, rfl, s1, ds, h1, l1⟩
      exact ⟨_, rfl, q l ds _ hl s1 h1 (by omega)⟩
def spDraw : Sp := fun vs H Q _ => ∃ (b dl : Addr) (m : Int), vs = [.ref b, .int m] ∧ BoxAt H b dl ∧ 0 < m ∧ ∀ r H', 0 ≤ r → r < m → Bx b dl H H' → Q (.int r) H'
def n_draw : List Str := ["_law_box", "_law_many", "_law_at"]
theorem sc_draw : FnScope n_draw ["_law_box", "_law_many"] (defScope s__law_draw) := ⟨rfl, rfl, rfl, by decide +kernel, rfl, by decide +kernel, by decide +kernel⟩
theorem ok_draw (D : DefAt K mg "_law_draw" s__law_draw) (T : Txt K mg) : Cal P w K mg base CX0 1 "_law_draw" spDraw := by
  refine cal0 D sc_draw (fun _ _ _ _ _ _ us hl => match us, hl with | [_, _], _ => rfl) (fun vs H Q E h => ?_) (fun f cdv A outer s H vs Q E hr h => ?_)
  · obtain ⟨b, dl, m, rfl, _⟩ := h
    rfl
  · obtain ⟨b, dl, m, rfl, hB, hm, k⟩ := h
    refine ⟨_, (pss_cons (ps_set (i := 2) sc_draw.nd rfl (Or.inl rfl) (pe_ix ix_list (pv 0) pe_int (fun _ _ => rfl)))
      (pss_cons (ps_asg (pe_op op_add (pv 2) pe_int) (pg_sub (pv 0) pe_int set_list))
      (pss_cons (ps_if (pt_cmpR op_lt (pv 2) (pe_callB call_len_seq (by rfl) T.len PySem.boot_len (pa_cons (pe_ix ix_list (pv 0) pe_int (fun _ _ => rfl)) pa_nil)) (nomark _)) (pss_one (ps_ret (pe_op op_mod (pe_callTy call_int1 (by rfl) T.int (by decide +kernel) (pa_cons (pe_ix ix_list (pe_ix ix_list (pv 0) pe_int (fun _ _ => rfl)) (pv 2) (fun _ _ => rfl)) pa_nil)) (pv 1)))) pss_nil)
      (pss_one (ps_ret (pe_op op_mod (pe_callTy call_int1 (by rfl) T.int (by decide +kernel) (pa_cons (pe_op op_add (pe_op op_mul (pv 2) pe_int) pe_int) pa_nil)) (pv 1))))))), ?_⟩
    have hB0 := hB
    obtain ⟨ds, at_, hb, hd, hne, h0, hl⟩ := hB0
    refine ⟨_, rfl, b, _, 1, _, rfl, rfl, SqL.of hb, rfl, ?_⟩
    refine ⟨_, rfl, _, _, rfl, rfl, _, rfl, b, _, 1, 1, rfl, rfl, hb, rfl, ?_⟩
    have hd' : upd H b (.lst [.ref dl, .int (at_ + 1)]) dl = some (.lst (ds.map V.int)) := by rw [upd_ne hne]; exact hd
    have x : Bx b dl H (upd H b (.lst [.ref dl, .int (at_ + 1)])) := ⟨hB, ⟨ds, at_ + 1, upd_same, hd', hne, by omega, hl⟩, (Fr.refl b H).at⟩
    have fin : ∀ z : Int, Q (.int (z % m)) (upd H b (.lst [.ref dl, .int (at_ + 1)])) := fun z => k _ _ (Int.emod_nonneg _ (by omega)) (Int.emod_lt_of_pos _ hm) x
    refine ⟨_, rfl, _, rfl, b, _, 0, _, rfl, rfl, SqL.of upd_same, rfl, dl, _, rfl, .inl (SqL.of hd'), _, _, rfl, rfl, _, rfl, ?_⟩
    by_cases c : at_ < ((ds.map V.int).length : Int)
    · obtain ⟨v, hv, e⟩ := menuV h0 c
      obtain ⟨z, _, rfl⟩ := List.mem_map.mp hv
      exact ifT (decide_eq_true c) ⟨_, rfl, b, _, 0, _, rfl, rfl, SqL.of upd_same, rfl, _, rfl, dl, _, at_, _, rfl, rfl, SqL.of hd', e, .inl ⟨z, rfl, _, rfl, _, _, rfl, rfl, hm, fin z⟩⟩
    · exact ifF (decide_eq_false c) ⟨_, rfl, _, _, rfl, rfl, .inr ⟨by decide, by decide⟩, _, _, rfl, rfl, .inl ⟨_, rfl, _, rfl, _, _, rfl, rfl, hm, fin _⟩⟩
end
end K23
/-! ### paths, lines, files as the law draws them -/
namespace K23
open PySem PySem.Spec PyProof.Rows L2
def names4 : List Str := ["a", "b", "ab", "x1"]
def joinS (l : List Str) : Str := Txt.join "/" l
def paths1 : List Str := names4.map fun x => joinS [x]
def paths2 : List Str := names4.flatMap fun x => names4.map fun y => joinS [x, y]
def paths3 : List Str := names4.flatMap fun x => names4.flatMap fun y => names4.map fun z => joinS [x, y, z]
def allPaths : List Str := paths1 ++ (paths2 ++ paths3)
def PathOk (p : Str) : Prop := p ∈ allPaths
theorem path_B : ∀ p ∈ allPaths, pathB p = true := by decide +kernel
theorem path_T : ∀ p ∈ allPaths, TOk p := by decide +kernel
theorem path_l : ∀ p ∈ allPaths, p.length ≤ 20 := by decide +kernel
def place2 (p : Str) : Str := joinS ((partsS p).take 2)
theorem path_2 : ∀ p ∈ allPaths, place2 p ∈ allPaths := by decide +kernel
theorem path_p : ∀ p ∈ allPaths, ∀ x ∈ partsS p, x ∈ allPaths := by decide +kernel
theorem path_n : ∀ p ∈ allPaths, 1 ≤ (partsS p).length ∧ (partsS p).length ≤ 3 := by decide +kernel
def lines8 : List Str := ["x", "y", "x y", "", "todo", "yx", "note the x", "12345678901234567890"]
def LineOk (l : Str) : Prop := l ∈ lines8
theorem line_T : ∀ l ∈ lines8, TOk l ∧ lineB l = true ∧ l.length ≤ 20 := by decide +kernel
theorem join_path {ws : List Str} (h : ∀ x ∈ ws, x ∈ names4) (h1 : 1 ≤ ws.length) (h3 : ws.length ≤ 3) : PathOk (joinS ws) := by
  match ws, h1, h3 with
  | [x], _, _ => exact List.mem_append_left _ (List.mem_map.mpr ⟨x, h x (by simp), rfl⟩)
  | [x, y], _, _ => exact List.mem_append_right _ (List.mem_append_left _ (List.mem_flatMap.mpr ⟨x, h x (by simp), List.mem_map.mpr ⟨y, h y (by simp), rfl⟩⟩))
  | [x, y, z], _, _ => exact List.mem_append_right _ (List.mem_append_right _ (List.mem_flatMap.mpr ⟨x, h x (by simp), List.mem_flatMap.mpr ⟨y, h y (by simp), List.mem_map.mpr ⟨z, h z (by simp), rfl⟩⟩⟩))
theorem names4_len : ∀ x ∈ names4, x.length ≤ 2 := by decide +kernel
theorem sum_len {ws : List Str} {n : Nat} (h : ∀ x ∈ ws, x.length ≤ n) : (ws.map (·.length)).sum ≤ ws.length * n := by
  induction ws with
  | nil => simp
  | cons a r ih =>
    have h1 := h a (by simp)
    have h2 := ih fun x hx => h x (by simp [hx])
    rw [List.map_cons, List.sum_cons, List.length_cons, Nat.succ_mul]
    omega
section
variable {P : Program} {w : World} {K : PySem.W.Frag} {mg : Str → Option Value} {base : Heap}
def spPth : Sp := fun vs H Q _ => ∃ (b dl : Addr), vs = [.ref b] ∧ BoxAt H b dl ∧ ∀ p H', PathOk p → Bx b dl H H' → Q (.str p) H'
def n_pth : List Str := ["_law_box", "_law_depth", "_law_k"]
theorem sc_pth : FnScope n_pth ["_law_box"] (defScope s__law_path) := ⟨rfl, rfl, rfl, by decide +kernel, rfl, by decide +kernel, by decide +kernel⟩
theorem ok_pth (D : DefAt K mg "_law_path" s__law_path) (T : Txt K mg) (c_draw : Cal P w K mg base CX0 1 "_law_draw" spDraw) : Cal P w K mg base CX0 2 "_law_path" spPth := by
  refine cal0 D sc_pth (fun _ _ _ _ _ _ us hl => match us, hl with | [_], _ => rfl) (fun vs H Q E h => ?_) (fun f cdv A outer s H vs Q E hr h => ?_)
  · obtain ⟨b, dl, rfl, _⟩ := h
    rfl
  · obtain ⟨b, dl, rfl, hB, k⟩ := h
    refine ⟨_, (pss_cons (ps_set (i := 1) sc_pth.nd rfl (Or.inl rfl) (pe_ix ix_list (pe_lst (pa_cons pe_int (pa_cons pe_int (pa_cons pe_int (pa_cons pe_int pa_nil))))) (pe_c c_draw hr (by decide) (by rfl) (pa_cons (pv 0) (pa_cons pe_int pa_nil))) (fun _ _ => rfl)))
      (pss_one (ps_ret (pe_join pe_str (pe_lc (own := [("_law_k", 2)]) (g := gName 2) (tt := tYes) rfl sc_pth.nd (pi_range1 (by rfl) T.range (pa_cons (pv 1) pa_nil)) (blkOk_by (N := n_pth) (sc := defScope s__law_path) (by decide +kernel)) (fun _ _ _ _ _ => (pg_name (i := 2) sc_pth.nd rfl (Or.inl rfl))) (fun _ _ _ _ _ => pts_nil) (fun _ _ _ _ _ => (pe_ix (ix_listK (K := K) rfl) (pe_lst (pa_cons pe_str (pa_cons pe_str (pa_cons pe_str (pa_cons pe_str pa_nil))))) (pe_c c_draw hr (by decide) (by rfl) (pa_cons (pv 0) (pa_cons pe_int pa_nil))) (fun _ _ => rfl)))))))), ?_⟩
    -- the depth
    refine ⟨le4, fun p0 hp0 => ⟨_, rfl, b, dl, 4, rfl, hB.same (same_new (.refl H) hp0), by decide, fun r H1 r0 r4 x1 => ?_⟩⟩
    have x01 : Bx b dl H H1 := (Bx.of hB (same_new (.refl H) hp0)).trans x1
    have h1 : H1 p0 = some (.lst [.int 1, .int 2, .int 2, .int 3]) := x1.get (hB.ne hp0).1 upd_same
    obtain ⟨v, hv, ev⟩ := menuV (xs := [V.int 1, .int 2, .int 2, .int 3]) r0 r4
    obtain ⟨n, rfl, n1, n3⟩ : ∃ n : Nat, v = .int (n : Int) ∧ 1 ≤ n ∧ n ≤ 3 := by
      simp only [List.mem_cons, List.not_mem_nil, or_false] at hv
      rcases hv with rfl | rfl | rfl | rfl
      · exact ⟨1, rfl, by decide, by decide⟩
      · exact ⟨2, rfl, by decide, by decide⟩
      · exact ⟨2, rfl, by decide, by decide⟩
      · exact ⟨3, rfl, by decide, by decide⟩
    refine ⟨p0, _, r, _, rfl, rfl, SqL.of h1, ev, ?_⟩
    refine ⟨⟨_, rfl⟩, _, rfl, (n : Int), rfl, by omega, by omega, fun D hD => lc_range (lo := 0) (n := n) (fun i H' => Bx b dl H H' ∧ ∃ ws : List Str, H' D = some (.lst (ws.map V.str)) ∧ ws.length = i ∧ ∀ x ∈ ws, x ∈ names4) ?_ ?_ ?_⟩
    · exact ⟨x01.new hD, [], upd_same, rfl, fun x hx => nomatch hx⟩
    · rintro i H2 hi ⟨x2, ws, h2, hl, hw⟩
      refine ⟨rfl, lcY ⟨le4, fun p hp => ⟨_, rfl, b, dl, 4, rfl, x2.b1.same (same_new (.refl H2) hp), by decide, fun r H3 r0 r4 x3 => ?_⟩⟩⟩
      have x23 : Bx b dl H2 H3 := (Bx.of x2.b1 (same_new (.refl H2) hp)).trans x3
      have h3 : H3 p = some (.lst (names4.map V.str)) := x3.get (x2.b1.ne hp).1 upd_same
      obtain ⟨x, hx, ex⟩ := menuS (ws := names4) r0 r4
      have hDb : D ≠ b := (x01.b1.ne hD).1
      have h3D : H3 D = some (.lst (ws.map V.str)) := x23.get hDb h2
      refine ⟨p, _, r, _, rfl, rfl, SqL.of h3, ex, _, h3D, sl_lt (by rw [List.length_map]; omega), ?_⟩
      refine ⟨(x2.trans x23).mut (x01.none_back hD), ws ++ [x], by rw [List.map_append]; exact upd_same, by rw [List.length_append]; show ws.length + 1 = i + 1; omega, fun y hy => ?_⟩
      rcases List.mem_append.mp hy with q | q
      · exact hw y q
      · rw [List.mem_singleton.mp q]
        exact hx
    · rintro H2 ⟨x2, ws, h2, hl, hw⟩
      refine ⟨_, D, ws, rfl, rfl, .inl (SqL.of h2), ?_, k _ _ (join_path hw (by omega) (by omega)) x2⟩
      have e := sum_len (n := 2) fun x hx => names4_len x (hw x hx)
      show (ws.map (·.length)).sum + ws.length * 1 ≤ 16777216
      omega
def spLn : Sp := fun vs H Q _ => ∃ (b dl : Addr), vs = [.ref b] ∧ BoxAt H b dl ∧ ∀ l H', LineOk l → Bx b dl H H' → Q (.str l) H'
def n_ln : List Str := ["_law_box"]
theorem sc_ln : FnScope n_ln ["_law_box"] (defScope s__law_line) := ⟨rfl, rfl, rfl, by decide +kernel, rfl, by decide +kernel, by decide +kernel⟩
theorem ok_ln (D : DefAt K mg "_law_line" s__law_line) (c_draw : Cal P w K mg base CX0 1 "_law_draw" spDraw) : Cal P w K mg base CX0 2 "_law_line" spLn := by
  refine cal0 D sc_ln (fun _ _ _ _ _ _ us hl => match us, hl with | [_], _ => rfl) (fun vs H Q E h => ?_) (fun f cdv A outer s H vs Q E hr h => ?_)
  · obtain ⟨b, dl, rfl, _⟩ := h
    rfl
  · obtain ⟨b, dl, rfl, hB, k⟩ := h
    refine ⟨_, (pss_one (ps_ret (pe_ix ix_list (pe_lst (pa_cons pe_str (pa_cons pe_str (pa_cons pe_str (pa_cons pe_str (pa_cons pe_str (pa_cons pe_str (pa_cons pe_str (pa_cons pe_str pa_nil))))))))) (pe_c c_draw hr (by decide) (by rfl) (pa_cons (pv 0) (pa_cons pe_int pa_nil))) (fun _ _ => rfl)))), ?_⟩
    refine ⟨sl_le (by show 8 ≤ 100000; decide), fun p0 hp0 => ⟨_, rfl, b, dl, 8, rfl, hB.same (same_new (.refl H) hp0), by decide, fun r H1 r0 r4 x1 => ?_⟩⟩
    have x01 : Bx b dl H H1 := (Bx.of hB (same_new (.refl H) hp0)).trans x1
    have h1 : H1 p0 = some (.lst (lines8.map V.str)) := x1.get (hB.ne hp0).1 upd_same
    obtain ⟨x, hx, ex⟩ := menuS (ws := lines8) r0 r4
    exact ⟨p0, _, r, _, rfl, rfl, SqL.of h1, ex, k x _ hx x01⟩
/-- lines at v: at most n -/
def LsAt (K : PySem.W.Frag) (H : Hp) (v : V) (n : Nat) : Prop := ∃ ls : List Str, TD K H v (ldD ls) ∧ ls.length ≤ n ∧ ∀ l ∈ ls, LineOk l
theorem LsAt.mono {H H' : Hp} {v : V} {n : Nat} (h : LsAt K H v n) (t : Tp K H H') : LsAt K H' v n := by
  obtain ⟨ls, h1, h2⟩ := h
  exact ⟨ls, h1.mono t, h2⟩
def spLns (K : PySem.W.Frag) : Sp := fun vs H Q _ => ∃ (b dl : Addr) (n : Nat), vs = [.ref b, .int (n : Int)] ∧ n ≤ 10 ∧ BoxAt H b dl ∧ ∀ p H', LsAt K H' (.ref p) n → Bx b dl H H' → Q (.ref p) H'
def n_lns : List Str := ["_law_box", "_law_most", "_law_k"]
theorem sc_lns : FnScope n_lns ["_law_box", "_law_most"] (defScope s__law_lines) := ⟨rfl, rfl, rfl, by decide +kernel, rfl, by decide +kernel, by decide +kernel⟩
theorem ok_lns (D : DefAt K mg "_law_lines" s__law_lines) (T : Txt K mg) (c_draw : Cal P w K mg base CX0 1 "_law_draw" spDraw) (c_line : Cal P w K mg base CX0 2 "_law_line" spLn) : Cal P w K mg base CX0 3 "_law_lines" (spLns K) := by
  refine cal0 D sc_lns (fun _ _ _ _ _ _ us hl => match us, hl with | [_, _], _ => rfl) (fun vs H Q E h => ?_) (fun f cdv A outer s H vs Q E hr h => ?_)
  · obtain ⟨b, dl, n, rfl, _⟩ := h
    rfl
  · obtain ⟨b, dl, n, rfl, hn, hB, k⟩ := h
    refine ⟨_, (pss_one (ps_ret (pe_callTy call_tuple_of (by rfl) T.tuple (by decide +kernel) (pa_cons (pe_lc (own := [("_law_k", 2)]) (g := gName 2) (tt := tYes) rfl sc_lns.nd (pi_range1 (by rfl) T.range (pa_cons (pe_c c_draw hr (by decide) (by rfl) (pa_cons (pv 0) (pa_cons (pe_op op_add (pv 1) pe_int) pa_nil))) pa_nil)) (blkOk_by (N := n_lns) (sc := defScope s__law_lines) (by decide +kernel)) (fun _ _ _ _ _ => (pg_name (i := 2) sc_lns.nd rfl (Or.inl rfl))) (fun _ _ _ _ _ => pts_nil) (fun _ _ _ _ _ => (pe_c c_line hr (by decide) (by rfl) (pa_cons (pv 0) pa_nil)))) pa_nil)))), ?_⟩
    refine ⟨_, rfl, _, rfl, _, _, rfl, rfl, b, dl, _, rfl, hB, by omega, fun r H1 r0 rn x01 => ?_⟩
    refine ⟨r, rfl, by omega, by omega, fun D hD => lc_range (lo := 0) (n := r.toNat) (fun i H' => Bx b dl H H' ∧ ∃ ws : List Str, H' D = some (.lst (ws.map V.str)) ∧ ws.length = i ∧ ∀ x ∈ ws, LineOk x) ?_ ?_ ?_⟩
    · exact ⟨x01.new hD, [], upd_same, rfl, fun x hx => nomatch hx⟩
    · rintro i H2 hi ⟨x2, ws, h2, hl, hw⟩
      refine ⟨rfl, lcY ⟨_, rfl, b, dl, rfl, x2.b1, fun l H3 hl3 x23 => ?_⟩⟩
      have hDb : D ≠ b := (x01.b1.ne hD).1
      have h3D : H3 D = some (.lst (ws.map V.str)) := x23.get hDb h2
      refine ⟨_, h3D, sl_lt (by rw [List.length_map]; omega), ?_⟩
      refine ⟨(x2.trans x23).mut (x01.none_back hD), ws ++ [l], by rw [List.map_append]; exact upd_same, by rw [List.length_append]; show ws.length + 1 = i + 1; omega, fun y hy => ?_⟩
      rcases List.mem_append.mp hy with q | q
      · exact hw y q
      · rw [List.mem_singleton.mp q]
        exact hl3
    · rintro H2 ⟨x2, ws, h2, hl, hw⟩
      refine ⟨D, _, rfl, .inl ⟨SqL.of h2, fun p hp => ?_⟩⟩
      exact k p _ ⟨ws, TD.new_tup hp (TDs.strs ws), by omega, hw⟩ (x2.new hp)
def insB (p q : Str) : Bool := decide (V.str q = V.str "") || decide (V.str (cutS p none (some ((q.length : Int) + 1))) = V.str (q ++ "/"))
def spIns : Sp := fun vs H Q _ => ∃ p q : Str, vs = [.str p, .str q] ∧ p.length ≤ 1000 ∧ q.length ≤ 1000 ∧ Q (.bl (insB p q)) H
def n_ins : List Str := ["_law_path_here", "_law_place_here"]
theorem sc_ins : FnScope n_ins ["_law_path_here", "_law_place_here"] (defScope s__law_inside) := ⟨rfl, rfl, rfl, by decide +kernel, rfl, by decide +kernel, by decide +kernel⟩
theorem ok_ins (D : DefAt K mg "_law_inside" s__law_inside) (T : Txt K mg) : Cal P w K mg base CX0 1 "_law_inside" spIns := by
  refine cal0 D sc_ins (fun _ _ _ _ _ _ us hl => match us, hl with | [_, _], _ => rfl) (fun vs H Q E h => ?_) (fun f cdv A outer s H vs Q E hr h => ?_)
  · obtain ⟨p, q, rfl, _⟩ := h
    rfl
  · obtain ⟨p, q, rfl, hp, hq, k⟩ := h
    refine ⟨_, (pss_one (ps_ret (pe_or (pe_cmpR op_eq (pv 1) pe_str (nomark _)) (pe_one (pe_cmpR op_eq (pe_slice sl_str (pv 0) po_none (po_some (pe_op op_add (pe_callB call_len_str (by rfl) T.len PySem.boot_len (pa_cons (pv 1) pa_nil)) pe_int))) (pe_op op_add_str (pv 1) pe_str) (nomark _)))))), ?_⟩
    refine ⟨_, rfl, rfl, _, rfl, ?_⟩
    by_cases c : V.str q = V.str ""
    · refine ifT (decide_eq_true c) ?_
      have e : insB p q = true := by
        unfold insB
        rw [decide_eq_true c, Bool.true_or]
      rw [e] at k
      exact k
    · refine ifF (decide_eq_false c) ?_
      refine ⟨_, rfl, _, rfl, q, rfl, sl_le (by omega), _, _, rfl, rfl, _, rfl, p, rfl, sl_le (by omega), ?_⟩
      refine ⟨_, rfl, _, _, rfl, rfl, sl_le (by show q.length + 1 ≤ 100000; omega), rfl, ?_⟩
      have e : insB p q = decide (V.str (cutS p none (some ((q.length : Int) + 1))) = V.str (q ++ "/")) := by
        unfold insB
        rw [decide_eq_false c, Bool.false_or]
      rw [e] at k
      exact k
end
end K23
/-! ### the law's own readers of a dict of files -/
namespace K23
open PySem PySem.Spec PyProof.Rows L2
def KvOk (K : PySem.W.Frag) (H : Hp) (kv : Key × V) : Prop := ∃ p : Str, kv.1 = Sum.inr p ∧ PathOk p ∧ LsAt K H kv.2 4
def KvsOk (K : PySem.W.Frag) (H : Hp) (kvs : List (Key × V)) : Prop := kvs.length ≤ 20 ∧ ∀ kv ∈ kvs, KvOk K H kv
structure Files (K : PySem.W.Frag) (H : Hp) (d : Addr) (kvs : List (Key × V)) : Prop where
  at_ : H d = some (.dK kvs)
  ok : KvsOk K H kvs
theorem KvsOk.mono {K : PySem.W.Frag} {H H' : Hp} {kvs : List (Key × V)} (h : KvsOk K H kvs) (t : Tp K H H') : KvsOk K H' kvs := ⟨h.1, fun kv m => by
  obtain ⟨p, h1, h2, h3⟩ := h.2 kv m
  exact ⟨p, h1, h2, h3.mono t⟩⟩
theorem Files.same {K : PySem.W.Frag} {H H' : Hp} {d : Addr} {kvs : List (Key × V)} (h : Files K H d kvs) (s : Same H H') : Files K H' d kvs := ⟨s _ _ h.at_, h.ok.mono (.same s)⟩
theorem Files.bx {K : PySem.W.Frag} {H H' : Hp} {b dl d : Addr} {kvs : List (Key × V)} (h : Files K H d kvs) (x : Bx b dl H H') : Files K H' d kvs := by
  obtain ⟨xs, hb⟩ := x.b0.some_b
  exact ⟨x.get (ne_of h.at_ hb (by intro z; cases z)) h.at_, h.ok.mono x.tp⟩
theorem same_unlock {H H' : Hp} {d : Addr} {u : HO} {od : Obj} (h : H d = some u) (s : Same (upd H d (.frz od u)) H') : Same H (upd H' d u) := fun b o e => by
  by_cases hb : b = d
  · rw [hb] at e ⊢
    rw [upd_same]
    rw [h] at e
    exact e
  · rw [upd_ne hb]
    exact s b o (by rw [upd_ne hb]; exact e)
/-- a text that is "" or a path -/
def PlaceOk (q : Str) : Prop := q = "" ∨ PathOk q
theorem PlaceOk.len {q : Str} (h : PlaceOk q) : q.length ≤ 20 := by
  rcases h with h | h
  · rw [h]
    decide
  · exact path_l q h
theorem PathOk.len {q : Str} (h : PathOk q) : q.length ≤ 20 := path_l q h
theorem get_in {kvs : List (Key × V)} {k : Key} (h : k ∈ kvs.map (·.1)) : ∃ v, valV kvs k = some v ∧ (k, v) ∈ kvs := by
  induction kvs with
  | nil => cases h
  | cons a r ih =>
    by_cases e : a.1 = k
    · exact ⟨a.2, valV_pos e, by rw [← e]; exact List.mem_cons_self ..⟩
    · have h2 : k ∈ r.map (·.1) := by
        rcases List.mem_cons.mp (show k ∈ a.1 :: r.map (·.1) from h) with q | q
        · exact absurd q.symm e
        · exact q
      obtain ⟨v, h3, h4⟩ := ih h2
      exact ⟨v, by rw [valV_neg e]; exact h3, List.mem_cons_of_mem _ h4⟩
theorem get_some {kvs : List (Key × V)} {k : Key} {v : V} (h : valV kvs k = some v) : (k, v) ∈ kvs := by
  induction kvs with
  | nil => cases h
  | cons a r ih =>
    by_cases e : a.1 = k
    · rw [valV_pos e] at h
      cases h
      rw [← e]
      exact List.mem_cons_self ..
    · rw [valV_neg e] at h
      exact List.mem_cons_of_mem _ (ih h)
theorem kvs_keys {K : PySem.W.Frag} {H : Hp} {kvs : List (Key × V)} (h : ∀ kv ∈ kvs, KvOk K H kv) : ∃ ks : List Str, kvs.map (·.1) = ks.map Sum.inr ∧ ∀ p ∈ ks, PathOk p := by
  induction kvs with
  | nil => exact ⟨[], rfl, fun p hp => nomatch hp⟩
  | cons a r ih =>
    obtain ⟨p, h1, h2, _⟩ := h a (List.mem_cons_self ..)
    obtain ⟨ks, h3, h4⟩ := ih fun kv m => h kv (List.mem_cons_of_mem _ m)
    refine ⟨p :: ks, by rw [List.map_cons, List.map_cons, h1, h3], fun q hq => ?_⟩
    rcases List.mem_cons.mp hq with e | e
    · rw [e]
      exact h2
    · exact h4 q e
section
variable {P : Program} {w : World} {K : PySem.W.Frag} {mg : Str → Option Value} {base : Heap}
def spBlk (K : PySem.W.Frag) : Sp := fun vs H Q _ => ∃ (d : Addr) (kvs : List (Key × V)) (p : Str), vs = [.ref d, .str p] ∧ Files K H d kvs ∧ PathOk p ∧ ∀ r H', Same H H' → Q (.bl r) H'
def n_blk : List Str := ["_law_files_here", "_law_path_here", "_law_other"]
theorem sc_blk : FnScope n_blk ["_law_files_here", "_law_path_here"] (defScope s__law_blocked) := ⟨rfl, rfl, rfl, by decide +kernel, rfl, by decide +kernel, by decide +kernel⟩
theorem ok_blk (D : DefAt K mg "_law_blocked" s__law_blocked) (c_inside : Cal P w K mg base CX0 1 "_law_inside" spIns) : Cal P w K mg base CX0 2 "_law_blocked" (spBlk K) := by
  refine cal0 D sc_blk (fun _ _ _ _ _ _ us hl => match us, hl with | [_, _], _ => rfl) (fun vs H Q E h => ?_) (fun f cdv A outer s H vs Q E hr h => ?_)
  · obtain ⟨d, kvs, p, rfl, _⟩ := h
    rfl
  · obtain ⟨d, kvs, p, rfl, hF, hp, k⟩ := h
    refine ⟨_, (pss_cons (ps_lock (ps_for PassesOwn.never rfl (pi_keys (pv 0)) (pg_name (i := 2) sc_blk.nd rfl (Or.inl rfl))
        (pss_one (ps_if (PW.pt (pw_and (pt_cmpR op_ne (pv 2) (pv 1) (nomark _)) (pw_and1 (PW.pt (pw_or (pt_val (pe_c c_inside hr (by decide) (by rfl) (pa_cons (pv 2) (pa_cons (pv 1) pa_nil)))) (pw_or1 (pt_val (pe_c c_inside hr (by decide) (by rfl) (pa_cons (pv 1) (pa_cons (pv 2) pa_nil)))))))))) (pss_one (ps_ret pe_bl)) pss_nil))))
      (pss_one (ps_ret pe_bl))), ?_⟩
    refine ⟨d, _, hF.at_, trivial, fun od => ?_⟩
    have kU : ∀ r, Q (.bl r) (upd (upd H d (.frz od (.dK kvs))) d (.dK kvs)) := fun r => k r _ (same_unlock hF.at_ (.refl _))
    refine ⟨_, rfl, d, od, rfl, .inl ⟨kvs, upd_same, for_it (walk_keys (kvs := kvs)) (fun i σ H' => ∃ v : Option V, σ = [some (.ref d), some (.str p), v] ∧ H' = upd H d (.frz od (.dK kvs))) ⟨none, rfl, rfl⟩ ?_ ?_ ?_⟩⟩
    · rintro i σ H' _ ⟨v, rfl, rfl⟩
      exact upd_same
    · rintro i x σ H1 H2 hi ⟨v, rfl, rfl⟩ ⟨rfl, k1, v1, hkv, rfl⟩
      obtain ⟨q, e1, hq, _⟩ := hF.ok.2 _ (List.mem_of_getElem? hkv)
      have e1' : k1 = Sum.inr q := e1
      subst e1'
      have lq : q.length ≤ 1000 := Nat.le_trans (path_l q hq) (by decide)
      have lp : p.length ≤ 1000 := Nat.le_trans (path_l p hp) (by decide)
      refine ⟨_, rfl, _, rfl, rfl, _, rfl, ?_⟩
      refine ite2 (fun _ => ?_) (fun _ => iteF ⟨_, rfl, rfl⟩)
      refine ⟨_, rfl, _, rfl, q, p, rfl, lq, lp, _, rfl, ?_⟩
      refine ite2 (fun _ => iteT ⟨upd_same, kU _⟩) (fun _ => ?_)
      refine ⟨_, rfl, _, rfl, p, q, rfl, lp, lq, _, rfl, ?_⟩
      exact ite2 (fun _ => ⟨upd_same, kU _⟩) (fun _ => ⟨_, rfl, rfl⟩)
    · rintro σ H1 ⟨v, rfl, rfl⟩
      exact ⟨upd_same, kU _⟩
def spBlkL (K : PySem.W.Frag) : Sp := fun vs H Q _ => ∃ (l : Addr) (ws : List Str) (p : Str), vs = [.ref l, .str p] ∧ SqL K H l (ws.map V.str) ∧ (∀ x ∈ ws, PathOk x) ∧ PathOk p ∧ ∀ r, Q (.bl r) H
def n_blkL : List Str := ["_law_files_here", "_law_path_here", "_law_other"]
theorem sc_blkL : FnScope n_blkL ["_law_files_here", "_law_path_here"] (defScope s__law_blocked) := ⟨rfl, rfl, rfl, by decide +kernel, rfl, by decide +kernel, by decide +kernel⟩
theorem ok_blkL (D : DefAt K mg "_law_blocked" s__law_blocked) (c_inside : Cal P w K mg base CX0 1 "_law_inside" spIns) : Cal P w K mg base CX0 2 "_law_blocked" (spBlkL K) := by
  refine cal0 D sc_blkL (fun _ _ _ _ _ _ us hl => match us, hl with | [_, _], _ => rfl) (fun vs H Q E h => ?_) (fun f cdv A outer s H vs Q E hr h => ?_)
  · obtain ⟨d, kvs, p, rfl, _⟩ := h
    rfl
  · obtain ⟨l, ws, p, rfl, hS, hw, hp, k⟩ := h
    refine ⟨_, (pss_cons (ps_for PassesOwn.never rfl (pi_list (pv 0)) (pg_name (i := 2) sc_blkL.nd rfl (Or.inl rfl))
        (pss_one (ps_if (PW.pt (pw_and (pt_cmpR op_ne (pv 2) (pv 1) (nomark _)) (pw_and1 (PW.pt (pw_or (pt_val (pe_c c_inside hr (by decide) (by rfl) (pa_cons (pv 2) (pa_cons (pv 1) pa_nil)))) (pw_or1 (pt_val (pe_c c_inside hr (by decide) (by rfl) (pa_cons (pv 1) (pa_cons (pv 2) pa_nil)))))))))) (pss_one (ps_ret pe_bl)) pss_nil)))
      (pss_one (ps_ret pe_bl))), ?_⟩
    refine ⟨_, rfl, l, rfl, ⟨_, hS⟩, for_it (walk_list (xs := ws.map V.str)) (fun i σ H' => ∃ v : Option V, σ = [some (.ref l), some (.str p), v] ∧ H' = H) ⟨none, rfl, rfl⟩ ?_ ?_ ?_⟩
    · rintro i σ H' _ ⟨v, rfl, rfl⟩
      exact hS
    · rintro i x σ H1 H2 hi ⟨v, rfl, rfl⟩ ⟨rfl, hx⟩
      rw [List.getElem?_map] at hx
      obtain ⟨q, hq1, rfl⟩ := Option.map_eq_some_iff.mp hx
      have hq := hw q (List.mem_of_getElem? hq1)
      have lq : q.length ≤ 1000 := Nat.le_trans (path_l q hq) (by decide)
      have lp : p.length ≤ 1000 := Nat.le_trans (path_l p hp) (by decide)
      refine ⟨_, rfl, _, rfl, rfl, _, rfl, ?_⟩
      refine ite2 (fun _ => ?_) (fun _ => iteF ⟨_, rfl, rfl⟩)
      refine ⟨_, rfl, _, rfl, q, p, rfl, lq, lp, _, rfl, ?_⟩
      refine ite2 (fun _ => iteT (k _)) (fun _ => ?_)
      refine ⟨_, rfl, _, rfl, p, q, rfl, lp, lq, _, rfl, ?_⟩
      exact ite2 (fun _ => k _) (fun _ => ⟨_, rfl, rfl⟩)
    · rintro σ H1 ⟨v, rfl, rfl⟩
      exact k _
def spFold (K : PySem.W.Frag) : Sp := fun vs H Q _ => ∃ (d : Addr) (kvs : List (Key × V)) (p : Str), vs = [.ref d, .str p] ∧ Files K H d kvs ∧ PlaceOk p ∧ ∀ r H', Same H H' → Q (.bl r) H'
def n_fold : List Str := ["_law_files_here", "_law_place_here", "_law_path_here"]
theorem sc_fold : FnScope n_fold ["_law_files_here", "_law_place_here"] (defScope s__law_is_folder) := ⟨rfl, rfl, rfl, by decide +kernel, rfl, by decide +kernel, by decide +kernel⟩
theorem ok_fold (D : DefAt K mg "_law_is_folder" s__law_is_folder) (c_inside : Cal P w K mg base CX0 1 "_law_inside" spIns) : Cal P w K mg base CX0 2 "_law_is_folder" (spFold K) := by
  refine cal0 D sc_fold (fun _ _ _ _ _ _ us hl => match us, hl with | [_, _], _ => rfl) (fun vs H Q E h => ?_) (fun f cdv A outer s H vs Q E hr h => ?_)
  · obtain ⟨d, kvs, p, rfl, _⟩ := h
    rfl
  · obtain ⟨d, kvs, p, rfl, hF, hp, k⟩ := h
    refine ⟨_, (pss_cons (ps_lock (ps_for PassesOwn.never rfl (pi_keys (pv 0)) (pg_name (i := 2) sc_fold.nd rfl (Or.inl rfl))
        (pss_one (ps_if (pt_val (pe_c c_inside hr (by decide) (by rfl) (pa_cons (pv 2) (pa_cons (pv 1) pa_nil)))) (pss_one (ps_ret pe_bl)) pss_nil))))
      (pss_one (ps_ret (pe_cmpR op_eq (pv 1) pe_str (nomark _))))), ?_⟩
    refine ⟨d, _, hF.at_, trivial, fun od => ?_⟩
    have kU : ∀ r, Q (.bl r) (upd (upd H d (.frz od (.dK kvs))) d (.dK kvs)) := fun r => k r _ (same_unlock hF.at_ (.refl _))
    refine ⟨_, rfl, d, od, rfl, .inl ⟨kvs, upd_same, for_it (walk_keys (kvs := kvs)) (fun i σ H' => ∃ v : Option V, σ = [some (.ref d), some (.str p), v] ∧ H' = upd H d (.frz od (.dK kvs))) ⟨none, rfl, rfl⟩ ?_ ?_ ?_⟩⟩
    · rintro i σ H' _ ⟨v, rfl, rfl⟩
      exact upd_same
    · rintro i x σ H1 H2 hi ⟨v, rfl, rfl⟩ ⟨rfl, k1, v1, hkv, rfl⟩
      obtain ⟨q, e1, hq, _⟩ := hF.ok.2 _ (List.mem_of_getElem? hkv)
      have e1' : k1 = Sum.inr q := e1
      subst e1'
      have lq : q.length ≤ 1000 := Nat.le_trans (path_l q hq) (by decide)
      have lp : p.length ≤ 1000 := Nat.le_trans hp.len (by decide)
      refine ⟨_, rfl, _, rfl, q, p, rfl, lq, lp, _, rfl, ?_⟩
      exact ite2 (fun _ => ⟨upd_same, kU _⟩) (fun _ => ⟨_, rfl, rfl⟩)
    · rintro σ H1 ⟨v, rfl, rfl⟩
      exact ⟨upd_same, ⟨_, rfl, rfl, kU _⟩⟩
end
end K23
/-! ### files, names, found, spots -/
namespace K23
open PySem PySem.Spec PyProof.Rows L2
theorem tp_dK {K : PySem.W.Frag} {H : Hp} {D : Addr} {vs : List (Key × V)} {o : HO} (h : H D = some (.dK vs)) : Tp K H (upd H D o) := fun a xs q => by
  have key : ∀ u, (∃ o, u = HO.frz o (.tup xs)) ∨ u = HO.tup xs → H a = some u → upd H D o a = some u := fun u hu e => by
    have n : a ≠ D := fun z => by
      rw [z, h] at e
      have e' := Option.some.inj e
      rcases hu with ⟨o, hu⟩ | hu
      · rw [hu] at e'
        cases e'
      · rw [hu] at e'
        cases e'
    rw [upd_ne n]
    exact e
  rcases q with (q | ⟨o, q⟩) | q
  · exact .inl (.inl (key _ (.inr rfl) q))
  · exact .inl (.inr ⟨o, key _ (.inl ⟨o, rfl⟩) q⟩)
  · exact .inr q
theorem mem_put {kvs : List (Key × V)} {k : Key} {v : V} {kv : Key × V} (h : kv ∈ putK kvs k v) : kv = (k, v) ∨ kv ∈ kvs := by
  unfold putK at h
  split at h
  · obtain ⟨a, ha, e⟩ := List.mem_map.mp h
    split at e
    · rename_i e2
      left
      rw [← e, e2]
    · right
      rw [← e]
      exact ha
  · rcases List.mem_append.mp h with q | q
    · exact .inr q
    · exact .inl (List.mem_singleton.mp q)
theorem len_put {kvs : List (Key × V)} {k : Key} {v : V} : (putK kvs k v).length ≤ kvs.length + 1 := by
  unfold putK
  split
  · rw [List.length_map]
    exact Nat.le_succ _
  · rw [List.length_append]
    exact Nat.le_refl _
section
variable {P : Program} {w : World} {K : PySem.W.Frag} {mg : Str → Option Value} {base : Heap}
def spFiles (K : PySem.W.Frag) : Sp := fun vs H Q _ => ∃ (b dl : Addr), vs = [.ref b, .int 5] ∧ BoxAt H b dl ∧ ∀ d kvs H', H d = none → Files K H' d kvs → Bx b dl H H' → Q (.ref d) H'
def n_files : List Str := ["_law_box", "_law_most", "_law_files_here", "_law_turn", "_law_path_here", "_law_lines_here"]
theorem sc_files : FnScope n_files ["_law_box", "_law_most"] (defScope s__law_files) := ⟨rfl, rfl, rfl, by decide +kernel, rfl, by decide +kernel, by decide +kernel⟩
theorem ok_files (D : DefAt K mg "_law_files" s__law_files) (T : Txt K mg) (c_draw : Cal P w K mg base CX0 1 "_law_draw" spDraw) (c_path : Cal P w K mg base CX0 2 "_law_path" spPth) (c_lines : Cal P w K mg base CX0 3 "_law_lines" (spLns K))
    (c_blocked : Cal P w K mg base CX0 2 "_law_blocked" (spBlk K)) : Cal P w K mg base CX0 4 "_law_files" (spFiles K) := by
  refine cal0 D sc_files (fun _ _ _ _ _ _ us hl => match us, hl with | [_, _], _ => rfl) (fun vs H Q E h => ?_) (fun f cdv A outer s H vs Q E hr h => ?_)
  · obtain ⟨b, dl, rfl, _⟩ := h
    rfl
  · obtain ⟨b, dl, rfl, hB, k⟩ := h
    refine ⟨_, (pss_cons (ps_set (i := 2) sc_files.nd rfl (Or.inl rfl) pe_dnewK)
      (pss_cons (ps_for PassesOwn.never rfl (pi_range1 (by rfl) T.range (pa_cons (pe_c c_draw hr (by decide) (by rfl) (pa_cons (pv 0) (pa_cons (pe_op op_add (pv 1) pe_int) pa_nil))) pa_nil)) (pg_name (i := 3) sc_files.nd rfl (Or.inl rfl))
        (C8.pss_cut (ps_set (i := 4) sc_files.nd rfl (Or.inl rfl) (pe_c c_path hr (by decide) (by rfl) (pa_cons (pv 0) pa_nil)))
      (C8.pss_cut (ps_set (i := 5) sc_files.nd rfl (Or.inl rfl) (pe_c c_lines hr (by decide) (by rfl) (pa_cons (pv 0) (pa_cons pe_int pa_nil))))
      (pss_one (ps_if (pt_not (pt_val (pe_c c_blocked hr (by decide) (by rfl) (pa_cons (pv 2) (pa_cons (pv 4) pa_nil))))) (pss_one (ps_dput (hu_of hr) (pv 2) (pv 4) (pv 5) rfl)) pss_nil)))))
      (pss_one (ps_ret (pv 2))))), ?_⟩
    refine fun d hd => ?_
    have x0 : Bx b dl H (upd H d (.dK [])) := Bx.of hB (same_new (.refl H) hd)
    refine ⟨_, rfl, _, rfl, _, _, rfl, rfl, b, dl, _, rfl, x0.b1, by decide, fun r H1 r0 r6 x01 => ?_⟩
    have hdb : d ≠ b := (hB.ne hd).1
    have h1 : H1 d = some (.dK []) := x01.get hdb upd_same
    refine ⟨r, rfl, by omega, by omega, for_range (lo := 0) (n := r.toNat) (fun i σ H' => ∃ (v1 v2 v3 : Option V) (kvs : List (Key × V)), σ = [some (.ref b), some (.int 5), some (.ref d), v1, v2, v3] ∧ Bx b dl H H' ∧ Files K H' d kvs ∧ kvs.length ≤ i) ?_ ?_ ?_⟩
    · exact ⟨none, none, none, [], rfl, x0.trans x01, ⟨h1, Nat.zero_le _, fun kv m => nomatch m⟩, Nat.le_refl _⟩
    · rintro i σ H2 hi ⟨v1, v2, v3, kvs, rfl, x2, hF, hl⟩
      -- path, lines
      refine ⟨fun σ' H' => ∃ p : Str, PathOk p ∧ σ' = [some (.ref b), some (.int 5), some (.ref d), some (.int (0 + (i : Nat))), some (.str p), v3] ∧ Bx b dl H2 H', ⟨_, rfl, b, dl, rfl, x2.b1, fun p H3 hp x3 => ⟨p, hp, rfl, x3⟩⟩, ?_⟩
      rintro σ3 H3 ⟨p, hp, rfl, x3⟩
      refine ⟨fun σ' H' => ∃ q : Addr, LsAt K H' (.ref q) 4 ∧ σ' = [some (.ref b), some (.int 5), some (.ref d), some (.int (0 + (i : Nat))), some (.str p), some (.ref q)] ∧ Bx b dl H2 H', ⟨_, rfl, b, dl, 4, rfl, by decide, x3.b1, fun q H4 hq x4 => ⟨q, hq, rfl, x3.trans x4⟩⟩, ?_⟩
      rintro σ4 H4 ⟨q, hq, rfl, x4⟩
      have hF4 := hF.bx x4
      refine ⟨_, rfl, _, rfl, d, kvs, p, rfl, hF4, hp, fun r2 H5 s5 => ⟨r2, rfl, ?_⟩⟩
      have hF5 := hF4.same s5
      have x5 : Bx b dl H H5 := (x2.trans x4).same s5
      refine ite2 (fun _ => ?_) (fun _ => ⟨_, _, _, kvs, rfl, x5, hF5, by omega⟩)
      refine ⟨_, rfl, _, rfl, _, rfl, d, _, rfl, DPut.k (k := Sum.inr p) hF5.at_ (sl_lt (by omega)), ?_⟩
      have hr6 : kvs.length < 6 := by omega
      refine ⟨_, _, _, _, rfl, x5.mut hd, ⟨upd_same, ?_, fun kv m => ?_⟩, ?_⟩
      · exact Nat.le_trans len_put (by omega)
      · have t := tp_dK (K := K) (o := .dK (putK kvs (Sum.inr p) (.ref q))) hF5.at_
        rcases mem_put m with e | m
        · rw [e]
          exact ⟨p, rfl, hp, (hq.mono (.same s5)).mono t⟩
        · obtain ⟨p', e1, e2, e3⟩ := hF5.ok.2 kv m
          exact ⟨p', e1, e2, e3.mono t⟩
      · exact Nat.le_trans len_put (by omega)
    · rintro σ H2 ⟨v1, v2, v3, kvs, rfl, x2, hF, hl⟩
      exact ⟨_, rfl, k d kvs _ hd hF x2⟩
/-! names -/
def RestOk (r : Str) : Prop := r.length ≤ 20 ∧ 1 ≤ (partsS r).length ∧ (partsS r).length ≤ 5 ∧ ∀ x ∈ partsS r, x.length ≤ 20 ∧ PySem.PyData.strOk x = true
instance (r : Str) : Decidable (RestOk r) := by unfold RestOk; infer_instance
theorem rest_0 : ∀ p ∈ allPaths, RestOk p := by decide +kernel
theorem rest_n : ∀ p ∈ allPaths, ∀ n ∈ List.range 22, RestOk (cutS p (some ((n : Nat) : Int)) none) := by decide +kernel
theorem strOk_app {x y : Str} (h1 : PySem.PyData.strOk x = true) (h2 : PySem.PyData.strOk y = true) : PySem.PyData.strOk (x ++ y) = true := by
  unfold PySem.PyData.strOk at *
  show (x.cps ++ y.cps).all (· < 0x110000) = true
  rw [Array.all_append, h1, h2] <;> rfl
/-- the names of a folder: a new tuple of texts -/
def NmsAt (K : PySem.W.Frag) (H : Hp) (v : V) : Prop := ∃ ws : List Str, TD K H v (ldD ws) ∧ ws.length ≤ 20 ∧ ∀ x ∈ ws, PySem.PyData.strOk x = true
def spNms (K : PySem.W.Frag) : Sp := fun vs H Q _ => ∃ (d : Addr) (kvs : List (Key × V)) (p : Str), vs = [.ref d, .str p] ∧ Files K H d kvs ∧ PlaceOk p ∧ ∀ q H', Same H H' → NmsAt K H' (.ref q) → Q (.ref q) H'
def n_nms : List Str := ["_law_files_here", "_law_place_here", "_law_names_here", "_law_path_here", "_law_rest", "_law_parts", "_law_name"]
theorem sc_nms : FnScope n_nms ["_law_files_here", "_law_place_here"] (defScope s__law_names) := ⟨rfl, rfl, rfl, by decide +kernel, rfl, by decide +kernel, by decide +kernel⟩
theorem ok_nms (D : DefAt K mg "_law_names" s__law_names) (T : Txt K mg) (c_inside : Cal P w K mg base CX0 1 "_law_inside" spIns) : Cal P w K mg base CX0 2 "_law_names" (spNms K) := by
  refine cal0 D sc_nms (fun _ _ _ _ _ _ us hl => match us, hl with | [_, _], _ => rfl) (fun vs H Q E h => ?_) (fun f cdv A outer s H vs Q E hr h => ?_)
  · obtain ⟨d, kvs, p, rfl, _⟩ := h
    rfl
  · obtain ⟨d, kvs, p, rfl, hF, hp, k⟩ := h
    refine ⟨_, (pss_cons (ps_set (i := 2) sc_nms.nd rfl (Or.inl rfl) (pe_lst pa_nil))
      (pss_cons (ps_lock (ps_for PassesOwn.never rfl (pi_keys (pv 0)) (pg_name (i := 3) sc_nms.nd rfl (Or.inl rfl))
        (pss_one (ps_if (pt_val (pe_c c_inside hr (by decide) (by rfl) (pa_cons (pv 3) (pa_cons (pv 1) pa_nil)))) (C8.pss_cut (ps_set (i := 4) sc_nms.nd rfl (Or.inl rfl) (pv 3))
      (C8.pss_cut (ps_if (pt_cmpR op_ne (pv 1) pe_str (nomark _)) (pss_one (ps_set (i := 4) sc_nms.nd rfl (Or.inl rfl) (pe_slice sl_str (pv 3) (po_some (pe_op op_add (pe_callB call_len_str (by rfl) T.len PySem.boot_len (pa_cons (pv 1) pa_nil)) pe_int)) po_none))) pss_nil)
      (C8.pss_cut (ps_set (i := 5) sc_nms.nd rfl (Or.inl rfl) (pe_split (pv 4) pe_str))
      (C8.pss_cut (ps_set (i := 6) sc_nms.nd rfl (Or.inl rfl) (pe_ix ix_list (pv 5) pe_int (fun _ _ => rfl)))
      (C8.pss_cut (ps_if (pt_cmpR op_gt (pe_callB call_len_seq (by rfl) T.len PySem.boot_len (pa_cons (pv 5) pa_nil)) pe_int (nomark _)) (pss_one (ps_set (i := 6) sc_nms.nd rfl (Or.inl rfl) (pe_op op_add_str (pv 6) pe_str))) pss_nil)
      (pss_one (ps_if (pt_cmpR op_notIn_seq (pv 6) (pv 2) (by rfl)) (pss_one (ps_expr (pe_bm PySem.F.plainAttrs_list PySem.F.slot_list_append PySem.F.type_list_append mt_append (pv 2) (pa_cons (pv 6) pa_nil)))) pss_nil))))))) pss_nil))))
      (pss_one (ps_ret (pe_callTy call_tuple_of (by rfl) T.tuple (by decide +kernel) (pa_cons (pe_callB cr_sortedS (by rfl) T.sorted (by decide +kernel) (pa_cons (pv 2) pa_nil)) pa_nil)))))), ?_⟩
    refine ⟨le0, fun l hl => ?_⟩
    have s0 : Same H (upd H l (.lst [])) := same_new (.refl H) hl
    refine ⟨d, _, s0 _ _ hF.at_, trivial, fun od => ?_⟩
    have lp : p.length ≤ 1000 := Nat.le_trans hp.len (by decide)
    have lp20 := hp.len
    have hdl : l ≠ d := (ne_of_none hF.at_ hl).symm
    refine ⟨_, rfl, d, od, rfl, .inl ⟨kvs, upd_same, for_it (walk_keys (kvs := kvs)) (fun i σ H' => ∃ (v1 v2 v3 v4 : Option V) (ws : List Str), σ = [some (.ref d), some (.str p), some (.ref l), v1, v2, v3, v4] ∧ Same (upd H d (.frz od (.dK kvs))) H' ∧ H' l = some (.lst (ws.map V.str)) ∧ ws.length ≤ i ∧ ∀ x ∈ ws, PySem.PyData.strOk x = true) ?_ ?_ ?_ ?_⟩⟩
    · refine ⟨none, none, none, none, [], rfl, fun b o e => ?_, ?_, Nat.le_refl _, fun x hx => nomatch hx⟩
      · by_cases hb : b = d
        · rw [hb] at e ⊢
          rw [upd_same] at e ⊢
          exact e
        · rw [upd_ne hb] at e ⊢
          exact s0 _ _ e
      · rw [upd_ne hdl]
        exact upd_same
    · rintro i σ H' _ ⟨v1, v2, v3, v4, ws, rfl, s1, _⟩
      exact s1 _ _ upd_same
    · rintro i x σ H1 H2 hi ⟨v1, v2, v3, v4, ws, rfl, s2, h2, hlw, hw⟩ ⟨rfl, k1, w1, hkv, rfl⟩
      have hln : upd H d (.frz od (.dK kvs)) l = none := by rw [upd_ne hdl]; exact hl
      obtain ⟨q, e1, hq, _⟩ := hF.ok.2 _ (List.mem_of_getElem? hkv)
      have e1' : k1 = Sum.inr q := e1
      subst e1'
      have lq : q.length ≤ 1000 := Nat.le_trans (path_l q hq) (by decide)
      refine ⟨_, rfl, _, rfl, q, p, rfl, lq, lp, _, rfl, ?_⟩
      have hi20 : i < 20 := by
        have := hF.ok.1
        omega
      refine ite2 (fun _ => ?_) (fun _ => ⟨_, _, _, _, ws, rfl, s2, h2, by omega, hw⟩)
      refine ⟨fun σ' H' => σ' = [some (.ref d), some (.str p), some (.ref l), some (.str q), some (.str q), v3, v4] ∧ H' = H2, ⟨_, rfl, rfl, rfl⟩, ?_⟩
      rintro σ3 H3 ⟨rfl, rfl⟩
      refine ⟨fun σ' H' => ∃ r : Str, RestOk r ∧ σ' = [some (.ref d), some (.str p), some (.ref l), some (.str q), some (.str r), v3, v4] ∧ H' = H3, ?_, ?_⟩
      · refine rd_if ⟨_, rfl, rfl, _, rfl, ?_⟩
        refine ite2 (fun _ => ?_) (fun _ => ⟨q, rest_0 q hq, rfl, rfl⟩)
        refine ⟨_, rfl, _, rfl, p, rfl, sl_le (by omega), _, _, rfl, rfl, _, rfl, q, rfl, sl_le (by omega), ?_⟩
        have e : ((p.length : Int) + 1) = ((p.length + 1 : Nat) : Int) := by omega
        refine ⟨_, ?_, rfl, rfl⟩
        show RestOk (cutS q (some ((p.length : Int) + 1)) none)
        rw [e]
        exact rest_n q hq _ (List.mem_range.mpr (by omega))
      rintro σ4 H4 ⟨r, ⟨hr1, hr2, hr3, hr4⟩, rfl, rfl⟩
      refine ⟨fun σ' H' => ∃ pl : Addr, σ' = [some (.ref d), some (.str p), some (.ref l), some (.str q), some (.str r), some (.ref pl), v4] ∧ Same H4 H' ∧ H' pl = some (.lst ((partsS r).map V.str)), ⟨_, rfl, ⟨_, rfl⟩, _, _, rfl, rfl, rfl, sl_le (by omega), fun pl hpl => ⟨pl, rfl, same_new (.refl H4) hpl, upd_same⟩⟩, ?_⟩
      rintro σ5 H5 ⟨pl, rfl, s5, h5⟩
      obtain ⟨z, hz, ez⟩ := menuS (ws := partsS r) (r := 0) (by decide) (by omega)
      refine ⟨fun σ' H' => σ' = [some (.ref d), some (.str p), some (.ref l), some (.str q), some (.str r), some (.ref pl), some (.str z)] ∧ H' = H5, ⟨_, rfl, pl, _, 0, _, rfl, rfl, SqL.of h5, ez, rfl, rfl⟩, ?_⟩
      rintro σ6 H6 ⟨rfl, rfl⟩
      refine ⟨fun σ' H' => ∃ y : Str, PySem.PyData.strOk y = true ∧ σ' = [some (.ref d), some (.str p), some (.ref l), some (.str q), some (.str r), some (.ref pl), some (.str y)] ∧ H' = H6, ?_, ?_⟩
      · refine rd_if ⟨_, rfl, pl, _, rfl, .inl (SqL.of h5), _, _, rfl, rfl, _, rfl, ?_⟩
        refine ite2 (fun _ => ?_) (fun _ => ⟨z, (hr4 z hz).2, rfl, rfl⟩)
        exact ⟨_, rfl, _, _, rfl, rfl, sl_le (by show z.length + 1 ≤ 100000; have := (hr4 z hz).1; omega), _, strOk_app (hr4 z hz).2 (by decide +kernel), rfl, rfl⟩
      rintro σ7 H7 ⟨y, hy, rfl, rfl⟩
      have h7 := s5 _ _ h2
      refine ⟨_, rfl, _, rfl, l, _, rfl, .inl (SqL.of h7), rfl, ?_, _, rfl, ?_⟩
      · exact List.all_eq_true.mpr fun v hv => by
          obtain ⟨t, _, rfl⟩ := List.mem_map.mp hv
          rfl
      refine ite2 (fun _ => ?_) (fun _ => ⟨_, _, _, _, ws, rfl, s2.trans s5, h7, by omega, hw⟩)
      refine ⟨_, rfl, .inl ⟨rfl, _, SqL.of h7⟩, _, rfl, l, _, _, rfl, rfl, h7, sl_lt (by rw [List.length_map]; omega), ?_⟩
      refine ⟨_, _, _, _, ws ++ [y], rfl, same_mut (s2.trans s5) hln, by rw [List.map_append]; exact upd_same, by rw [List.length_append]; show ws.length + 1 ≤ i + 1; omega, fun x hx => ?_⟩
      rcases List.mem_append.mp hx with m | m
      · exact hw x m
      · rw [List.mem_singleton.mp m]
        exact hy
    · rintro σ H1 ⟨v1, v2, v3, v4, ws, rfl, s1, h1, hlw, hw⟩
      refine ⟨s1 _ _ upd_same, ?_⟩
      have s2 : Same H (upd H1 d (.dK kvs)) := same_unlock hF.at_ s1
      have h2 : upd H1 d (.dK kvs) l = some (.lst (ws.map V.str)) := by rw [upd_ne hdl]; exact h1
      have hk := hF.ok.1
      refine ⟨_, rfl, l, ws, rfl, SqL.of h2, by omega, fun ys p1 hperm _ hp1 => ?_⟩
      refine ⟨p1, _, rfl, .inl ⟨SqL.of upd_same, fun q hq => ?_⟩⟩
      refine k q _ (same_new (same_new s2 hp1) hq) ⟨ys, TD.new_tup hq (TDs.strs ys), by rw [hperm.length_eq]; omega, fun x hx => hw x (hperm.mem_iff.mp hx)⟩
end
end K23
/-! ### found, spots -/
namespace K23
open PySem PySem.Spec PyProof.Rows L2
section
variable {K : PySem.W.Frag} {H : Hp} {Q : VK}
theorem cutV_whole {xs : List V} {lo hi : Option Int} (e : HT.sIx xs.length 0 lo = 0 ∧ HT.sIx xs.length xs.length hi = xs.length) : cutV xs lo hi = xs := by
  unfold cutV
  rw [e.1, e.2, List.drop_zero, Nat.sub_zero, List.take_length]
theorem sl_any {a : Addr} {xs : List V} {lo hi : Option Int} (h : SqT K H a xs) (q : ∀ p H', Same H H' → SqT K H' p (cutV xs lo hi) → Q (.ref p) H') : rSlA K (.ref a) lo hi H Q :=
  ⟨a, xs, rfl, h, fun e => q a H (.refl H) (by rw [cutV_whole e]; exact h), fun _ p hp => q p _ (same_new (.refl H) hp) (SqT.of upd_same)⟩
theorem cat_any {a b : Addr} {xs ys : List V} (ha : SqT K H a xs) (hb : SqT K H b ys) (hl : xs.length + ys.length ≤ 1000) (q : ∀ p H', Same H H' → SqT K H' p (xs ++ ys) → Q (.ref p) H') : rCatA K (.ref a) (.ref b) H Q :=
  ⟨a, b, xs, ys, rfl, rfl, ha, hb, sl_le (by omega), fun e => q b H (.refl H) (by rw [e, List.nil_append]; exact hb), fun _ e => q a H (.refl H) (by rw [e, List.append_nil]; exact ha), fun _ _ p hp => q p _ (same_new (.refl H) hp) (SqT.of upd_same)⟩
/-- the lines of a file -/
theorem files_get {d : Addr} {kvs : List (Key × V)} {p : Str} (h : Files K H d kvs) (hp : Sum.inr p ∈ kvs.map (·.1)) : ∃ (a : Addr) (ls : List Str), valV kvs (Sum.inr p) = some (.ref a) ∧ SqT K H a (ls.map V.str) ∧ ls.length ≤ 4 ∧ ∀ l ∈ ls, LineOk l := by
  obtain ⟨v, h1, h2⟩ := get_in hp
  obtain ⟨p', _, _, ls, h3, h4, h5⟩ := h.ok.2 _ h2
  obtain ⟨a, xs, e, h6, h7⟩ := h3.tup_inv
  have e' : v = .ref a := e
  subst e'
  rw [h7.strs_inv] at h6
  exact ⟨a, ls, h1, h6, h4, h5⟩
theorem ls_td {a : Addr} {ls : List Str} (h : SqT K H a (ls.map V.str)) : TD K H (.ref a) (ldD ls) := .tup h (TDs.strs ls)
end
/-- the list at l grows by data: all else that stood in H1 stands -/
def LMade (K : PySem.W.Frag) (H1 : Hp) (l : Addr) (n : Nat) (H : Hp) : Prop := Fr l H1 H ∧ ∃ vs ds, H l = some (.lst vs) ∧ TDs K H vs ds ∧ ds.length ≤ n ∧ ∀ e ∈ ds, Sh 1 e
theorem LMade.push {K : PySem.W.Frag} {H1 H2 H3 : Hp} {l : Addr} {n : Nat} {v : V} {d : PyData} (h : LMade K H1 l n H2) (s : Same H2 H3) (t : TD K H3 v d) (hd : Sh 1 d) : ∃ vs, H3 l = some (.lst vs) ∧ vs.length ≤ n ∧ LMade K H1 l (n + 1) (upd H3 l (.lst (vs ++ [v]))) := by
  obtain ⟨f, vs, ds, h1, h2, h3, h4⟩ := h
  have h5 := s _ _ h1
  refine ⟨vs, h5, by rw [h2.length]; exact h3, (f.trans (.of s)).at, vs ++ [v], ds ++ [d], upd_same, ((h2.mono (.same s)).push t).mono (tp_lst h5), by rw [List.length_append]; show ds.length + 1 ≤ n + 1; omega, fun e he => ?_⟩
  rcases List.mem_append.mp he with q | q
  · exact h4 e q
  · rw [List.mem_singleton.mp q]
    exact hd
theorem LMade.le {K : PySem.W.Frag} {H1 H2 : Hp} {l : Addr} {n m : Nat} (h : LMade K H1 l n H2) (e : n ≤ m) : LMade K H1 l m H2 := by
  obtain ⟨f, vs, ds, h1, h2, h3, h4⟩ := h
  exact ⟨f, vs, ds, h1, h2, Nat.le_trans h3 e, h4⟩
theorem path_sh {p : Str} (h : PathOk p) : Sh 0 (.str p) := .str (path_T p h).2
/-- k of a range, where p holds -/
theorem filt_more (p : Nat → Bool) (i : Nat) : (List.range (i + 1)).filter p = (List.range i).filter p ++ (if p i = true then [i] else []) := by
  rw [List.range_succ, List.filter_append]
  by_cases h : p i = true
  · rw [if_pos h, List.filter_cons, if_pos h, List.filter_nil]
  · rw [if_neg h, List.filter_cons, if_neg h, List.filter_nil]
theorem filt_len (p : Nat → Bool) (i : Nat) : ((List.range i).filter p).length ≤ i := by
  have h := List.length_filter_le p (List.range i)
  rw [List.length_range] at h
  exact h
section
variable {P : Program} {w : World} {K : PySem.W.Frag} {mg : Str → Option Value} {base : Heap}
/-- v is a tuple of small data -/
def SmAt (K : PySem.W.Frag) (H : Hp) (v : V) : Prop := ∃ ds, TD K H v (.tuple ds) ∧ ∀ e ∈ ds, Sh 1 e
def spFnd (K : PySem.W.Frag) : Sp := fun vs H Q _ => ∃ (d : Addr) (kvs : List (Key × V)) (p x : Str), vs = [.ref d, .str p, .str x] ∧ Files K H d kvs ∧ PlaceOk p ∧ ∀ q H', Same H H' → SmAt K H' (.ref q) → Q (.ref q) H'
def n_fnd : List Str := ["_law_files_here", "_law_place_here", "_law_word", "_law_rows_here", "_law_path_here", "_law_k"]
theorem sc_fnd : FnScope n_fnd ["_law_files_here", "_law_place_here", "_law_word"] (defScope s__law_found) := ⟨rfl, rfl, rfl, by decide +kernel, rfl, by decide +kernel, by decide +kernel⟩
theorem ok_fnd (D : DefAt K mg "_law_found" s__law_found) (T : Txt K mg) (c_inside : Cal P w K mg base CX0 1 "_law_inside" spIns) : Cal P w K mg base CX0 2 "_law_found" (spFnd K) := by
  refine cal0 D sc_fnd (fun _ _ _ _ _ _ us hl => match us, hl with | [_, _, _], _ => rfl) (fun vs H Q E h => ?_) (fun f cdv A outer s H vs Q E hr h => ?_)
  · obtain ⟨d, kvs, p, x, rfl, _⟩ := h
    rfl
  · obtain ⟨d, kvs, p, x, rfl, hF, hp, k⟩ := h
    refine ⟨_, (pss_cons (ps_set (i := 3) sc_fnd.nd rfl (Or.inl rfl) (pe_lst pa_nil))
      (pss_cons (ps_for PassesOwn.never rfl (pi_list (pe_callB (call_sortedD rfl) (by rfl) T.sorted (by decide +kernel) (pa_cons (pv 0) pa_nil))) (pg_name (i := 4) sc_fnd.nd rfl (Or.inl rfl))
        (pss_one (ps_if (PW.pt (pw_or (pt_cmpR op_eq (pv 4) (pv 1) (nomark _)) (pw_or1 (pt_val (pe_c c_inside hr (by decide) (by rfl) (pa_cons (pv 4) (pa_cons (pv 1) pa_nil))))))) (pss_one (ps_for PassesOwn.never rfl (pi_range1 (by rfl) T.range (pa_cons (pe_callB call_len_seq (by rfl) T.len PySem.boot_len (pa_cons (pe_dget (hu_of hr) (pv 0) (pv 4) (fun _ _ => rfl)) pa_nil)) pa_nil)) (pg_name (i := 5) sc_fnd.nd rfl (Or.inl rfl))
        (pss_one (ps_if (pt_cmpR op_in_str (pv 2) (pe_ix ix_tup (pe_dget (hu_of hr) (pv 0) (pv 4) (fun _ _ => rfl)) (pv 5) (fun _ _ => rfl)) (by rfl)) (pss_one (ps_expr (pe_bm PySem.F.plainAttrs_list PySem.F.slot_list_append PySem.F.type_list_append mt_append (pv 3) (pa_cons (pe_tup (pa_cons (pv 4) (pa_cons (pv 5) pa_nil))) pa_nil)))) pss_nil)))) pss_nil)))
      (pss_one (ps_ret (pe_callTy call_tuple_of (by rfl) T.tuple (by decide +kernel) (pa_cons (pv 3) pa_nil)))))), ?_⟩
    refine ⟨le0, fun l hl => ?_⟩
    have s0 : Same H (upd H l (.lst [])) := same_new (.refl H) hl
    have hF0 := hF.same s0
    obtain ⟨ks, hks, hkp⟩ := kvs_keys hF.ok.2
    have hk := hF.ok.1
    have hkl : ks.length = kvs.length := by
      have := congrArg List.length hks
      rw [List.length_map, List.length_map] at this
      exact this.symm
    refine ⟨_, rfl, d, kvs, ks, rfl, .inl hF0.at_, hks, by omega, fun ys s1 hperm _ hs1 => ⟨s1, rfl, ⟨_, SqL.of upd_same⟩, ?_⟩⟩
    generalize hH1 : upd (upd H l (.lst [])) s1 (.lst (ys.map V.str)) = H1
    have hs1l : s1 ≠ l := (upd_back hs1).2
    have h1s : H1 s1 = some (.lst (ys.map V.str)) := by rw [← hH1]; exact upd_same
    have h1l : H1 l = some (.lst []) := by rw [← hH1, upd_ne hs1l.symm]; exact upd_same
    have sH1 : Same H H1 := by rw [← hH1]; exact same_new s0 hs1
    have hF1 := hF.same sH1
    have hdl : d ≠ l := ne_of hF1.at_ h1l (by intro z; cases z)
    have hys : ∀ q ∈ ys, PathOk q ∧ Sum.inr q ∈ kvs.map (·.1) := fun q hq => ⟨hkp q (hperm.mem_iff.mp hq), by rw [hks]; exact List.mem_map.mpr ⟨q, hperm.mem_iff.mp hq, rfl⟩⟩
    have hyl : ys.length ≤ 20 := by rw [hperm.length_eq]; omega
    have frF : ∀ {H'}, Fr l H1 H' → Files K H' d kvs := fun f => ⟨f _ _ hdl hF1.at_, hF1.ok.mono (.fr f h1l)⟩
    refine for_it (walk_list (xs := ys.map V.str)) (fun i σ H' => ∃ v4 v5 : Option V, σ = [some (.ref d), some (.str p), some (.str x), some (.ref l), v4, v5] ∧ LMade K H1 l (4 * i) H') ?_ ?_ ?_ ?_
    · exact ⟨none, none, rfl, .refl l H1, [], [], h1l, .nil, Nat.le_refl _, fun e he => nomatch he⟩
    · rintro i σ H' _ ⟨v4, v5, rfl, hM⟩
      exact SqL.of (hM.1 _ _ hs1l h1s)
    · rintro i y σ H2 H3 hi ⟨v4, v5, rfl, hM⟩ ⟨rfl, hy⟩
      rw [List.getElem?_map] at hy
      obtain ⟨q, hq1, rfl⟩ := Option.map_eq_some_iff.mp hy
      rw [List.length_map] at hi
      obtain ⟨hq, hqk⟩ := hys q (List.mem_of_getElem? hq1)
      have lq : q.length ≤ 1000 := Nat.le_trans (path_l q hq) (by decide)
      have lp : p.length ≤ 1000 := Nat.le_trans hp.len (by decide)
      refine rd_if (rd_or (b := decide (V.str q = V.str p)) (c := insB q p) (fun Q' q' => ⟨_, rfl, _, rfl, rfl, _, rfl, q'⟩) (fun Q' q' => ⟨_, rfl, _, rfl, q, p, rfl, lq, lp, _, rfl, q'⟩) ?_)
      refine ite2 (fun _ => ?_) (fun _ => ⟨_, _, rfl, hM.le (by omega)⟩)
      obtain ⟨a, ls, g1, g2, g3, g4⟩ := files_get hF1 hqk
      have tpF : ∀ {H'}, Fr l H1 H' → SqT K H' a (ls.map V.str) := fun f => Tp.fr f h1l _ _ g2
      refine ⟨_, rfl, _, rfl, d, _, rfl, .inl ⟨kvs, Sum.inr q, .inl (frF hM.1).at_, rfl, g1.symm⟩, a, _, rfl, .inr (tpF hM.1), (((ls.map V.str).length : Nat) : Int), rfl, by rw [List.length_map]; omega, by rw [List.length_map]; omega, for_range (lo := 0) (n := (((ls.map V.str).length : Nat) : Int).toNat) (fun j σ H' => ∃ v5 : Option V, σ = [some (.ref d), some (.str p), some (.str x), some (.ref l), some (.str q), v5] ∧ LMade K H1 l (4 * i + j) H') ⟨_, rfl, hM⟩ ?_ ?_⟩
      · rintro j σ H4 hj ⟨v5, rfl, hM4⟩
        have hj2 : j < ls.length := by
          rw [List.length_map] at hj
          omega
        have hF4 := frF hM4.1
        refine ⟨_, rfl, _, rfl, _, rfl, d, _, rfl, .inl ⟨kvs, Sum.inr q, .inl hF4.at_, rfl, g1.symm⟩, _, rfl, a, _, _, _, rfl, rfl, tpF hM4.1, at_of (j := j) (by omega) (by rw [List.getElem?_map, List.getElem?_eq_getElem hj2] <;> rfl), _, _, rfl, rfl, _, rfl, ?_⟩
        refine ite2 (fun _ => ?_) (fun _ => ⟨_, rfl, hM4.le (by omega)⟩)
        obtain ⟨f4, vs4, ds4, l4, t4, n4, e4⟩ := id hM4
        refine ⟨_, rfl, .inl ⟨rfl, _, SqL.of l4⟩, _, rfl, _, rfl, le2, fun p1 hp1 => ?_⟩
        have s4 := same_new (o := .tup [.str q, .int (0 + (j : Nat))]) (.refl H4) hp1
        obtain ⟨vs5, l5, n5, hM5⟩ := hM4.push s4 (TD.new_tup hp1 (.cons (.str q) (.cons (.int (0 + (j : Nat))) .nil))) (Sh.tuple (sh_cons (path_sh hq) (sh_cons (.int _) sh_nil)))
        exact ⟨l, vs5, _, rfl, rfl, l5, sl_lt (by omega), _, rfl, hM5⟩
      · rintro σ H4 ⟨v5, rfl, hM4⟩
        exact ⟨_, _, rfl, hM4.le (by rw [List.length_map]; omega)⟩
    · rintro σ H2 ⟨v4, v5, rfl, f2, vs, ds, h2, t2, l2, d2⟩
      refine ⟨_, rfl, l, _, rfl, .inl ⟨SqL.of h2, fun q hq => ?_⟩⟩
      refine k q _ (same_new (fun b o e => f2 b o (ne_of_none e hl) (sH1 b o e)) hq) ⟨ds, TD.new_tup hq t2, d2⟩
/-! spots -/
def cutL (ls : List Str) (k m : Nat) : List Str := (ls.drop (min k ls.length)).take (min (k + m) ls.length - min k ls.length)
theorem cutV_map (ls : List Str) (k m : Nat) : cutV (ls.map V.str) (some ((k : Nat) : Int)) (some (((k + m : Nat)) : Int)) = (cutL ls k m).map V.str := by
  unfold cutV cutL
  rw [HT.sIx_nat, HT.sIx_nat, List.length_map, ← List.map_drop, ← List.map_take]
def spotB (ls os : List Str) (k : Nat) : Bool := PyData.eqv (ldD (cutL ls k os.length)) (ldD os)
def spotsF (ls os : List Str) : List Nat := (List.range ((ls.length : Int) - (os.length : Int) + 1).toNat).filter (spotB ls os)
def LnsOk (ls : List Str) : Prop := ls.length ≤ 100 ∧ ∀ l ∈ ls, PySem.PyData.strOk l = true
theorem LnsOk.sh {ls : List Str} (h : LnsOk ls) : Sh 1 (ldD ls) := .tuple (sh_strs h.2)
theorem LnsOk.cut {ls : List Str} (h : LnsOk ls) (k m : Nat) : Sh 1 (ldD (cutL ls k m)) := .tuple (sh_strs fun x hx => h.2 x (List.mem_of_mem_drop (List.mem_of_mem_take hx)))
def spSpots (K : PySem.W.Frag) : Sp := fun vs H Q _ => ∃ (a o : Addr) (ls os : List Str), vs = [.ref a, .ref o] ∧ SqT K H a (ls.map V.str) ∧ SqT K H o (os.map V.str) ∧ LnsOk ls ∧ LnsOk os ∧ ∀ q H', Same H H' → H' q = some (.lst ((spotsF ls os).map fun k => V.int (0 + (k : Nat)))) → Q (.ref q) H'
def n_spots : List Str := ["_law_lines_here", "_law_old", "_law_k"]
theorem sc_spots : FnScope n_spots ["_law_lines_here", "_law_old"] (defScope s__law_spots) := ⟨rfl, rfl, rfl, by decide +kernel, rfl, by decide +kernel, by decide +kernel⟩
theorem ok_spots (D : DefAt K mg "_law_spots" s__law_spots) (T : Txt K mg) : Cal P w K mg base CX0 1 "_law_spots" (spSpots K) := by
  refine cal0 D sc_spots (fun _ _ _ _ _ _ us hl => match us, hl with | [_, _], _ => rfl) (fun vs H Q E h => ?_) (fun f cdv A outer s H vs Q E hr h => ?_)
  · obtain ⟨a, o, ls, os, rfl, _⟩ := h
    rfl
  · obtain ⟨a, o, ls, os, rfl, hA, hO, hl, ho, k⟩ := h
    refine ⟨_, (pss_one (ps_ret (pe_lc (own := [("_law_k", 2)]) (g := gName 2) rfl sc_spots.nd (pi_range1 (by rfl) T.range (pa_cons (pe_op op_add (pe_op op_sub (pe_callB call_len_seq (by rfl) T.len PySem.boot_len (pa_cons (pv 0) pa_nil)) (pe_callB call_len_seq (by rfl) T.len PySem.boot_len (pa_cons (pv 1) pa_nil))) pe_int) pa_nil)) (blkOk_by (N := n_spots) (sc := defScope s__law_spots) (by decide +kernel)) (fun _ _ _ _ _ => (pg_name (i := 2) sc_spots.nd rfl (Or.inl rfl))) (fun _ _ _ _ _ => pts_one (pt_cmpR (op_eqDK (K := K) rfl (by exact hr.units)) (pe_slice (sl_tupAK (K := K) rfl) (pv 0) (po_some (pv 2)) (po_some (pe_op op_add (pv 2) (pe_callB (call_len_seqK (K := K) rfl) (by rfl) T.len PySem.boot_len (pa_cons (pv 1) pa_nil))))) (pv 1) (nomark _))) (fun _ _ _ _ _ => (pv 2))))), ?_⟩
    have l1 := hl.1
    have l2 := ho.1
    refine ⟨_, rfl, a, _, rfl, .inr hA, _, rfl, o, _, rfl, .inr hO, _, _, rfl, rfl, _, _, rfl, rfl, ?_⟩
    rw [List.length_map, List.length_map]
    refine ⟨_, rfl, by omega, by omega, fun D hD => lc_range (lo := 0) (n := ((ls.length : Int) - (os.length : Int) + 1).toNat) (fun i H' => Same H H' ∧ H' D = some (.lst (((List.range i).filter (spotB ls os)).map fun k => V.int (0 + (k : Nat))))) ?_ ?_ ?_⟩
    · exact ⟨same_new (.refl H) hD, upd_same⟩
    · rintro i H2 hi ⟨s2, h2⟩
      refine ⟨rfl, ?_⟩
      refine ⟨_, rfl, _, rfl, _, rfl, _, rfl, _, rfl, o, _, rfl, .inr (seqT s2 hO), _, _, rfl, rfl, _, rfl, ?_⟩
      rw [List.length_map]
      refine sl_any (seqT s2 hA) fun p H3 s3 hp3 => ?_
      have e1 : (0 + ((i : Nat) : Int)) = ((i : Nat) : Int) := by omega
      have e2 : (0 + ((i : Nat) : Int)) + ((os.length : Nat) : Int) = ((i + os.length : Nat) : Int) := by omega
      rw [e2, e1, cutV_map] at hp3
      refine ⟨_, rfl, _, _, (ls_td hp3).dp, (ls_td (seqT (s2.trans s3) hO)).dp, (hl.cut i os.length).shaped, ho.sh.shaped, _, rfl, ?_⟩
      have h3 := s3 _ _ h2
      have eb : PyData.eqv (ldD (cutL ls i os.length)) (ldD os) = spotB ls os i := rfl
      rw [eb]
      refine ite2 (fun c => ?_) (fun c => ?_)
      · refine ⟨_, rfl, _, h3, ?_, ?_⟩
        · rw [List.length_map]
          exact sl_lt (by have := filt_len (spotB ls os) i; omega)
        · refine ⟨same_mut (s2.trans s3) hD, ?_⟩
          rw [filt_more, if_pos c, List.map_append]
          exact upd_same
      · refine ⟨s2.trans s3, ?_⟩
        rw [filt_more, if_neg c, List.append_nil]
        exact h3
    · rintro H2 ⟨s2, h2⟩
      exact k D H2 s2 h2
end
end K23
/-! ### asked -/
namespace K23
open PySem PySem.Spec PyProof.Rows L2
section
variable {K : PySem.W.Frag} {σ : L2.St} {H : Hp}
theorem rx {Q : VK} {a : Addr} {ds : List PyData} {i j : Nat} {n : Int} {d : PyData} (s0 : σ[j]? = some (some (.ref a))) (h : TD K H (.ref a) (.tuple ds)) (hd : ds[i]? = some d) (hn : n = ((i : Nat) : Int)) (q : ∀ v, TD K H v d → Q v H) :
    tOp (rIxT K) (tVar j) (tC (.int n)) σ H Q := by
  subst hn
  obtain ⟨xs, v, h1, h2, h3⟩ := h.ix hd
  exact ⟨_, s0, a, xs, _, v, rfl, rfl, h1, h2, q v h3⟩
theorem rxS {Q : VK} {a : Addr} {ds : List PyData} {i j : Nat} {n : Int} {x : Str} (s0 : σ[j]? = some (some (.ref a))) (h : TD K H (.ref a) (.tuple ds)) (hd : ds[i]? = some (.str x)) (hn : n = ((i : Nat) : Int)) (q : Q (.str x) H) :
    tOp (rIxT K) (tVar j) (tC (.int n)) σ H Q := rx s0 h hd hn fun v hv => by
  rw [hv.str_inv]
  exact q
theorem rxL {Q : VK} {a : Addr} {ds : List PyData} {i j : Nat} {n : Int} {ls : List Str} (s0 : σ[j]? = some (some (.ref a))) (h : TD K H (.ref a) (.tuple ds)) (hd : ds[i]? = some (ldD ls)) (hn : n = ((i : Nat) : Int)) (q : ∀ b, SqT K H b (ls.map V.str) → Q (.ref b) H) :
    tOp (rIxT K) (tVar j) (tC (.int n)) σ H Q := rx s0 h hd hn fun v hv => by
  obtain ⟨b, xs, rfl, h1, h2⟩ := hv.tup_inv
  rw [h2.strs_inv] at h1
  exact q b h1
/-- action[0] == word -/
theorem rxW {Q : Bool → Hp → Prop} {a : Addr} {ds : List PyData} {j : Nat} {x y : Str} (s0 : σ[j]? = some (some (.ref a))) (h : TD K H (.ref a) (.tuple ds)) (hd : ds[0]? = some (.str x)) (q : Q (decide (V.str x = V.str y)) H) :
    tTest (tOp rEq (tOp (rIxT K) (tVar j) (tC (.int 0))) (tC (.str y))) σ H Q := by
  refine rxS (i := 0) s0 h hd rfl ?_
  exact ⟨rfl, _, rfl, q⟩
end
def words5 : List Str := ["x", "y", " ", "todo", "x y"]
theorem word_T : ∀ x ∈ words5, TOk x ∧ wordB x = true := by decide +kernel
def AskOk : Act → Prop
  | .two w p => (w = "read" ∧ PathOk p) ∨ ((w = "kind" ∨ w = "list" ∨ w = "count") ∧ PlaceOk p)
  | .find p x => PlaceOk p ∧ x ∈ words5
  | _ => False
theorem AskOk.place {A : Act} (h : AskOk A) : PlaceOk A.path := by
  cases A with
  | two w p =>
    rcases h with h | h
    · exact .inr h.2
    · exact h.2
  | find p x => exact h.1
  | write p ls => exact h.elim
  | move p q => exact h.elim
  | splice p o n => exact h.elim
/-- v is an answer -/
def AnsAt (K : PySem.W.Frag) (H : Hp) (v : V) : Prop := ∃ ans, TD K H v ans ∧ Sh 10 ans
theorem AnsAt.one {K : PySem.W.Frag} {H : Hp} {p : Addr} {x : Str} (hp : H p = none) (hx : PySem.PyData.strOk x = true) : AnsAt K (upd H p (.tup [.str x])) (.ref p) :=
  ⟨_, TD.new_tup hp (.cons (.str x) .nil), (Sh.tuple (n := 0) (sh_cons (.str hx) sh_nil)).mono (by decide)⟩
theorem AnsAt.two {K : PySem.W.Frag} {H : Hp} {p : Addr} {x : Str} {v : V} {d : PyData} (hp : H p = none) (hx : PySem.PyData.strOk x = true) (t : TD K H v d) (hd : Sh 9 d) : AnsAt K (upd H p (.tup [.str x, v])) (.ref p) :=
  ⟨_, TD.new_tup hp (.cons (.str x) (.cons t .nil)), .tuple (sh_cons (.str hx) (sh_cons hd sh_nil))⟩
section
variable {P : Program} {w : World} {K : PySem.W.Frag} {mg : Str → Option Value} {base : Heap}
def spAsk (K : PySem.W.Frag) : Sp := fun vs H Q _ => ∃ (d : Addr) (kvs : List (Key × V)) (a : Addr) (A : Act), vs = [.ref d, .ref a] ∧ Files K H d kvs ∧ TD K H (.ref a) A.d ∧ AskOk A ∧ ∀ v H', Same H H' → AnsAt K H' v → Q v H'
def n_ask : List Str := ["_law_files_here", "_law_action_here", "_law_place_here", "_law_path_here"]
theorem sc_ask : FnScope n_ask ["_law_files_here", "_law_action_here"] (defScope s__law_asked) := ⟨rfl, rfl, rfl, by decide +kernel, rfl, by decide +kernel, by decide +kernel⟩
theorem ok_ask (D : DefAt K mg "_law_asked" s__law_asked) (T : Txt K mg) (c_inside : Cal P w K mg base CX0 1 "_law_inside" spIns) (c_is_folder : Cal P w K mg base CX0 2 "_law_is_folder" (spFold K)) (c_found : Cal P w K mg base CX0 2 "_law_found" (spFnd K))
    (c_names : Cal P w K mg base CX0 2 "_law_names" (spNms K)) : Cal P w K mg base CX0 3 "_law_asked" (spAsk K) := by
  refine cal0 D sc_ask (fun _ _ _ _ _ _ us hl => match us, hl with | [_, _], _ => rfl) (fun vs H Q E h => ?_) (fun f cdv A outer s H vs Q E hr h => ?_)
  · obtain ⟨d, kvs, a, Ac, rfl, _⟩ := h
    rfl
  · obtain ⟨d, kvs, a, Ac, rfl, hF, hT, hA, k⟩ := h
    refine ⟨_, (pss_cons (ps_set (i := 2) sc_ask.nd rfl (Or.inr rfl) (pe_ix ix_tup (pv 1) pe_int (fun _ _ => rfl)))
      (pss_cons (ps_if (pt_cmpR op_eq (pe_ix ix_tup (pv 1) pe_int (fun _ _ => rfl)) pe_str (nomark _)) (pss_cons (ps_if (pt_cmp (pc_din (hu_of hr) (pv 2) (pv 0))) (pss_one (ps_ret (pe_tup (pa_cons pe_str (pa_cons (pe_dget (hu_of hr) (pv 0) (pv 2) (fun _ _ => rfl)) pa_nil))))) pss_nil)
      (pss_one (ps_ret (pe_tup (pa_cons pe_str pa_nil))))) pss_nil)
      (pss_cons (ps_if (pt_cmpR op_eq (pe_ix ix_tup (pv 1) pe_int (fun _ _ => rfl)) pe_str (nomark _)) (pss_cons (ps_if (pt_cmp (pc_din (hu_of hr) (pv 2) (pv 0))) (pss_one (ps_ret (pe_tup (pa_cons pe_str pa_nil)))) pss_nil)
      (pss_one (ps_ret (pe_ix ix_list (pe_lst (pa_cons (pe_tup (pa_cons pe_str pa_nil)) (pa_cons (pe_tup (pa_cons pe_str pa_nil)) pa_nil))) (pe_callTy call_int1 (by rfl) T.int (by decide +kernel) (pa_cons (pe_c c_is_folder hr (by decide) (by rfl) (pa_cons (pv 0) (pa_cons (pv 2) pa_nil))) pa_nil)) (fun _ _ => rfl))))) pss_nil)
      (pss_cons (ps_if (pt_cmpR op_eq (pe_ix ix_tup (pv 1) pe_int (fun _ _ => rfl)) pe_str (nomark _)) (pss_cons (ps_if (PW.pt (pw_or (pt_cmp (pc_din (hu_of hr) (pv 2) (pv 0))) (pw_or1 (pt_val (pe_c c_is_folder hr (by decide) (by rfl) (pa_cons (pv 0) (pa_cons (pv 2) pa_nil))))))) (pss_one (ps_ret (pe_tup (pa_cons pe_str (pa_cons (pe_c c_found hr (by decide) (by rfl) (pa_cons (pv 0) (pa_cons (pv 2) (pa_cons (pe_ix ix_tup (pv 1) pe_int (fun _ _ => rfl)) pa_nil)))) pa_nil))))) pss_nil)
      (pss_one (ps_ret (pe_tup (pa_cons pe_str pa_nil))))) pss_nil)
      (pss_cons (ps_if (pt_not (pt_val (pe_c c_is_folder hr (by decide) (by rfl) (pa_cons (pv 0) (pa_cons (pv 2) pa_nil))))) (pss_one (ps_ret (pe_tup (pa_cons pe_str pa_nil)))) pss_nil)
      (pss_cons (ps_if (pt_cmpR op_eq (pe_ix ix_tup (pv 1) pe_int (fun _ _ => rfl)) pe_str (nomark _)) (pss_one (ps_ret (pe_tup (pa_cons pe_str (pa_cons (pe_c c_names hr (by decide) (by rfl) (pa_cons (pv 0) (pa_cons (pv 2) pa_nil))) pa_nil))))) pss_nil)
      (pss_one (ps_ret (pe_tup (pa_cons pe_str (pa_cons (pe_callB call_len_seq (by rfl) T.len PySem.boot_len (pa_cons (pe_lock (pe_lc (own := [("_law_path_here", 3)]) (g := gName 3) rfl sc_ask.nd (pi_keys (pv 0)) (blkOk_by (N := n_ask) (sc := defScope s__law_asked) (by decide +kernel)) (fun _ _ _ _ _ => (pg_name (i := 3) sc_ask.nd rfl (Or.inl rfl))) (fun _ _ _ _ _ => pts_one (pt_val (pe_c c_inside hr (by decide) (by rfl) (pa_cons (pv 3) (pa_cons (pv 2) pa_nil))))) (fun _ _ _ _ _ => (pv 3)))) pa_nil)) pa_nil))))))))))), ?_⟩
    have hP := hA.place
    obtain ⟨x0, v0, h0, a0, t0⟩ := hT.ix (Act.it0 _)
    have e0 := t0.str_inv
    subst e0
    refine rxS rfl hT Ac.it1 rfl ?_
    have none_ : ∀ H', Same H H' → ∀ p, H' p = none → Q (.ref p) (upd H' p (.tup [.str "none"])) := fun H' s' p hp => k _ _ (same_new s' hp) (.one hp (by decide +kernel))
    cases Ac with
    | two w p =>
      rcases hA with ⟨rfl, hp⟩ | ⟨hw, hp⟩
      · -- read
        refine ⟨_, rfl, _, x0, _, _, rfl, rfl, h0, a0, rfl, _, rfl, ifT (decide_eq_true rfl) ?_⟩
        refine ⟨_, rfl, _, rfl, d, _, rfl, DGet.k (k := Sum.inr p) hF.at_, _, rfl, ?_⟩
        cases e : valV kvs (Sum.inr p) with
        | none =>
          refine ifF rfl ?_
          exact ⟨le1, fun q hq => none_ H (.refl H) q hq⟩
        | some v =>
          obtain ⟨p', _, _, ls, h3, h4, h5⟩ := hF.ok.2 _ (get_some e)
          have e2 : valV kvs (Sum.inr (Act.two "read" p).path) = some v := e
          refine ifT rfl ?_
          refine ⟨_, rfl, _, rfl, d, v, rfl, (by rw [← e2]; exact DGet.k (k := Sum.inr p) hF.at_), le2, fun q hq => ?_⟩
          exact k _ _ (same_new (.refl H) hq) (.two hq (by decide +kernel) h3 ((Sh.tuple (n := 0) (sh_strs fun x hx => (line_T x (h5 x hx)).1.2)).mono (by decide)))
      · rcases hw with rfl | rfl | rfl
        · -- kind
          refine ⟨_, rfl, _, x0, _, _, rfl, rfl, h0, a0, rfl, _, rfl, ifF (decide_eq_false (by intro z; have z2 := V.str.inj z; clear z; revert z2; try dsimp only [Act.word]; decide +kernel)) ?_⟩
          refine ⟨_, rfl, _, x0, _, _, rfl, rfl, h0, a0, rfl, _, rfl, ifT (decide_eq_true rfl) ?_⟩
          refine ⟨_, rfl, _, rfl, d, _, rfl, DGet.k (k := Sum.inr p) hF.at_, _, rfl, ?_⟩
          refine ite2 (fun _ => ⟨le1, fun q hq => ?_⟩) (fun _ => ?_)
          · exact k _ _ (same_new (.refl H) hq) (.one hq (by decide +kernel))
          · refine ⟨le1, fun p1 hp1 => ⟨le1, fun p2 hp2 => ⟨le2, fun p3 hp3 => ?_⟩⟩⟩
            have s1 := same_new (o := .tup [.str "none"]) (.refl H) hp1
            have s2 := same_new (o := .tup [.str "folder"]) s1 hp2
            have s3 := same_new (o := .lst [.ref p1, .ref p2]) s2 hp3
            have a1 : AnsAt K (upd H p1 (.tup [.str "none"])) (.ref p1) := .one hp1 (by decide +kernel)
            have a2 : AnsAt K (upd (upd H p1 (.tup [.str "none"])) p2 (.tup [.str "folder"])) (.ref p2) := .one hp2 (by decide +kernel)
            refine ⟨_, rfl, _, rfl, d, kvs, p, rfl, hF.same s3, hp, fun r H4 s4 => .inr ⟨r, rfl, p3, _, _, _, rfl, rfl, SqL.of (s4 _ _ upd_same), (by cases r <;> rfl : atI [V.ref p1, V.ref p2] (if r = true then 1 else 0) = some (if r = true then V.ref p2 else V.ref p1)), ?_⟩⟩
            have s24 := (same_new (o := .lst [.ref p1, .ref p2]) (.refl _) hp3).trans s4
            cases r with
            | true =>
              obtain ⟨x, t, h⟩ := a2
              exact k _ _ (s3.trans s4) ⟨x, t.mono (.same s24), h⟩
            | false =>
              obtain ⟨x, t, h⟩ := a1
              exact k _ _ (s3.trans s4) ⟨x, t.mono (.same ((same_new (o := .tup [.str "folder"]) (.refl _) hp2).trans s24)), h⟩
        · -- list
          refine ⟨_, rfl, _, x0, _, _, rfl, rfl, h0, a0, rfl, _, rfl, ifF (decide_eq_false (by intro z; have z2 := V.str.inj z; clear z; revert z2; try dsimp only [Act.word]; decide +kernel)) ?_⟩
          refine ⟨_, rfl, _, x0, _, _, rfl, rfl, h0, a0, rfl, _, rfl, ifF (decide_eq_false (by intro z; have z2 := V.str.inj z; clear z; revert z2; try dsimp only [Act.word]; decide +kernel)) ?_⟩
          refine ⟨_, rfl, _, x0, _, _, rfl, rfl, h0, a0, rfl, _, rfl, ifF (decide_eq_false (by intro z; have z2 := V.str.inj z; clear z; revert z2; try dsimp only [Act.word]; decide +kernel)) ?_⟩
          refine ⟨_, rfl, _, rfl, d, kvs, p, rfl, hF, hp, fun r H1 s1 => ⟨r, rfl, ?_⟩⟩
          refine ite2 (fun _ => ⟨le1, fun q hq => none_ _ s1 q hq⟩) (fun _ => ?_)
          refine ⟨_, rfl, _, x0, _, _, rfl, rfl, (seqT s1 h0), a0, rfl, _, rfl, ifT (decide_eq_true rfl) ?_⟩
          refine ⟨_, rfl, _, rfl, d, kvs, p, rfl, hF.same s1, hp, fun q H2 s2 hq => ⟨le2, fun p2 hp2 => ?_⟩⟩
          obtain ⟨ws, t, _, h⟩ := hq
          exact k _ _ (same_new (s1.trans s2) hp2) (.two hp2 (by decide +kernel) t ((Sh.tuple (n := 0) (sh_strs h)).mono (by decide)))
        · -- count
          refine ⟨_, rfl, _, x0, _, _, rfl, rfl, h0, a0, rfl, _, rfl, ifF (decide_eq_false (by intro z; have z2 := V.str.inj z; clear z; revert z2; try dsimp only [Act.word]; decide +kernel)) ?_⟩
          refine ⟨_, rfl, _, x0, _, _, rfl, rfl, h0, a0, rfl, _, rfl, ifF (decide_eq_false (by intro z; have z2 := V.str.inj z; clear z; revert z2; try dsimp only [Act.word]; decide +kernel)) ?_⟩
          refine ⟨_, rfl, _, x0, _, _, rfl, rfl, h0, a0, rfl, _, rfl, ifF (decide_eq_false (by intro z; have z2 := V.str.inj z; clear z; revert z2; try dsimp only [Act.word]; decide +kernel)) ?_⟩
          refine ⟨_, rfl, _, rfl, d, kvs, p, rfl, hF, hp, fun r H1 s1 => ⟨r, rfl, ?_⟩⟩
          refine ite2 (fun _ => ⟨le1, fun q hq => none_ _ s1 q hq⟩) (fun _ => ?_)
          refine ⟨_, rfl, _, x0, _, _, rfl, rfl, (seqT s1 h0), a0, rfl, _, rfl, ifF (decide_eq_false (by intro z; have z2 := V.str.inj z; clear z; revert z2; try dsimp only [Act.word]; decide +kernel)) ?_⟩
          have hF1 := hF.same s1
          refine ⟨d, _, hF1.at_, trivial, fun od => ?_⟩
          refine ⟨_, rfl, d, od, rfl, .inl ⟨kvs, upd_same, fun D hD => lc_it (walk_keys (kvs := kvs)) (fun i H' => Same (upd H1 d (.frz od (.dK kvs))) H' ∧ ∃ ws : List V, H' D = some (.lst ws) ∧ ws.length ≤ i) ?_ ?_ ?_ ?_⟩⟩
          · exact ⟨same_new (.refl _) hD, [], upd_same, Nat.le_refl _⟩
          · rintro i H' _ ⟨s', _⟩
            exact s' _ _ upd_same
          · rintro i x H2 H3 hi ⟨s2, ws, h2, l2⟩ ⟨rfl, k1, v1, hkv, rfl⟩
            obtain ⟨q, e1, hq, _⟩ := hF.ok.2 _ (List.mem_of_getElem? hkv)
            have e1' : k1 = Sum.inr q := e1
            subst e1'
            have hk := hF.ok.1
            have lq : q.length ≤ 1000 := Nat.le_trans (path_l q hq) (by decide)
            have lp : p.length ≤ 1000 := Nat.le_trans hp.len (by decide)
            refine ⟨rfl, _, rfl, _, rfl, q, p, rfl, lq, lp, _, rfl, ?_⟩
            refine ite2 (fun _ => ⟨_, rfl, ws, h2, sl_lt (by omega), same_mut s2 hD, _, upd_same, by rw [List.length_append]; show ws.length + 1 ≤ i + 1; omega⟩) (fun _ => ⟨s2, ws, h2, by omega⟩)
          · rintro H2 ⟨s2, ws, h2, l2⟩
            have hDd : D ≠ d := fun e => by
              rw [e, upd_same] at hD
              cases hD
            refine ⟨s2 _ _ upd_same, D, ws, rfl, .inl (SqL.of (by rw [upd_ne hDd]; exact h2)), le2, fun p2 hp2 => ?_⟩
            exact k _ _ (same_new (s1.trans (same_unlock hF1.at_ s2)) hp2) (.two hp2 (by decide +kernel) (.int _) (.int _))
    | find p x =>
      refine ⟨_, rfl, _, x0, _, _, rfl, rfl, h0, a0, rfl, _, rfl, ifF (decide_eq_false (by intro z; have z2 := V.str.inj z; clear z; revert z2; try dsimp only [Act.word]; decide +kernel)) ?_⟩
      refine ⟨_, rfl, _, x0, _, _, rfl, rfl, h0, a0, rfl, _, rfl, ifF (decide_eq_false (by intro z; have z2 := V.str.inj z; clear z; revert z2; try dsimp only [Act.word]; decide +kernel)) ?_⟩
      refine ⟨_, rfl, _, x0, _, _, rfl, rfl, h0, a0, rfl, _, rfl, ifT (decide_eq_true rfl) ?_⟩
      have go : ∀ H', Same H H' → tRet (tTup (tCons (tC (.str "found")) (tCons (tCall (spFnd K) [] E0 (tCons (tVar 0) (tCons (tVar 2) (tCons (tOp (rIxT K) (tVar 1) (tC (.int 2))) tNil)))) tNil))) { nx := fun _ H' => Q .non H', rt := Q } [some (.ref d), some (.ref a), some (.str p), none] H' := fun H' s' => by
        refine ⟨_, rfl, _, rfl, ?_⟩
        refine rxS (i := 2) (x := x) rfl (hT.mono (.same s')) rfl rfl ?_
        refine ⟨d, kvs, p, x, rfl, hF.same s', hA.1, fun q H2 s2 hq => ⟨le2, fun p2 hp2 => ?_⟩⟩
        obtain ⟨ds, t, h⟩ := hq
        exact k _ _ (same_new (s'.trans s2) hp2) (.two hp2 (by decide +kernel) t ((Sh.tuple h).mono (by decide)))
      refine ⟨_, rfl, _, rfl, d, _, rfl, DGet.k (k := Sum.inr p) hF.at_, _, rfl, ?_⟩
      cases e : valV kvs (Sum.inr p) with
      | some v =>
        refine ifT rfl ?_
        exact ifT rfl (go H (.refl H))
      | none =>
        refine ifF rfl ?_
        refine ⟨_, rfl, _, rfl, d, kvs, p, rfl, hF, hA.1, fun r H1 s1 => ⟨r, rfl, ?_⟩⟩
        exact ite2 (fun _ => go H1 s1) (fun _ => ⟨le1, fun q hq => none_ _ s1 q hq⟩)
    | write p ls => exact hA.elim
    | move p q => exact hA.elim
    | splice p o n => exact hA.elim
end
end K23
/-! ### refusal -/
namespace K23
open PySem PySem.Spec PyProof.Rows L2
def LOk (ls : List Str) (n : Nat) : Prop := ls.length ≤ n ∧ ∀ l ∈ ls, LineOk l
theorem LOk.lns {ls : List Str} {n : Nat} (h : LOk ls n) (hn : n ≤ 100 := by decide) : LnsOk ls := ⟨Nat.le_trans h.1 hn, fun l hl => (line_T l (h.2 l hl)).1.2⟩
def DeedOk : Act → Prop
  | .two w p => w = "remove" ∧ PathOk p
  | .find _ _ => False
  | .write p ls => PathOk p ∧ LOk ls 4
  | .move p q => PathOk p ∧ PathOk q
  | .splice p o n => PathOk p ∧ LOk o 4 ∧ 1 ≤ o.length ∧ LOk n 4
def Ready (K : PySem.W.Frag) (H : Hp) (kvs : List (Key × V)) : Act → Prop
  | .two _ p => ∃ v, valV kvs (Sum.inr p) = some v
  | .find _ _ => True
  | .write _ _ => True
  | .move p _ => ∃ v, valV kvs (Sum.inr p) = some v
  | .splice p o _ => ∃ (a : Addr) (ls : List Str), valV kvs (Sum.inr p) = some (.ref a) ∧ SqT K H a (ls.map V.str) ∧ LOk ls 4 ∧ spotsF ls o ≠ []
theorem ints_dp {K : PySem.W.Frag} {H : Hp} (f : Nat → Int) : ∀ (ks : List Nat), DpAll K H (ks.map fun k => V.int (f k)) (ks.map fun k => PyData.int (f k))
  | [] => .nil
  | k :: r => .cons (.int _) (ints_dp f r)
theorem ints_sh {n : Nat} (f : Nat → Int) (ks : List Nat) : ∀ d ∈ ks.map (fun k => PyData.int (f k)), Sh n d := fun d hd => by
  obtain ⟨k, _, rfl⟩ := List.mem_map.mp hd
  exact .int _
section
variable {P : Program} {w : World} {K : PySem.W.Frag} {mg : Str → Option Value} {base : Heap}
def spRefu (K : PySem.W.Frag) : Sp := fun vs H Q _ => ∃ (d : Addr) (kvs : List (Key × V)) (a : Addr) (A : Act), vs = [.ref d, .ref a] ∧ Files K H d kvs ∧ TD K H (.ref a) A.d ∧ DeedOk A ∧ ∀ s H', Same H H' → PySem.PyData.strOk s = true → (s = "" → Ready K H kvs A) → Q (.str s) H'
theorem pick2 {x y : Str} (k : Bool) : atI [V.str x, V.str y] (if k = true then 1 else 0) = some (V.str (if k = true then y else x)) := by
  cases k <;> rfl
def n_refu : List Str := ["_law_files_here", "_law_action_here", "_law_path_here", "_law_rest", "_law_spots_here", "_law_other"]
theorem sc_refu : FnScope n_refu ["_law_files_here", "_law_action_here"] (defScope s__law_refusal) := ⟨rfl, rfl, rfl, by decide +kernel, rfl, by decide +kernel, by decide +kernel⟩
theorem ok_refu (D : DefAt K mg "_law_refusal" s__law_refusal) (T : Txt K mg) (c_blocked : Cal P w K mg base CX0 2 "_law_blocked" (spBlk K)) (c_blockedL : Cal P w K mg base CX0 2 "_law_blocked" (spBlkL K)) (c_spots : Cal P w K mg base CX0 1 "_law_spots" (spSpots K)) :
    Cal P w K mg base CX0 3 "_law_refusal" (spRefu K) := by
  refine cal0 D sc_refu (fun _ _ _ _ _ _ us hl => match us, hl with | [_, _], _ => rfl) (fun vs H Q E h => ?_) (fun f cdv A outer s H vs Q E hr h => ?_)
  · obtain ⟨d, kvs, a, Ac, rfl, _⟩ := h
    rfl
  · obtain ⟨d, kvs, a, Ac, rfl, hF, hT, hA, k⟩ := h
    refine ⟨_, (pss_cons (ps_set (i := 2) sc_refu.nd rfl (Or.inr rfl) (pe_ix ix_tup (pv 1) pe_int (fun _ _ => rfl)))
      (pss_cons (ps_if (pt_cmpR op_eq (pe_ix ix_tup (pv 1) pe_int (fun _ _ => rfl)) pe_str (nomark _)) (pss_cons (ps_if (pt_val (pe_c c_blocked hr (by decide) (by rfl) (pa_cons (pv 0) (pa_cons (pv 2) pa_nil)))) (pss_one (ps_ret pe_str)) pss_nil)
      (pss_one (ps_ret (pe_ix ix_list (pe_lst (pa_cons pe_str (pa_cons pe_str pa_nil))) (pe_callTy call_int1 (by rfl) T.int (by decide +kernel) (pa_cons (pe_and (pe_cmp (pc_dnotin (hu_of hr) (pv 2) (pv 0)) (by rfl)) (pe_one (pe_cmpR op_eq (pe_callB call_lenD (by rfl) T.len PySem.boot_len (pa_cons (pv 0) pa_nil)) pe_int (nomark _)))) pa_nil)) (fun _ _ => rfl))))) pss_nil)
      (pss_cons (ps_if (pt_cmp (pc_dnotin (hu_of hr) (pv 2) (pv 0))) (pss_one (ps_ret pe_str)) pss_nil)
      (pss_cons (ps_if (pt_cmpR op_eq (pe_ix ix_tup (pv 1) pe_int (fun _ _ => rfl)) pe_str (nomark _)) (pss_cons (ps_lock (ps_setLc (i := 3) (own := [("_law_other", 5)]) (g := gName 5) rfl sc_refu.nd rfl rfl (sw_true rfl rfl rfl (by decide +kernel)) (pi_keys (pv 0)) (blkOk_by (N := n_refu) (sc := defScope s__law_refusal) (by decide +kernel)) (fun _ _ _ _ _ => (pg_name (i := 5) sc_refu.nd rfl (Or.inl rfl))) (fun _ _ _ _ _ => pts_one (pt_cmpR op_ne (pv 5) (pv 2) (nomark _))) (fun _ _ _ _ _ => (pv 5))))
      (pss_one (ps_if (PW.pt (pw_or (pt_cmpR op_in_seq (pe_ix ix_tup (pv 1) pe_int (fun _ _ => rfl)) (pv 3) (by rfl)) (pw_or1 (pt_val (pe_c c_blockedL hr (by decide) (by rfl) (pa_cons (pv 3) (pa_cons (pe_ix ix_tup (pv 1) pe_int (fun _ _ => rfl)) pa_nil))))))) (pss_one (ps_ret pe_str)) pss_nil))) pss_nil)
      (pss_cons (ps_if (pt_cmpR op_eq (pe_ix ix_tup (pv 1) pe_int (fun _ _ => rfl)) pe_str (nomark _)) (pss_cons (ps_set (i := 4) sc_refu.nd rfl (Or.inl rfl) (pe_c c_spots hr (by decide) (by rfl) (pa_cons (pe_dget (hu_of hr) (pv 0) (pv 2) (fun _ _ => rfl)) (pa_cons (pe_ix ix_tup (pv 1) pe_int (fun _ _ => rfl)) pa_nil))))
      (pss_cons (ps_if (pt_cmpR op_ne (pe_callB call_len_seq (by rfl) T.len PySem.boot_len (pa_cons (pv 4) pa_nil)) pe_int (nomark _)) (pss_one (ps_ret (pe_ix ix_list (pe_lst (pa_cons pe_str (pa_cons pe_str pa_nil))) (pe_callTy call_int1 (by rfl) T.int (by decide +kernel) (pa_cons (pe_cmpR (op_eqD hr.units) (pv 4) (pe_lst pa_nil) (nomark _)) pa_nil)) (fun _ _ => rfl)))) pss_nil)
      (pss_one (ps_if (pt_cmpR op_gt (pe_op op_add (pe_op op_sub (pe_callB call_len_seq (by rfl) T.len PySem.boot_len (pa_cons (pe_dget (hu_of hr) (pv 0) (pv 2) (fun _ _ => rfl)) pa_nil)) (pe_callB call_len_seq (by rfl) T.len PySem.boot_len (pa_cons (pe_ix ix_tup (pv 1) pe_int (fun _ _ => rfl)) pa_nil))) (pe_callB call_len_seq (by rfl) T.len PySem.boot_len (pa_cons (pe_ix ix_tup (pv 1) pe_int (fun _ _ => rfl)) pa_nil))) pe_int (nomark _)) (pss_one (ps_ret pe_str)) pss_nil)))) pss_nil)
      (pss_one (ps_ret pe_str))))))), ?_⟩
    refine rxS rfl hT Ac.it1 rfl ?_
    obtain ⟨x0, v0, h0, a0, t0⟩ := hT.ix (Act.it0 _)
    have e0 := t0.str_inv
    subst e0
    have hk20 := hF.ok.1
    cases Ac with
    | find p x => exact hA.elim
    | two w p =>
      obtain ⟨rfl, hp⟩ := hA
      refine ⟨_, rfl, _, x0, _, _, rfl, rfl, h0, a0, rfl, _, rfl, ifF (decide_eq_false (by intro z; have z2 := V.str.inj z; clear z; revert z2; try dsimp only [Act.word]; decide +kernel)) ?_⟩
      refine ⟨_, rfl, _, rfl, d, _, rfl, DGet.k (k := Sum.inr p) hF.at_, _, rfl, ?_⟩
      cases e : valV kvs (Sum.inr p) with
      | none =>
        refine ifT rfl ?_
        exact k _ _ (.refl H) (by decide +kernel) (fun z => absurd z (by decide +kernel))
      | some v =>
        refine ifF rfl ?_
        refine ⟨_, rfl, _, x0, _, _, rfl, rfl, h0, a0, rfl, _, rfl, ifF (decide_eq_false (by intro z; have z2 := V.str.inj z; clear z; revert z2; try dsimp only [Act.word]; decide +kernel)) ?_⟩
        refine ⟨_, rfl, _, x0, _, _, rfl, rfl, h0, a0, rfl, _, rfl, ifF (decide_eq_false (by intro z; have z2 := V.str.inj z; clear z; revert z2; try dsimp only [Act.word]; decide +kernel)) ?_⟩
        exact k _ _ (.refl H) (by decide +kernel) (fun _ => ⟨v, e⟩)
    | write p ls =>
      refine ⟨_, rfl, _, x0, _, _, rfl, rfl, h0, a0, rfl, _, rfl, ifT (decide_eq_true rfl) ?_⟩
      refine ⟨_, rfl, _, rfl, d, kvs, p, rfl, hF, hA.1, fun r H1 s1 => ⟨r, rfl, ?_⟩⟩
      refine ite2 (fun _ => k _ _ s1 (by decide +kernel) (fun _ => trivial)) (fun _ => ?_)
      have hF1 := hF.same s1
      refine ⟨le2, fun p1 hp1 => ?_⟩
      have s2 := same_new (o := .lst [.str "", .str "full"]) s1 hp1
      have fin : ∀ c : Bool, ∃ p xs i v, V.ref p1 = .ref p ∧ V.int (if c = true then 1 else 0) = .int i ∧ SqL K (upd H1 p1 (.lst [.str "", .str "full"])) p xs ∧ atI xs i = some v ∧ Q v (upd H1 p1 (.lst [.str "", .str "full"])) := fun c =>
        ⟨p1, _, _, _, rfl, rfl, SqL.of upd_same, pick2 c, k _ _ s2 (by cases c <;> decide +kernel) (fun _ => trivial)⟩
      refine ⟨_, rfl, _, rfl, d, _, rfl, DGet.k (k := Sum.inr p) (hF.same s2).at_, _, rfl, ?_⟩
      refine ite2 (fun _ => ?_) (fun _ => .inr ⟨false, rfl, fin false⟩)
      exact ⟨_, rfl, d, _, rfl, (hF.same s2).at_, rfl, .inr ⟨_, rfl, fin _⟩⟩
    | move p q =>
      refine ⟨_, rfl, _, x0, _, _, rfl, rfl, h0, a0, rfl, _, rfl, ifF (decide_eq_false (by intro z; have z2 := V.str.inj z; clear z; revert z2; try dsimp only [Act.word]; decide +kernel)) ?_⟩
      refine ⟨_, rfl, _, rfl, d, _, rfl, DGet.k (k := Sum.inr p) hF.at_, _, rfl, ?_⟩
      cases e : valV kvs (Sum.inr p) with
      | none =>
        refine ifT rfl ?_
        exact k _ _ (.refl H) (by decide +kernel) (fun z => absurd z (by decide +kernel))
      | some v =>
        refine ifF rfl ?_
        refine ⟨_, rfl, _, x0, _, _, rfl, rfl, h0, a0, rfl, _, rfl, ifT (decide_eq_true rfl) ?_⟩
        -- rest
        refine ⟨d, _, hF.at_, trivial, fun od => ?_⟩
        refine ⟨_, rfl, d, od, rfl, .inl ⟨kvs, upd_same, fun D hD => lc_it (walk_keys (kvs := kvs)) (fun i H' => Same (upd H d (.frz od (.dK kvs))) H' ∧ ∃ ws : List Str, H' D = some (.lst (ws.map V.str)) ∧ ws.length ≤ i ∧ ∀ x ∈ ws, PathOk x) ?_ ?_ ?_ ?_⟩⟩
        · exact ⟨same_new (.refl _) hD, [], upd_same, Nat.le_refl _, fun x hx => nomatch hx⟩
        · rintro i H' _ ⟨s', _⟩
          exact s' _ _ upd_same
        · rintro i x H2 H3 hi ⟨s2, ws, h2, l2, hw⟩ ⟨rfl, k1, v1, hkv, rfl⟩
          obtain ⟨z, e1, hz, _⟩ := hF.ok.2 _ (List.mem_of_getElem? hkv)
          have e1' : k1 = Sum.inr z := e1
          subst e1'
          refine ⟨rfl, _, rfl, _, rfl, rfl, _, rfl, ?_⟩
          refine ite2 (fun _ => ⟨_, rfl, _, h2, sl_lt (by rw [List.length_map]; omega), same_mut s2 hD, ws ++ [z], by rw [List.map_append]; exact upd_same, by rw [List.length_append]; show ws.length + 1 ≤ i + 1; omega, fun y hy => ?_⟩) (fun _ => ⟨s2, ws, h2, by omega, hw⟩)
          rcases List.mem_append.mp hy with m | m
          · exact hw y m
          · rw [List.mem_singleton.mp m]
            exact hz
        · rintro H2 ⟨s2, ws, h2, l2, hw⟩
          have hDd : D ≠ d := fun e => by
            rw [e, upd_same] at hD
            cases hD
          refine ⟨s2 _ _ upd_same, ?_⟩
          have s3 : Same H (upd H2 d (.dK kvs)) := same_unlock hF.at_ s2
          have hL : SqL K (upd H2 d (.dK kvs)) D (ws.map V.str) := SqL.of (by rw [upd_ne hDd]; exact h2)
          obtain ⟨x2, v2, hx2, a2, t2⟩ := hT.ix (i := 2) (d := .str q) rfl
          have e2 := t2.str_inv
          subst e2
          refine ⟨_, rfl, _, x2, _, _, rfl, rfl, seqT s3 hx2, a2, _, rfl, D, _, rfl, .inl hL, rfl, ?_, _, rfl, ?_⟩
          · exact List.all_eq_true.mpr fun v hv => by
              obtain ⟨t, _, rfl⟩ := List.mem_map.mp hv
              rfl
          have bad : Q (.str "blocked") (upd H2 d (.dK kvs)) := k _ _ s3 (by decide +kernel) (fun z => absurd z (by decide +kernel))
          refine ite2 (fun _ => ifT rfl bad) (fun _ => ?_)
          refine ⟨_, rfl, _, rfl, _, x2, _, _, rfl, rfl, seqT s3 hx2, a2, D, ws, q, rfl, hL, hw, hA.2, fun r => ⟨r, rfl, ?_⟩⟩
          refine ite2 (fun _ => bad) (fun _ => ?_)
          refine ⟨_, rfl, _, x0, _, _, rfl, rfl, (seqT s3 h0), a0, rfl, _, rfl, ifF (decide_eq_false (by intro z; have z2 := V.str.inj z; clear z; revert z2; try dsimp only [Act.word]; decide +kernel)) ?_⟩
          exact k _ _ s3 (by decide +kernel) (fun _ => ⟨v, e⟩)
    | splice p o n =>
      refine ⟨_, rfl, _, x0, _, _, rfl, rfl, h0, a0, rfl, _, rfl, ifF (decide_eq_false (by intro z; have z2 := V.str.inj z; clear z; revert z2; try dsimp only [Act.word]; decide +kernel)) ?_⟩
      refine ⟨_, rfl, _, rfl, d, _, rfl, DGet.k (k := Sum.inr p) hF.at_, _, rfl, ?_⟩
      cases e : valV kvs (Sum.inr p) with
      | none =>
        refine ifT rfl ?_
        exact k _ _ (.refl H) (by decide +kernel) (fun z => absurd z (by decide +kernel))
      | some v =>
        refine ifF rfl ?_
        refine ⟨_, rfl, _, x0, _, _, rfl, rfl, h0, a0, rfl, _, rfl, ifF (decide_eq_false (by intro z; have z2 := V.str.inj z; clear z; revert z2; try dsimp only [Act.word]; decide +kernel)) ?_⟩
        refine ⟨_, rfl, _, x0, _, _, rfl, rfl, h0, a0, rfl, _, rfl, ifT (decide_eq_true rfl) ?_⟩
        have hin : (Sum.inr p : Key) ∈ kvs.map (·.1) := List.mem_map.mpr ⟨_, get_some e, rfl⟩
        obtain ⟨fa, ls, g1, g2, g3, g4⟩ := files_get hF hin
        have lo : LOk ls 4 := ⟨g3, g4⟩
        have ef : v = .ref fa := by
          rw [e] at g1
          exact Option.some.inj g1
        subst ef
        obtain ⟨x2, v2, hx2, a2, t2⟩ := hT.ix (i := 2) (d := ldD o) rfl
        obtain ⟨ob, ox, rfl, hob, hox⟩ := t2.tup_inv
        rw [hox.strs_inv] at hob
        obtain ⟨x3, v3, hx3, a3, t3⟩ := hT.ix (i := 3) (d := ldD n) rfl
        obtain ⟨nb, nx, rfl, hnb, hnx⟩ := t3.tup_inv
        rw [hnx.strs_inv] at hnb
        have dg : ∀ {H'}, Same H H' → DGet H' d (.str p) (some (.ref fa)) := fun s' => by
          rw [← e]
          exact DGet.k (k := Sum.inr p) (s' _ _ hF.at_)
        refine ⟨_, rfl, _, rfl, d, _, rfl, dg (.refl H), _, rfl, _, x2, _, _, rfl, rfl, hx2, a2, fa, ob, ls, o, rfl, g2, hob, lo.lns, hA.2.1.lns, fun q H1 s1 hq => ?_⟩
        refine ⟨_, rfl, q, _, rfl, .inl (SqL.of hq), rfl, _, rfl, ?_⟩
        rw [List.length_map]
        by_cases c1 : V.int ((spotsF ls o).length : Int) = V.int 1
        · refine ifF (by rw [decide_eq_true c1] <;> rfl) ?_
          have c1' : ((spotsF ls o).length : Int) = 1 := by injection c1
          have hne : spotsF ls o ≠ [] := fun z => by
            rw [z] at c1'
            exact absurd c1' (by decide)
          refine ⟨_, rfl, _, rfl, d, _, rfl, dg s1, fa, _, rfl, .inr (seqT s1 g2), _, rfl, _, x2, _, _, rfl, rfl, seqT s1 hx2, a2, ob, _, rfl, .inr (seqT s1 hob), _, _, rfl, rfl, _, rfl, _, x3, _, _, rfl, rfl, seqT s1 hx3, a3, nb, _, rfl, .inr (seqT s1 hnb), _, _, rfl, rfl, _, _, rfl, rfl, _, rfl, ?_⟩
          refine ite2 (fun _ => k _ _ s1 (by decide +kernel) (fun z => absurd z (by decide +kernel))) (fun _ => ?_)
          exact k _ _ s1 (by decide +kernel) (fun _ => ⟨fa, ls, e, g2, lo, hne⟩)
        · refine ifT (by rw [decide_eq_false c1] <;> rfl) ?_
          refine ⟨le2, fun p1 hp1 => ⟨_, rfl, le0, fun p2 hp2 => ?_⟩⟩
          have s2 := same_new (o := .lst []) (same_new (o := .lst [.str "ambiguous", .str "absent"]) s1 hp1) hp2
          have m1 := same_new (o := .lst []) (same_new (o := .lst [.str "ambiguous", .str "absent"]) (.refl H1) hp1) hp2
          refine ⟨_, _, .lst (SqL.of (m1 _ _ hq)) (ints_dp (fun k => 0 + (k : Int)) _), .lst (SqL.of upd_same) .nil, (Sh.list (n := 0) (ints_sh _ _)).shaped, (Sh.list (n := 0) sh_nil).shaped, .inr ⟨_, rfl, p1, _, _, _, rfl, rfl, SqL.of (same_new (o := .lst []) (.refl _) hp2 _ _ upd_same), pick2 _, ?_⟩⟩
          refine k _ _ s2 ?_ ?_
          · split <;> decide +kernel
          · intro z
            revert z
            split <;> (intro z; exact absurd z (by decide +kernel))
end
end K23
/-! ### act -/
namespace K23
open PySem PySem.Spec PyProof.Rows L2
theorem Tp.fr' {K : PySem.W.Frag} {b : Addr} {H H' : Hp} (h : Fr b H H') (hb : ∃ kvs, H b = some (.dK kvs)) : Tp K H H' := fun a ys q => by
  obtain ⟨kvs, hb⟩ := hb
  rcases q with (q | ⟨o, q⟩) | q
  · exact .inl (.inl (h _ _ (ne_of q hb (by intro z; cases z)) q))
  · exact .inl (.inr ⟨o, h _ _ (ne_of q hb (by intro z; cases z)) q⟩)
  · exact .inr q
theorem noPart {σ : L2.St} {H : Hp} {Q : Option Int → Hp → Prop} (h : Q none H) : tNoPart σ H Q := h
def fiveV : List V := [.str "read", .str "kind", .str "list", .str "find", .str "count"]
theorem ask_in {A : Act} (h : AskOk A) : inV (.str A.word) fiveV = true := by
  cases A with
  | two w p =>
    rcases h with ⟨rfl, _⟩ | ⟨rfl | rfl | rfl, _⟩
    · show inV (V.str "read") fiveV = true
      decide +kernel
    · show inV (V.str "kind") fiveV = true
      decide +kernel
    · show inV (V.str "list") fiveV = true
      decide +kernel
    · show inV (V.str "count") fiveV = true
      decide +kernel
  | find p x =>
    show inV (V.str "find") fiveV = true
    decide +kernel
  | write p ls => exact h.elim
  | move p q => exact h.elim
  | splice p o n => exact h.elim
theorem deed_in {A : Act} (h : DeedOk A) : inV (.str A.word) fiveV = false := by
  cases A with
  | two w p =>
    obtain ⟨rfl, _⟩ := h
    show inV (V.str "remove") fiveV = false
    decide +kernel
  | find p x => exact h.elim
  | write p ls =>
    show inV (V.str "write") fiveV = false
    decide +kernel
  | move p q =>
    show inV (V.str "move") fiveV = false
    decide +kernel
  | splice p o n =>
    show inV (V.str "splice") fiveV = false
    decide +kernel
section
variable {P : Program} {w : World} {K : PySem.W.Frag} {mg : Str → Option Value} {base : Heap}
def spAct (K : PySem.W.Frag) : Sp := fun vs H Q _ => ∃ (d : Addr) (kvs : List (Key × V)) (a : Addr) (A : Act), vs = [.ref d, .ref a] ∧ Files K H d kvs ∧ TD K H (.ref a) A.d ∧ (AskOk A ∨ DeedOk A) ∧ ∀ l v r H', Same H H' → H' l = some (.lst [v, r]) → AnsAt K H' v → Q (.ref l) H'
def n_act : List Str := ["_law_files_here", "_law_action_here", "_law_refusal_here", "_law_later", "_law_path_here", "_law_lines_here", "_law_at"]
theorem sc_act : FnScope n_act ["_law_files_here", "_law_action_here"] (defScope s__law_act) := ⟨rfl, rfl, rfl, by decide +kernel, rfl, by decide +kernel, by decide +kernel⟩
theorem ok_act (D : DefAt K mg "_law_act" s__law_act) (T : Txt K mg) (c_asked : Cal P w K mg base CX0 3 "_law_asked" (spAsk K)) (c_refusal : Cal P w K mg base CX0 3 "_law_refusal" (spRefu K)) (c_spots : Cal P w K mg base CX0 1 "_law_spots" (spSpots K)) :
    Cal P w K mg base CX0 4 "_law_act" (spAct K) := by
  refine cal0 D sc_act (fun _ _ _ _ _ _ us hl => match us, hl with | [_, _], _ => rfl) (fun vs H Q E h => ?_) (fun f cdv A outer s H vs Q E hr h => ?_)
  · obtain ⟨d, kvs, a, Ac, rfl, _⟩ := h
    rfl
  · obtain ⟨d, kvs, a, Ac, rfl, hF, hT, hA, k⟩ := h
    refine ⟨_, (pss_cons (ps_if (pt_cmpR op_in_seq (pe_ix ix_tup (pv 1) pe_int (fun _ _ => rfl)) (pe_tup (pa_cons pe_str (pa_cons pe_str (pa_cons pe_str (pa_cons pe_str (pa_cons pe_str pa_nil)))))) (by rfl)) (pss_one (ps_ret (pe_lst (pa_cons (pe_c c_asked hr (by decide) (by rfl) (pa_cons (pv 0) (pa_cons (pv 1) pa_nil))) (pa_cons (pv 0) pa_nil))))) pss_nil)
      (pss_cons (ps_set (i := 2) sc_act.nd rfl (Or.inl rfl) (pe_c c_refusal hr (by decide) (by rfl) (pa_cons (pv 0) (pa_cons (pv 1) pa_nil))))
      (pss_cons (ps_if (pt_cmpR op_ne (pv 2) pe_str (nomark _)) (pss_one (ps_ret (pe_lst (pa_cons (pe_tup (pa_cons (pv 2) pa_nil)) (pa_cons (pv 0) pa_nil))))) pss_nil)
      (pss_cons (ps_set (i := 3) sc_act.nd rfl (Or.inl rfl) pe_dnewK)
      (C8.pss_cut (ps_lock (ps_for PassesOwn.never rfl (pi_keys (pv 0)) (pg_name (i := 4) sc_act.nd rfl (Or.inl rfl))
        (pss_one (ps_if (pt_cmpR op_ne (pv 4) (pe_ix ix_tup (pv 1) pe_int (fun _ _ => rfl)) (nomark _)) (pss_one (ps_dput (hu_of hr) (pv 3) (pv 4) (pe_dget (hu_of hr) (pv 0) (pv 4) (fun _ _ => rfl)) rfl)) pss_nil))))
      (pss_cons (ps_if (pt_cmpR op_eq (pe_ix ix_tup (pv 1) pe_int (fun _ _ => rfl)) pe_str (nomark _)) (pss_one (ps_dput (hu_of hr) (pv 3) (pe_ix ix_tup (pv 1) pe_int (fun _ _ => rfl)) (pe_ix ix_tup (pv 1) pe_int (fun _ _ => rfl)) rfl)) pss_nil)
      (pss_cons (ps_if (pt_cmpR op_eq (pe_ix ix_tup (pv 1) pe_int (fun _ _ => rfl)) pe_str (nomark _)) (pss_one (ps_dput (hu_of hr) (pv 3) (pe_ix ix_tup (pv 1) pe_int (fun _ _ => rfl)) (pe_dget (hu_of hr) (pv 0) (pe_ix ix_tup (pv 1) pe_int (fun _ _ => rfl)) (fun _ _ => rfl)) rfl)) pss_nil)
      (pss_cons (ps_if (pt_cmpR op_eq (pe_ix ix_tup (pv 1) pe_int (fun _ _ => rfl)) pe_str (nomark _)) (pss_cons (ps_set (i := 5) sc_act.nd rfl (Or.inl rfl) (pe_dget (hu_of hr) (pv 0) (pe_ix ix_tup (pv 1) pe_int (fun _ _ => rfl)) (fun _ _ => rfl)))
      (pss_cons (ps_set (i := 6) sc_act.nd rfl (Or.inl rfl) (pe_ix ix_list (pe_c c_spots hr (by decide) (by rfl) (pa_cons (pv 5) (pa_cons (pe_ix ix_tup (pv 1) pe_int (fun _ _ => rfl)) pa_nil))) pe_int (fun _ _ => rfl)))
      (pss_one (ps_dput (hu_of hr) (pv 3) (pe_ix ix_tup (pv 1) pe_int (fun _ _ => rfl)) (pe_op op_catA (pe_op op_catA (pe_slice sl_tupA (pv 5) po_none (po_some (pv 6))) (pe_ix ix_tup (pv 1) pe_int (fun _ _ => rfl))) (pe_slice sl_tupA (pv 5) (po_some (pe_op op_add (pv 6) (pe_callB call_len_seq (by rfl) T.len PySem.boot_len (pa_cons (pe_ix ix_tup (pv 1) pe_int (fun _ _ => rfl)) pa_nil)))) po_none)) rfl)))) pss_nil)
      (pss_one (ps_ret (pe_lst (pa_cons (pe_tup (pa_cons pe_str pa_nil)) (pa_cons (pv 3) pa_nil))))))))))))), ?_⟩
    obtain ⟨x0, v0, h0, a0, t0⟩ := hT.ix (Act.it0 _)
    have e0 := t0.str_inv
    subst e0
    obtain ⟨x1, v1, hx1, a1, t1⟩ := hT.ix (Act.it1 _)
    have e1 := t1.str_inv
    subst e1
    refine ⟨_, rfl, _, x0, _, _, rfl, rfl, h0, a0, le5, fun p0 hp0 => ⟨p0, fiveV, rfl, .inr (SqT.of upd_same), rfl, by decide +kernel, _, rfl, ?_⟩⟩
    have s0 := same_new (o := .tup fiveV) (.refl H) hp0
    rcases hA with hA | hA
    · refine ifT (ask_in hA) ?_
      refine ⟨_, rfl, _, rfl, d, kvs, a, Ac, rfl, hF.same s0, hT.mono (.same s0), hA, fun v H1 s1 hv => ⟨_, rfl, le2, fun l hl => ?_⟩⟩
      obtain ⟨x, t, h⟩ := hv
      exact k l v _ _ (same_new (s0.trans s1) hl) upd_same ⟨x, t.mono (.same (same_new (.refl H1) hl)), h⟩
    · refine ifF (deed_in hA) ?_
      refine ⟨_, rfl, _, rfl, d, kvs, a, Ac, rfl, hF.same s0, hT.mono (.same s0), hA, fun s H1 s01 hs hrdy => ?_⟩
      have s1 : Same H H1 := s0.trans s01
      refine ⟨_, rfl, rfl, _, rfl, ?_⟩
      by_cases c : V.str s = V.str ""
      rotate_left
      · refine ifT (by rw [decide_eq_false c] <;> rfl) ?_
        refine ⟨_, rfl, le1, fun p hp => ⟨_, rfl, le2, fun l hl => ?_⟩⟩
        obtain ⟨x, t, h⟩ := AnsAt.one (K := K) hp hs
        exact k l _ _ _ (same_new (same_new s1 hp) hl) upd_same ⟨x, t.mono (.same (same_new (.refl _) hl)), h⟩
      refine ifF (by rw [decide_eq_true c] <;> rfl) ?_
      have es : s = "" := by injection c
      have hR := hrdy es
      refine fun l hl => ?_
      have hF1 := hF.same s1
      have sl : Same H1 (upd H1 l (.dK [])) := same_new (.refl H1) hl
      have hdl : d ≠ l := ne_of_none hF1.at_ hl
      refine ⟨fun σ' H' => ∃ v4 : Option V, σ' = [some (.ref d), some (.ref a), some (.str s), some (.ref l), v4, none, none] ∧ Same H1 H' ∧ ∃ kv2, H' l = some (.dK kv2) ∧ kv2.length ≤ 20, ?_, ?_⟩
      · refine ⟨d, _, sl _ _ hF1.at_, trivial, fun od => ?_⟩
        have hk20 := hF.ok.1
        refine ⟨_, rfl, d, od, rfl, .inl ⟨kvs, upd_same, for_it (walk_keys (kvs := kvs)) (fun i σ H' => ∃ v4 : Option V, σ = [some (.ref d), some (.ref a), some (.str s), some (.ref l), v4, none, none] ∧ Fr l (upd (upd H1 l (.dK [])) d (.frz od (.dK kvs))) H' ∧ ∃ kv2, H' l = some (.dK kv2) ∧ kv2.length ≤ i) ?_ ?_ ?_ ?_⟩⟩
        · refine ⟨none, rfl, .refl _ _, [], ?_, Nat.le_refl _⟩
          rw [upd_ne hdl.symm]
          exact upd_same
        · rintro i σ H' _ ⟨v4, rfl, f', _⟩
          exact f' _ _ hdl upd_same
        · rintro i x σ H2 H3 hi ⟨v4, rfl, f2, kv2, h2, l2⟩ ⟨rfl, k1, w1, hkv, rfl⟩
          obtain ⟨z, e1, hz, _⟩ := hF.ok.2 _ (List.mem_of_getElem? hkv)
          have e1' : k1 = Sum.inr z := e1
          subst e1'
          have hd3 : H3 d = some (.frz od (.dK kvs)) := f2 _ _ hdl upd_same
          have hx3 : SqT K H3 a x1 := by
            have q1 : SqT K (upd (upd H1 l (.dK [])) d (.frz od (.dK kvs))) a x1 := by
              refine tp_dK (sl _ _ hF1.at_) _ _ ?_
              exact seqT (s1.trans sl) hx1
            refine Tp.fr' f2 ?_ _ _ q1
            exact ⟨[], by rw [upd_ne hdl.symm]; exact upd_same⟩
          refine ⟨_, rfl, _, rfl, _, x1, _, _, rfl, rfl, hx3, a1, rfl, _, rfl, ?_⟩
          refine ite2 (fun _ => ?_) (fun _ => ⟨_, rfl, f2, kv2, h2, by omega⟩)
          obtain ⟨v, hv, _⟩ := get_in (kvs := kvs) (k := Sum.inr z) (List.mem_map.mpr ⟨_, List.mem_of_getElem? hkv, rfl⟩)
          refine ⟨_, rfl, _, rfl, d, v, rfl, .inl ⟨kvs, Sum.inr z, .inr ⟨od, hd3⟩, rfl, hv.symm⟩, _, rfl, _, rfl, l, _, rfl, DPut.k (k := Sum.inr z) h2 (sl_lt (by omega)), ?_⟩
          exact ⟨_, rfl, f2.at, _, upd_same, Nat.le_trans len_put (by omega)⟩
        · rintro σ H2 ⟨v4, rfl, f2, kv2, h2, l2⟩
          have hd2 : H2 d = some (.frz od (.dK kvs)) := f2 _ _ hdl upd_same
          refine ⟨hd2, v4, rfl, fun b o e => ?_, kv2, by rw [upd_ne hdl.symm]; exact h2, by omega⟩
          by_cases hb : b = d
          · rw [hb] at e ⊢
            rw [upd_same]
            rw [hF1.at_] at e
            exact e
          · have hbl : b ≠ l := ne_of_none e hl
            rw [upd_ne hb]
            exact f2 b o hbl (by rw [upd_ne hb, upd_ne hbl]; exact e)
      rintro σ2 H2 ⟨v4, rfl, s2, kv2, h2, l2⟩
      have s12 := s1.trans s2
      have fin : ∀ {v4 v5 v6 : Option V} (H3 : Hp), Same H1 H3 → tRet (tLst (tCons (tTup (tCons (tC (.str "done")) tNil)) (tCons (tVar 3) tNil))) { nx := fun _ H' => Q .non H', rt := Q } [some (.ref d), some (.ref a), some (.str s), some (.ref l), v4, v5, v6] H3 := fun H3 s3 =>
        ⟨le1, fun p hp => ⟨_, rfl, le2, fun q hq => by
          obtain ⟨x, t, h⟩ := AnsAt.one (K := K) (x := "done") hp (by decide +kernel)
          exact k q _ _ _ (same_new (same_new (s1.trans s3) hp) hq) upd_same ⟨x, t.mono (.same (same_new (.refl _) hq)), h⟩⟩⟩
      have h02 := seqT s12 h0
      have hx12 := seqT s12 hx1
      have hF2 := hF.same s12
      cases Ac with
      | find p x => exact hA.elim
      | two w p =>
        obtain ⟨rfl, hp⟩ := hA
        refine ⟨_, rfl, _, x0, _, _, rfl, rfl, h02, a0, rfl, _, rfl, ifF (decide_eq_false (by intro z; have z2 := V.str.inj z; clear z; revert z2; try dsimp only [Act.word]; decide +kernel)) ?_⟩
        refine ⟨_, rfl, _, x0, _, _, rfl, rfl, h02, a0, rfl, _, rfl, ifF (decide_eq_false (by intro z; have z2 := V.str.inj z; clear z; revert z2; try dsimp only [Act.word]; decide +kernel)) ?_⟩
        refine ⟨_, rfl, _, x0, _, _, rfl, rfl, h02, a0, rfl, _, rfl, ifF (decide_eq_false (by intro z; have z2 := V.str.inj z; clear z; revert z2; try dsimp only [Act.word]; decide +kernel)) ?_⟩
        exact fin _ s2
      | write p ls =>
        refine ⟨_, rfl, _, x0, _, _, rfl, rfl, h02, a0, rfl, _, rfl, ifT (decide_eq_true rfl) ?_⟩
        obtain ⟨x2, v2, hx2, a2, t2⟩ := hT.ix (i := 2) (d := ldD ls) rfl
        refine ⟨_, rfl, _, x2, _, _, rfl, rfl, seqT s12 hx2, a2, _, rfl, _, rfl, _, x1, _, _, rfl, rfl, hx12, a1, l, _, rfl, DPut.k (k := Sum.inr p) h2 (sl_lt (by omega)), ?_⟩
        have s3 := same_mut (o := .dK (putK kv2 (Sum.inr p) v2)) s2 hl
        refine ⟨_, rfl, _, x0, _, _, rfl, rfl, (seqT (s1.trans s3) h0), a0, rfl, _, rfl, ifF (decide_eq_false (by intro z; have z2 := V.str.inj z; clear z; revert z2; try dsimp only [Act.word]; decide +kernel)) ?_⟩
        refine ⟨_, rfl, _, x0, _, _, rfl, rfl, (seqT (s1.trans s3) h0), a0, rfl, _, rfl, ifF (decide_eq_false (by intro z; have z2 := V.str.inj z; clear z; revert z2; try dsimp only [Act.word]; decide +kernel)) ?_⟩
        exact fin _ s3
      | move p q =>
        refine ⟨_, rfl, _, x0, _, _, rfl, rfl, h02, a0, rfl, _, rfl, ifF (decide_eq_false (by intro z; have z2 := V.str.inj z; clear z; revert z2; try dsimp only [Act.word]; decide +kernel)) ?_⟩
        refine ⟨_, rfl, _, x0, _, _, rfl, rfl, h02, a0, rfl, _, rfl, ifT (decide_eq_true rfl) ?_⟩
        obtain ⟨v, hv⟩ := hR
        obtain ⟨x2, v2, hx2, a2, t2⟩ := hT.ix (i := 2) (d := .str q) rfl
        have e2 := t2.str_inv
        subst e2
        refine ⟨_, rfl, _, rfl, _, x1, _, _, rfl, rfl, hx12, a1, d, v, rfl, (by rw [← hv]; exact DGet.k (k := Sum.inr p) hF2.at_), _, rfl, _, rfl, _, x2, _, _, rfl, rfl, seqT s12 hx2, a2, l, _, rfl, DPut.k (k := Sum.inr q) h2 (sl_lt (by omega)), ?_⟩
        have s3 := same_mut (o := .dK (putK kv2 (Sum.inr q) v)) s2 hl
        refine ⟨_, rfl, _, x0, _, _, rfl, rfl, (seqT (s1.trans s3) h0), a0, rfl, _, rfl, ifF (decide_eq_false (by intro z; have z2 := V.str.inj z; clear z; revert z2; try dsimp only [Act.word]; decide +kernel)) ?_⟩
        exact fin _ s3
      | splice p o n =>
        refine ⟨_, rfl, _, x0, _, _, rfl, rfl, h02, a0, rfl, _, rfl, ifF (decide_eq_false (by intro z; have z2 := V.str.inj z; clear z; revert z2; try dsimp only [Act.word]; decide +kernel)) ?_⟩
        refine ⟨_, rfl, _, x0, _, _, rfl, rfl, h02, a0, rfl, _, rfl, ifF (decide_eq_false (by intro z; have z2 := V.str.inj z; clear z; revert z2; try dsimp only [Act.word]; decide +kernel)) ?_⟩
        refine ⟨_, rfl, _, x0, _, _, rfl, rfl, h02, a0, rfl, _, rfl, ifT (decide_eq_true rfl) ?_⟩
        obtain ⟨fa, ls, g1, g2, g3, g4⟩ := hR
        have g2' := seqT (s01.trans s2) g2
        obtain ⟨x2, v2, hx2, a2, t2⟩ := hT.ix (i := 2) (d := ldD o) rfl
        obtain ⟨ob, ox, rfl, hob, hox⟩ := t2.tup_inv
        rw [hox.strs_inv] at hob
        obtain ⟨x3, v3, hx3, a3, t3⟩ := hT.ix (i := 3) (d := ldD n) rfl
        obtain ⟨nb, nx, rfl, hnb, hnx⟩ := t3.tup_inv
        rw [hnx.strs_inv] at hnb
        refine ⟨_, rfl, _, rfl, _, x1, _, _, rfl, rfl, hx12, a1, d, .ref fa, rfl, (by rw [← g1]; exact DGet.k (k := Sum.inr p) hF2.at_), ?_⟩
        obtain ⟨k0, kr, ek⟩ := List.exists_cons_of_ne_nil g4
        refine ⟨_, rfl, _, rfl, _, x2, _, _, rfl, rfl, seqT s12 hx2, a2, fa, ob, ls, o, rfl, g2', seqT s12 hob, g3.lns, hA.2.1.lns, fun q H3 s3 hq => ⟨q, _, 0, .int (0 + (k0 : Nat)), rfl, rfl, SqL.of hq, (by rw [ek]; exact atI_nat (j := 0) rfl), ?_⟩⟩
        have s13 := s12.trans s3
        have lcat : ∀ lo hi, (cutV (ls.map V.str) lo hi).length ≤ 4 := fun lo hi => by
          have := cutV_length (ls.map V.str) lo hi
          rw [List.length_map] at this
          have := g3.1
          omega
        have ln := hA.2.2.2.1
        refine ⟨_, rfl, _, rfl, _, rfl, ?_⟩
        refine sl_any (seqT s3 g2') fun pa H4 s4 hpa => ?_
        refine ⟨_, rfl, _, x3, _, _, rfl, rfl, seqT (s13.trans s4) hx3, a3, ?_⟩
        refine cat_any hpa (seqT (s13.trans s4) hnb) (by have := lcat none (some (0 + (k0 : Nat))); rw [List.length_map]; omega) fun pb H5 s5 hpb => ?_
        have s14 := s13.trans (s4.trans s5)
        refine ⟨_, rfl, _, rfl, _, rfl, _, x2, _, _, rfl, rfl, seqT s14 hx2, a2, ob, _, rfl, .inr (seqT s14 hob), _, _, rfl, rfl, _, rfl, ?_⟩
        refine noPart ?_
        refine sl_any (seqT (s3.trans (s4.trans s5)) g2') fun pc H6 s6 hpc => ?_
        refine cat_any (seqT s6 hpb) hpc ?_ fun pd H7 s7 hpd => ?_
        · rw [List.length_append, List.length_map]
          have e1 := lcat none (some (0 + (k0 : Nat)))
          have e2 := lcat (some (0 + ((k0 : Nat) : Int) + (((o.map V.str).length : Nat) : Int))) none
          omega
        have s27 : Same H2 H7 := s3.trans (s4.trans (s5.trans (s6.trans s7)))
        have s17 : Same H1 H7 := s2.trans s27
        refine ⟨_, rfl, _, rfl, _, x1, _, _, rfl, rfl, seqT (s12.trans s27) hx1, a1, l, _, rfl, DPut.k (k := Sum.inr p) (s27 _ _ h2) (sl_lt (by omega)), ?_⟩
        exact fin _ (same_mut s17 hl)
end
end K23
/-! ### actions as the law draws them -/
namespace K23
open PySem PySem.Spec PyProof.Rows L2
theorem eqv_nil : PyData.eqv (.list []) (.list []) = true := by simp only [PyData.eqv, PyData.eqvAll]
theorem strs_dp {K : PySem.W.Frag} {H : Hp} : ∀ (ws : List Str), DpAll K H (ws.map V.str) (ws.map PyData.str)
  | [] => .nil
  | _ :: r => .cons (.str _) (strs_dp r)
def qwords : List Str := ["read", "kind", "list", "find", "count"]
def dwords : List Str := ["write", "write", "remove", "move", "splice", "splice"]
section
variable {P : Program} {w : World} {K : PySem.W.Frag} {mg : Str → Option Value} {base : Heap}
def spSome (K : PySem.W.Frag) : Sp := fun vs H Q _ => ∃ (b dl d : Addr) (kvs : List (Key × V)), vs = [.ref b, .ref d] ∧ BoxAt H b dl ∧ Files K H d kvs ∧ ∀ p H', PathOk p → Bx b dl H H' → Q (.str p) H'
def n_some : List Str := ["_law_box", "_law_files_here", "_law_paths"]
theorem sc_some : FnScope n_some ["_law_box", "_law_files_here"] (defScope s__law_some_path) := ⟨rfl, rfl, rfl, by decide +kernel, rfl, by decide +kernel, by decide +kernel⟩
theorem ok_some (D : DefAt K mg "_law_some_path" s__law_some_path) (T : Txt K mg) (c_draw : Cal P w K mg base CX0 1 "_law_draw" spDraw) (c_path : Cal P w K mg base CX0 2 "_law_path" spPth) : Cal P w K mg base CX0 3 "_law_some_path" (spSome K) := by
  refine cal0 D sc_some (fun _ _ _ _ _ _ us hl => match us, hl with | [_, _], _ => rfl) (fun vs H Q E h => ?_) (fun f cdv A outer s H vs Q E hr h => ?_)
  · obtain ⟨b, dl, d, kvs, rfl, _⟩ := h
    rfl
  · obtain ⟨b, dl, d, kvs, rfl, hB, hF, k⟩ := h
    refine ⟨_, (pss_cons (ps_set (i := 2) sc_some.nd rfl (Or.inl rfl) (pe_callB (call_sortedD rfl) (by rfl) T.sorted (by decide +kernel) (pa_cons (pv 1) pa_nil)))
      (pss_cons (ps_if (PW.pt (pw_and (pt_cmpR (op_neD hr.units) (pv 2) (pe_lst pa_nil) (nomark _)) (pw_and1 (pt_cmpR op_gt (pe_c c_draw hr (by decide) (by rfl) (pa_cons (pv 0) (pa_cons pe_int pa_nil))) pe_int (nomark _))))) (pss_one (ps_ret (pe_ix ix_list (pv 2) (pe_c c_draw hr (by decide) (by rfl) (pa_cons (pv 0) (pa_cons (pe_callB call_len_seq (by rfl) T.len PySem.boot_len (pa_cons (pv 2) pa_nil)) pa_nil))) (fun _ _ => rfl)))) pss_nil)
      (pss_one (ps_ret (pe_c c_path hr (by decide) (by rfl) (pa_cons (pv 0) pa_nil)))))), ?_⟩
    obtain ⟨ks, hks, hkp⟩ := kvs_keys hF.ok.2
    have hk := hF.ok.1
    have hkl : ks.length = kvs.length := by
      have := congrArg List.length hks
      rw [List.length_map, List.length_map] at this
      exact this.symm
    refine ⟨_, rfl, d, kvs, ks, rfl, .inl hF.at_, hks, by omega, fun ys l hperm _ hl => ?_⟩
    have s1 : Same H (upd H l (.lst (ys.map V.str))) := same_new (.refl H) hl
    have x1 : Bx b dl H (upd H l (.lst (ys.map V.str))) := Bx.of hB s1
    have hlb : l ≠ b := (hB.ne hl).1
    have hy : ∀ y ∈ ys, PathOk y := fun y m => hkp y (hperm.mem_iff.mp m)
    have hyl : ys.length ≤ 20 := by rw [hperm.length_eq]; omega
    refine ⟨_, rfl, le0, fun l0 hl0 => ?_⟩
    have s2 := same_new (o := .lst []) s1 hl0
    have x2 : Bx b dl H (upd (upd H l (.lst (ys.map V.str))) l0 (.lst [])) := Bx.of hB s2
    have hl2 : upd (upd H l (.lst (ys.map V.str))) l0 (.lst []) l = some (.lst (ys.map V.str)) := same_new (.refl _) hl0 _ _ upd_same
    refine ⟨_, _, .lst (SqL.of hl2) (strs_dp ys), .lst (SqL.of upd_same) .nil, (Sh.list (n := 0) (sh_strs fun y m => (path_T y (hy y m)).2)).shaped, (Sh.list (n := 0) sh_nil).shaped, _, rfl, ?_⟩
    generalize upd (upd H l (.lst (ys.map V.str))) l0 (.lst []) = H2 at *
    have other : ∀ {H'}, Bx b dl H H' → tRet (tCall spPth [] E0 (tCons (tVar 0) tNil)) { nx := fun _ H' => Q .non H', rt := Q } [some (.ref b), some (.ref d), some (.ref l)] H' := fun x => ⟨_, rfl, b, dl, rfl, x.b1, fun p H3 hp x3 => k p _ hp (x.trans x3)⟩
    cases ys with
    | nil =>
      refine ifF (by show (!PyData.eqv (.list []) (.list [])) = false; rw [eqv_nil] <;> rfl) ?_
      exact iteF (other x2)
    | cons y0 yr =>
      refine ite2 (fun _ => ?_) (fun _ => iteF (other x2))
      refine ⟨_, rfl, b, dl, 4, rfl, x2.b1, by decide, fun r H3 _ _ x3 => ⟨_, _, rfl, rfl, _, rfl, ?_⟩⟩
      have x23 := x2.trans x3
      refine ite2 (fun _ => ?_) (fun _ => other x23)
      have hl3 := x3.get hlb hl2
      refine ⟨_, rfl, _, rfl, _, rfl, l, _, rfl, .inl (SqL.of hl3), b, dl, _, rfl, x23.b1, by rw [List.length_map, List.length_cons]; omega, fun r H4 r0 r1 x4 => ?_⟩
      rw [List.length_map] at r1
      obtain ⟨p, hp, ep⟩ := menuS (ws := y0 :: yr) r0 r1
      exact ⟨l, _, r, _, rfl, rfl, SqL.of (x4.get hlb hl3), ep, k p _ (hy p hp) (x23.trans x4)⟩
def spPl (K : PySem.W.Frag) : Sp := fun vs H Q _ => ∃ (b dl d : Addr) (kvs : List (Key × V)), vs = [.ref b, .ref d] ∧ BoxAt H b dl ∧ Files K H d kvs ∧ ∀ p H', PlaceOk p → Bx b dl H H' → Q (.str p) H'
theorem cut2 (ws : List Str) : cutV (ws.map V.str) none (some 2) = (ws.take 2).map V.str := by
  unfold cutV
  have e : HT.sIx (ws.map V.str).length (ws.map V.str).length (some (2 : Int)) = min 2 (ws.map V.str).length := HT.sIx_nat _ _ 2
  rw [e, HT.sIx_none, List.drop_zero, Nat.sub_zero, List.map_take]
  rcases Nat.le_total 2 (ws.map V.str).length with h | h
  · rw [Nat.min_eq_left h]
  · rw [Nat.min_eq_right h, List.take_length, List.take_of_length_le h]
def n_pl : List Str := ["_law_box", "_law_files_here", "_law_path_here", "_law_parts"]
theorem sc_pl : FnScope n_pl ["_law_box", "_law_files_here"] (defScope s__law_place) := ⟨rfl, rfl, rfl, by decide +kernel, rfl, by decide +kernel, by decide +kernel⟩
theorem ok_pl (D : DefAt K mg "_law_place" s__law_place) (T : Txt K mg) (c_draw : Cal P w K mg base CX0 1 "_law_draw" spDraw) (c_some_path : Cal P w K mg base CX0 3 "_law_some_path" (spSome K)) : Cal P w K mg base CX0 4 "_law_place" (spPl K) := by
  refine cal0 D sc_pl (fun _ _ _ _ _ _ us hl => match us, hl with | [_, _], _ => rfl) (fun vs H Q E h => ?_) (fun f cdv A outer s H vs Q E hr h => ?_)
  · obtain ⟨b, dl, d, kvs, rfl, _⟩ := h
    rfl
  · obtain ⟨b, dl, d, kvs, rfl, hB, hF, k⟩ := h
    refine ⟨_, (C8.pss_cut (ps_set (i := 2) sc_pl.nd rfl (Or.inl rfl) (pe_c c_some_path hr (by decide) (by rfl) (pa_cons (pv 0) (pa_cons (pv 1) pa_nil))))
      (pss_cons (ps_set (i := 3) sc_pl.nd rfl (Or.inl rfl) (pe_split (pv 2) pe_str))
      (pss_one (ps_ret (pe_ix ix_list (pe_lst (pa_cons pe_str (pa_cons (pv 2) (pa_cons (pe_ix ix_list (pv 3) pe_int (fun _ _ => rfl)) (pa_cons (pe_join pe_str (pe_slice sl_list (pv 3) po_none (po_some pe_int))) pa_nil))))) (pe_c c_draw hr (by decide) (by rfl) (pa_cons (pv 0) (pa_cons pe_int pa_nil))) (fun _ _ => rfl)))))), ?_⟩
    refine ⟨fun σ' H' => ∃ p : Str, PathOk p ∧ σ' = [some (.ref b), some (.ref d), some (.str p), none] ∧ Bx b dl H H', ⟨_, rfl, _, rfl, b, dl, d, kvs, rfl, hB, hF, fun p H1 hp x1 => ⟨p, hp, rfl, x1⟩⟩, ?_⟩
    rintro σ1 H1 ⟨p, hp, rfl, x1⟩
    have lp := path_l p hp
    refine ⟨_, rfl, ⟨_, rfl⟩, _, _, rfl, rfl, rfl, sl_le (by omega), fun l hl => ?_⟩
    have e0 : Txt.split p "/" = partsS p := rfl
    rw [e0]
    have x2 : Bx b dl H (upd H1 l (.lst ((partsS p).map V.str))) := x1.new hl
    have hlb : l ≠ b := (x1.b1.ne hl).1
    obtain ⟨n1, n3⟩ := path_n p hp
    obtain ⟨z, hz, ez⟩ := menuS (ws := partsS p) (r := 0) (by decide) (by omega)
    have hpp := path_p p hp
    refine ⟨_, rfl, _, rfl, l, _, 0, _, rfl, rfl, SqL.of upd_same, ez, ?_⟩
    refine ⟨⟨_, rfl⟩, _, rfl, 2, rfl, l, _, rfl, SqL.of upd_same, fun l2 hl2 => ?_⟩
    rw [cut2]
    refine ⟨_, l2, (partsS p).take 2, rfl, rfl, .inl (SqL.of upd_same), ?_, le4, fun m hm => ?_⟩
    · have e := sum_len (ws := (partsS p).take 2) (n := 20) fun x hx => path_l x (hpp x (List.mem_of_mem_take hx))
      have e2 : ((partsS p).take 2).length ≤ 2 := by rw [List.length_take]; omega
      show (((partsS p).take 2).map (·.length)).sum + ((partsS p).take 2).length * 1 ≤ 16777216
      omega
    have hmb : m ≠ b := (((x2.new hl2)).b1.ne hm).1
    refine ⟨_, rfl, b, dl, 4, rfl, ((x2.new hl2).new hm).b1, by decide, fun r H3 r0 r4 x3 => ?_⟩
    have h3 := x3.get hmb upd_same
    obtain ⟨y, hy, ey⟩ := menuS (ws := ["", p, z, place2 p]) r0 r4
    refine ⟨m, _, r, _, rfl, rfl, SqL.of h3, ey, k y _ ?_ (((x2.new hl2).new hm).trans x3)⟩
    simp only [List.mem_cons, List.not_mem_nil, or_false] at hy
    rcases hy with rfl | rfl | rfl | rfl
    · exact .inl rfl
    · exact .inr hp
    · exact .inr (hpp _ hz)
    · exact .inr (path_2 p hp)
def spQue (K : PySem.W.Frag) : Sp := fun vs H Q _ => ∃ (b dl d : Addr) (kvs : List (Key × V)), vs = [.ref b, .ref d] ∧ BoxAt H b dl ∧ Files K H d kvs ∧ ∀ p A H', TD K H' (.ref p) (Act.d A) → AskOk A → Bx b dl H H' → Q (.ref p) H'
def n_que : List Str := ["_law_box", "_law_files_here", "_law_word"]
theorem sc_que : FnScope n_que ["_law_box", "_law_files_here"] (defScope s__law_question) := ⟨rfl, rfl, rfl, by decide +kernel, rfl, by decide +kernel, by decide +kernel⟩
theorem ok_que (D : DefAt K mg "_law_question" s__law_question) (T : Txt K mg) (c_draw : Cal P w K mg base CX0 1 "_law_draw" spDraw) (c_some_path : Cal P w K mg base CX0 3 "_law_some_path" (spSome K)) (c_place : Cal P w K mg base CX0 4 "_law_place" (spPl K)) :
    Cal P w K mg base CX0 5 "_law_question" (spQue K) := by
  refine cal0 D sc_que (fun _ _ _ _ _ _ us hl => match us, hl with | [_, _], _ => rfl) (fun vs H Q E h => ?_) (fun f cdv A outer s H vs Q E hr h => ?_)
  · obtain ⟨b, dl, d, kvs, rfl, _⟩ := h
    rfl
  · obtain ⟨b, dl, d, kvs, rfl, hB, hF, k⟩ := h
    refine ⟨_, (C8.pss_cut (ps_set (i := 2) sc_que.nd rfl (Or.inl rfl) (pe_ix ix_list (pe_lst (pa_cons pe_str (pa_cons pe_str (pa_cons pe_str (pa_cons pe_str (pa_cons pe_str pa_nil)))))) (pe_c c_draw hr (by decide) (by rfl) (pa_cons (pv 0) (pa_cons pe_int pa_nil))) (fun _ _ => rfl)))
      (pss_cons (ps_if (pt_cmpR op_eq (pv 2) pe_str (nomark _)) (pss_one (ps_ret (pe_tup (pa_cons pe_str (pa_cons (pe_c c_some_path hr (by decide) (by rfl) (pa_cons (pv 0) (pa_cons (pv 1) pa_nil))) pa_nil))))) pss_nil)
      (pss_cons (ps_if (pt_cmpR op_eq (pv 2) pe_str (nomark _)) (pss_one (ps_ret (pe_tup (pa_cons pe_str (pa_cons (pe_c c_place hr (by decide) (by rfl) (pa_cons (pv 0) (pa_cons (pv 1) pa_nil))) (pa_cons (pe_ix ix_list (pe_lst (pa_cons pe_str (pa_cons pe_str (pa_cons pe_str (pa_cons pe_str (pa_cons pe_str pa_nil)))))) (pe_c c_draw hr (by decide) (by rfl) (pa_cons (pv 0) (pa_cons pe_int pa_nil))) (fun _ _ => rfl)) pa_nil)))))) pss_nil)
      (pss_one (ps_ret (pe_tup (pa_cons (pv 2) (pa_cons (pe_c c_place hr (by decide) (by rfl) (pa_cons (pv 0) (pa_cons (pv 1) pa_nil))) pa_nil)))))))), ?_⟩
    refine ⟨fun σ' H' => ∃ x : Str, x ∈ qwords ∧ σ' = [some (.ref b), some (.ref d), some (.str x)] ∧ Bx b dl H H', ?_, ?_⟩
    · refine ⟨le5, fun p0 hp0 => ⟨_, rfl, b, dl, 5, rfl, ((Bx.refl hB).new hp0).b1, by decide, fun r H1 r0 r5 x1 => ?_⟩⟩
      obtain ⟨x, hx, ex⟩ := menuS (ws := qwords) r0 r5
      exact ⟨p0, _, r, _, rfl, rfl, SqL.of (x1.get (hB.ne hp0).1 upd_same), ex, x, hx, rfl, ((Bx.refl hB).new hp0).trans x1⟩
    rintro σ1 H1 ⟨x, hx, rfl, x1⟩
    have hF1 := hF.bx x1
    have plain : ∀ y : Str, (y = "kind" ∨ y = "list" ∨ y = "count") → tRet (tTup (tCons (tVar 2) (tCons (tCall (spPl K) [] E0 (tCons (tVar 0) (tCons (tVar 1) tNil))) tNil))) { nx := fun _ H' => Q .non H', rt := Q } [some (.ref b), some (.ref d), some (.str y)] H1 := fun y hy => by
      refine ⟨_, rfl, _, rfl, _, rfl, b, dl, d, kvs, rfl, x1.b1, hF1, fun p H2 hp x2 => ⟨le2, fun q hq => ?_⟩⟩
      exact k q (.two y p) _ (TD.new_tup hq (.cons (.str y) (.cons (.str p) .nil))) (.inr ⟨hy, hp⟩) ((x1.trans x2).new hq)
    simp only [qwords, List.mem_cons, List.not_mem_nil, or_false] at hx
    rcases hx with rfl | rfl | rfl | rfl | rfl
    · refine ⟨_, rfl, rfl, _, rfl, ifT (by decide +kernel) ?_⟩
      refine ⟨_, rfl, _, rfl, b, dl, d, kvs, rfl, x1.b1, hF1, fun p H2 hp x2 => ⟨le2, fun q hq => ?_⟩⟩
      exact k q (.two "read" p) _ (TD.new_tup hq (.cons (.str _) (.cons (.str p) .nil))) (.inl ⟨rfl, hp⟩) ((x1.trans x2).new hq)
    · refine ⟨_, rfl, rfl, _, rfl, ifF (by decide +kernel) ?_⟩
      refine ⟨_, rfl, rfl, _, rfl, ifF (by decide +kernel) ?_⟩
      exact plain _ (.inl rfl)
    · refine ⟨_, rfl, rfl, _, rfl, ifF (by decide +kernel) ?_⟩
      refine ⟨_, rfl, rfl, _, rfl, ifF (by decide +kernel) ?_⟩
      exact plain _ (.inr (.inl rfl))
    · refine ⟨_, rfl, rfl, _, rfl, ifF (by decide +kernel) ?_⟩
      refine ⟨_, rfl, rfl, _, rfl, ifT (by decide +kernel) ?_⟩
      refine ⟨_, rfl, _, rfl, b, dl, d, kvs, rfl, x1.b1, hF1, fun p H2 hp x2 => ⟨le5, fun p0 hp0 => ⟨_, rfl, b, dl, 5, rfl, (x2.new hp0).b1, by decide, fun r H3 r0 r5 x3 => ?_⟩⟩⟩
      obtain ⟨y, hy, ey⟩ := menuS (ws := words5) r0 r5
      refine ⟨p0, _, r, _, rfl, rfl, SqL.of (x3.get (x2.b1.ne hp0).1 upd_same), ey, le3, fun q hq => ?_⟩
      exact k q (.find p y) _ (TD.new_tup hq (.cons (.str _) (.cons (.str p) (.cons (.str y) .nil)))) ⟨hp, hy⟩ ((x1.trans ((x2.new hp0).trans x3)).new hq)
    · refine ⟨_, rfl, rfl, _, rfl, ifF (by decide +kernel) ?_⟩
      refine ⟨_, rfl, rfl, _, rfl, ifF (by decide +kernel) ?_⟩
      exact plain _ (.inr (.inr rfl))
end
end K23
/-! ### deeds, actions -/
namespace K23
open PySem PySem.Spec PyProof.Rows L2
theorem cutL_len {ls : List Str} {k m : Nat} (hk : k < ls.length) (hm : 1 ≤ m) : 1 ≤ (cutL ls k m).length ∧ (cutL ls k m).length ≤ m := by
  unfold cutL
  rw [List.length_take, List.length_drop]
  omega
theorem cutL_mem {ls : List Str} {k m : Nat} {x : Str} (h : x ∈ cutL ls k m) : x ∈ ls := List.mem_of_mem_drop (List.mem_of_mem_take h)
section
variable {P : Program} {w : World} {K : PySem.W.Frag} {mg : Str → Option Value} {base : Heap}
def spPart (K : PySem.W.Frag) : Sp := fun vs H Q _ => ∃ (b dl a : Addr) (ls : List Str), vs = [.ref b, .ref a] ∧ BoxAt H b dl ∧ SqT K H a (ls.map V.str) ∧ LOk ls 4 ∧ ∀ p o H', SqT K H' p (o.map V.str) → LOk o 4 → 1 ≤ o.length → Bx b dl H H' → Q (.ref p) H'
def n_part : List Str := ["_law_box", "_law_lines_here", "_law_at"]
theorem sc_part : FnScope n_part ["_law_box", "_law_lines_here"] (defScope s__law_part) := ⟨rfl, rfl, rfl, by decide +kernel, rfl, by decide +kernel, by decide +kernel⟩
theorem ok_part (D : DefAt K mg "_law_part" s__law_part) (T : Txt K mg) (c_draw : Cal P w K mg base CX0 1 "_law_draw" spDraw) (c_line : Cal P w K mg base CX0 2 "_law_line" spLn) : Cal P w K mg base CX0 3 "_law_part" (spPart K) := by
  refine cal0 D sc_part (fun _ _ _ _ _ _ us hl => match us, hl with | [_, _], _ => rfl) (fun vs H Q E h => ?_) (fun f cdv A outer s H vs Q E hr h => ?_)
  · obtain ⟨b, dl, a, ls, rfl, _⟩ := h
    rfl
  · obtain ⟨b, dl, a, ls, rfl, hB, hA, hl, k⟩ := h
    refine ⟨_, (pss_cons (ps_if (PW.pt (pw_and (pt_cmpR op_gt (pe_callB call_len_seq (by rfl) T.len PySem.boot_len (pa_cons (pv 1) pa_nil)) pe_int (nomark _)) (pw_and1 (pt_cmpR op_gt (pe_c c_draw hr (by decide) (by rfl) (pa_cons (pv 0) (pa_cons pe_int pa_nil))) pe_int (nomark _))))) (pss_cons (ps_set (i := 2) sc_part.nd rfl (Or.inl rfl) (pe_c c_draw hr (by decide) (by rfl) (pa_cons (pv 0) (pa_cons (pe_callB call_len_seq (by rfl) T.len PySem.boot_len (pa_cons (pv 1) pa_nil)) pa_nil))))
      (pss_one (ps_ret (pe_slice sl_tupA (pv 1) (po_some (pv 2)) (po_some (pe_op op_add (pe_op op_add (pv 2) pe_int) (pe_c c_draw hr (by decide) (by rfl) (pa_cons (pv 0) (pa_cons pe_int pa_nil))))))))) pss_nil)
      (pss_one (ps_ret (pe_tup (pa_cons (pe_c c_line hr (by decide) (by rfl) (pa_cons (pv 0) pa_nil)) pa_nil))))), ?_⟩
    have other : ∀ {H'}, Bx b dl H H' → tRet (tTup (tCons (tCall spLn [] E0 (tCons (tVar 0) tNil)) tNil)) { nx := fun _ H' => Q .non H', rt := Q } [some (.ref b), some (.ref a), none] H' := fun x => by
      refine ⟨_, rfl, b, dl, rfl, x.b1, fun l H3 hl3 x3 => ⟨le1, fun p hp => ?_⟩⟩
      exact k p [l] _ (SqT.of upd_same) ⟨by show 1 ≤ 4; decide, fun y hy => by rw [List.mem_singleton.mp hy]; exact hl3⟩ (Nat.le_refl 1) ((x.trans x3).new hp)
    have x0 := Bx.refl hB
    refine ⟨_, rfl, a, _, rfl, .inr hA, _, _, rfl, rfl, _, rfl, ?_⟩
    rw [List.length_map]
    by_cases c1 : (0 : Int) < (ls.length : Int)
    rotate_left
    · refine ifF (decide_eq_false c1) ?_
      exact iteF (other x0)
    refine ifT (decide_eq_true c1) ?_
    refine ⟨_, rfl, b, dl, 5, rfl, hB, by decide, fun r H1 _ _ x1 => ⟨_, _, rfl, rfl, _, rfl, ?_⟩⟩
    refine ite2 (fun _ => ?_) (fun _ => other x1)
    refine ⟨_, rfl, _, rfl, a, _, rfl, .inr (x1.tp _ _ hA), b, dl, _, rfl, x1.b1, by rw [List.length_map]; omega, fun k0 H2 k00 k01 x2 => ?_⟩
    rw [List.length_map] at k01
    have x12 := x1.trans x2
    obtain ⟨n, rfl⟩ := Int.eq_ofNat_of_zero_le k00
    refine ⟨_, rfl, _, rfl, _, rfl, _, rfl, _, _, rfl, rfl, _, rfl, b, dl, 2, rfl, x12.b1, by decide, fun r H3 r0 r2 x3 => ⟨_, _, rfl, rfl, _, rfl, ?_⟩⟩
    obtain ⟨m, rfl⟩ := Int.eq_ofNat_of_zero_le r0
    have e : ((n : Int) + 1) + (m : Int) = ((n + (1 + m) : Nat) : Int) := by omega
    have hn : n < ls.length := by omega
    refine sl_any ((x12.trans x3).tp _ _ hA) fun p H4 s4 hp => ?_
    rw [e, cutV_map] at hp
    obtain ⟨l1, l2⟩ := cutL_len (ls := ls) (m := 1 + m) hn (by omega)
    exact k p _ _ hp ⟨by omega, fun y hy => hl.2 y (cutL_mem hy)⟩ l1 ((x12.trans x3).same s4)
theorem LsAt.sq {H : Hp} {p : Addr} {n : Nat} (h : LsAt K H (.ref p) n) : ∃ ls : List Str, SqT K H p (ls.map V.str) ∧ LOk ls n := by
  obtain ⟨ls, h1, h2, h3⟩ := h
  obtain ⟨a, xs, e, h4, h5⟩ := h1.tup_inv
  cases e
  rw [h5.strs_inv] at h4
  exact ⟨ls, h4, h2, h3⟩
def spDeed (K : PySem.W.Frag) : Sp := fun vs H Q _ => ∃ (b dl d : Addr) (kvs : List (Key × V)), vs = [.ref b, .ref d] ∧ BoxAt H b dl ∧ Files K H d kvs ∧ ∀ p A H', TD K H' (.ref p) (Act.d A) → DeedOk A → Bx b dl H H' → Q (.ref p) H'
def n_deed : List Str := ["_law_box", "_law_files_here", "_law_word", "_law_path_here", "_law_lines_here"]
theorem sc_deed : FnScope n_deed ["_law_box", "_law_files_here"] (defScope s__law_deed) := ⟨rfl, rfl, rfl, by decide +kernel, rfl, by decide +kernel, by decide +kernel⟩
theorem ok_deed (D : DefAt K mg "_law_deed" s__law_deed) (T : Txt K mg) (c_draw : Cal P w K mg base CX0 1 "_law_draw" spDraw) (c_some_path : Cal P w K mg base CX0 3 "_law_some_path" (spSome K)) (c_lines : Cal P w K mg base CX0 3 "_law_lines" (spLns K)) (c_part : Cal P w K mg base CX0 3 "_law_part" (spPart K)) :
    Cal P w K mg base CX0 4 "_law_deed" (spDeed K) := by
  refine cal0 D sc_deed (fun _ _ _ _ _ _ us hl => match us, hl with | [_, _], _ => rfl) (fun vs H Q E h => ?_) (fun f cdv A outer s H vs Q E hr h => ?_)
  · obtain ⟨b, dl, d, kvs, rfl, _⟩ := h
    rfl
  · obtain ⟨b, dl, d, kvs, rfl, hB, hF, k⟩ := h
    refine ⟨_, (C8.pss_cut (ps_set (i := 2) sc_deed.nd rfl (Or.inl rfl) (pe_ix ix_list (pe_lst (pa_cons pe_str (pa_cons pe_str (pa_cons pe_str (pa_cons pe_str (pa_cons pe_str (pa_cons pe_str pa_nil))))))) (pe_c c_draw hr (by decide) (by rfl) (pa_cons (pv 0) (pa_cons pe_int pa_nil))) (fun _ _ => rfl)))
      (C8.pss_cut (ps_set (i := 3) sc_deed.nd rfl (Or.inl rfl) (pe_c c_some_path hr (by decide) (by rfl) (pa_cons (pv 0) (pa_cons (pv 1) pa_nil))))
      (pss_cons (ps_if (pt_cmpR op_eq (pv 2) pe_str (nomark _)) (pss_one (ps_ret (pe_tup (pa_cons pe_str (pa_cons (pv 3) (pa_cons (pe_c c_lines hr (by decide) (by rfl) (pa_cons (pv 0) (pa_cons pe_int pa_nil))) pa_nil)))))) pss_nil)
      (pss_cons (ps_if (pt_cmpR op_eq (pv 2) pe_str (nomark _)) (pss_one (ps_ret (pe_tup (pa_cons pe_str (pa_cons (pv 3) pa_nil))))) pss_nil)
      (pss_cons (ps_if (pt_cmpR op_eq (pv 2) pe_str (nomark _)) (pss_one (ps_ret (pe_tup (pa_cons pe_str (pa_cons (pv 3) (pa_cons (pe_c c_some_path hr (by decide) (by rfl) (pa_cons (pv 0) (pa_cons pe_dnewK pa_nil))) pa_nil)))))) pss_nil)
      (pss_cons (ps_set (i := 4) sc_deed.nd rfl (Or.inl rfl) (pe_tup pa_nil))
      (C8.pss_cut (ps_if (pt_cmp (pc_din (hu_of hr) (pv 3) (pv 1))) (pss_one (ps_set (i := 4) sc_deed.nd rfl (Or.inl rfl) (pe_dget (hu_of hr) (pv 1) (pv 3) (fun _ _ => rfl)))) pss_nil)
      (pss_one (ps_ret (pe_tup (pa_cons pe_str (pa_cons (pv 3) (pa_cons (pe_c c_part hr (by decide) (by rfl) (pa_cons (pv 0) (pa_cons (pv 4) pa_nil))) (pa_cons (pe_c c_lines hr (by decide) (by rfl) (pa_cons (pv 0) (pa_cons pe_int pa_nil))) pa_nil)))))))))))))), ?_⟩
    refine ⟨fun σ' H' => ∃ x : Str, x ∈ dwords ∧ σ' = [some (.ref b), some (.ref d), some (.str x), none, none] ∧ Bx b dl H H', ?_, ?_⟩
    · refine ⟨sl_le (by show 6 ≤ 100000; decide), fun p0 hp0 => ⟨_, rfl, b, dl, 6, rfl, ((Bx.refl hB).new hp0).b1, by decide, fun r H1 r0 r5 x1 => ?_⟩⟩
      obtain ⟨x, hx, ex⟩ := menuS (ws := dwords) r0 r5
      exact ⟨p0, _, r, _, rfl, rfl, SqL.of (x1.get (hB.ne hp0).1 upd_same), ex, x, hx, rfl, ((Bx.refl hB).new hp0).trans x1⟩
    rintro σ1 H1 ⟨x, hx, rfl, x1⟩
    refine ⟨fun σ' H' => ∃ p : Str, PathOk p ∧ σ' = [some (.ref b), some (.ref d), some (.str x), some (.str p), none] ∧ Bx b dl H H', ⟨_, rfl, _, rfl, b, dl, d, kvs, rfl, x1.b1, hF.bx x1, fun p H2 hp x2 => ⟨p, hp, rfl, x1.trans x2⟩⟩, ?_⟩
    rintro σ2 H2 ⟨p, hp, rfl, x2⟩
    have hF2 := hF.bx x2
    simp only [dwords, List.mem_cons, List.not_mem_nil, or_false] at hx
    have hx' : x = "write" ∨ x = "remove" ∨ x = "move" ∨ x = "splice" := by
      rcases hx with h | h | h | h | h | h
      · exact .inl h
      · exact .inl h
      · exact .inr (.inl h)
      · exact .inr (.inr (.inl h))
      · exact .inr (.inr (.inr h))
      · exact .inr (.inr (.inr h))
    rcases hx' with rfl | rfl | rfl | rfl
    · refine ⟨_, rfl, rfl, _, rfl, ifT (by decide +kernel) ?_⟩
      refine ⟨_, rfl, _, rfl, b, dl, 4, rfl, by decide, x2.b1, fun q H3 hq x3 => ⟨le3, fun t ht => ?_⟩⟩
      obtain ⟨ls, hS, hl⟩ := hq.sq
      exact k t (.write p ls) _ (TD.new_tup ht (.cons (.str _) (.cons (.str p) (.cons (ls_td hS) .nil)))) ⟨hp, hl⟩ ((x2.trans x3).new ht)
    · refine ⟨_, rfl, rfl, _, rfl, ifF (by decide +kernel) ?_⟩
      refine ⟨_, rfl, rfl, _, rfl, ifT (by decide +kernel) ?_⟩
      refine ⟨_, rfl, le2, fun t ht => ?_⟩
      exact k t (.two "remove" p) _ (TD.new_tup ht (.cons (.str _) (.cons (.str p) .nil))) ⟨rfl, hp⟩ (x2.new ht)
    · refine ⟨_, rfl, rfl, _, rfl, ifF (by decide +kernel) ?_⟩
      refine ⟨_, rfl, rfl, _, rfl, ifF (by decide +kernel) ?_⟩
      refine ⟨_, rfl, rfl, _, rfl, ifT (by decide +kernel) ?_⟩
      refine ⟨_, rfl, _, rfl, fun d0 hd0 => ?_⟩
      have x3 := x2.new (o := .dK []) hd0
      refine ⟨b, dl, d0, [], rfl, x3.b1, ⟨upd_same, Nat.zero_le _, fun kv m => nomatch m⟩, fun q H4 hq x4 => ⟨le3, fun t ht => ?_⟩⟩
      exact k t (.move p q) _ (TD.new_tup ht (.cons (.str _) (.cons (.str p) (.cons (.str q) .nil)))) ⟨hp, hq⟩ ((x3.trans x4).new ht)
    · refine ⟨_, rfl, rfl, _, rfl, ifF (by decide +kernel) ?_⟩
      refine ⟨_, rfl, rfl, _, rfl, ifF (by decide +kernel) ?_⟩
      refine ⟨_, rfl, rfl, _, rfl, ifF (by decide +kernel) ?_⟩
      refine ⟨le0, fun t0 ht0 => ?_⟩
      have x3 := x2.new (o := .tup []) ht0
      refine ⟨fun σ' H' => ∃ (a : Addr) (ls : List Str), σ' = [some (.ref b), some (.ref d), some (.str "splice"), some (.str p), some (.ref a)] ∧ Bx b dl H H' ∧ SqT K H' a (ls.map V.str) ∧ LOk ls 4, ?_, ?_⟩
      · have hF3 := hF.bx x3
        refine ⟨_, rfl, _, rfl, d, _, rfl, DGet.k (k := Sum.inr p) hF3.at_, _, rfl, ?_⟩
        cases e : valV kvs (Sum.inr p) with
        | none =>
          refine ifF rfl ?_
          exact ⟨t0, [], rfl, x3, SqT.of upd_same, by show 0 ≤ 4; decide, fun y hy => nomatch hy⟩
        | some v =>
          refine ifT rfl ?_
          obtain ⟨fa, ls, g1, g2, g3, g4⟩ := files_get hF3 (List.mem_map.mpr ⟨_, get_some e, rfl⟩)
          refine ⟨_, rfl, _, rfl, d, .ref fa, rfl, (by rw [← g1]; exact DGet.k (k := Sum.inr p) hF3.at_), fa, ls, rfl, x3, g2, g3, g4⟩
      rintro σ4 H4 ⟨a, ls, rfl, x4, hS, hl⟩
      refine ⟨_, rfl, _, rfl, _, rfl, b, dl, a, ls, rfl, x4.b1, hS, hl, fun q o H5 hq ho ho1 x5 => ⟨_, rfl, b, dl, 3, rfl, by decide, (x4.trans x5).b1, fun r H6 hr6 x6 => ⟨le4, fun t ht => ?_⟩⟩⟩
      obtain ⟨n, hN, hn⟩ := hr6.sq
      exact k t (.splice p o n) _ (TD.new_tup ht (.cons (.str _) (.cons (.str p) (.cons (ls_td (x6.tp _ _ hq)) (.cons (ls_td hN) .nil))))) ⟨hp, ho, ho1, ⟨Nat.le_trans hn.1 (by decide), hn.2⟩⟩ (((x4.trans x5).trans x6).new ht)
def spAction (K : PySem.W.Frag) : Sp := fun vs H Q _ => ∃ (b dl d : Addr) (kvs : List (Key × V)), vs = [.ref b, .ref d] ∧ BoxAt H b dl ∧ Files K H d kvs ∧ ∀ p A H', TD K H' (.ref p) (Act.d A) → (AskOk A ∨ DeedOk A) → Bx b dl H H' → Q (.ref p) H'
def n_action : List Str := ["_law_box", "_law_files_here"]
theorem sc_action : FnScope n_action ["_law_box", "_law_files_here"] (defScope s__law_action) := ⟨rfl, rfl, rfl, by decide +kernel, rfl, by decide +kernel, by decide +kernel⟩
theorem ok_action (D : DefAt K mg "_law_action" s__law_action) (c_draw : Cal P w K mg base CX0 1 "_law_draw" spDraw) (c_question : Cal P w K mg base CX0 5 "_law_question" (spQue K)) (c_deed : Cal P w K mg base CX0 4 "_law_deed" (spDeed K)) :
    Cal P w K mg base CX0 6 "_law_action" (spAction K) := by
  refine cal0 D sc_action (fun _ _ _ _ _ _ us hl => match us, hl with | [_, _], _ => rfl) (fun vs H Q E h => ?_) (fun f cdv A outer s H vs Q E hr h => ?_)
  · obtain ⟨b, dl, d, kvs, rfl, _⟩ := h
    rfl
  · obtain ⟨b, dl, d, kvs, rfl, hB, hF, k⟩ := h
    refine ⟨_, (pss_cons (ps_if (pt_cmpR op_eq (pe_c c_draw hr (by decide) (by rfl) (pa_cons (pv 0) (pa_cons pe_int pa_nil))) pe_int (nomark _)) (pss_one (ps_ret (pe_c c_question hr (by decide) (by rfl) (pa_cons (pv 0) (pa_cons (pv 1) pa_nil))))) pss_nil)
      (pss_one (ps_ret (pe_c c_deed hr (by decide) (by rfl) (pa_cons (pv 0) (pa_cons (pv 1) pa_nil)))))), ?_⟩
    refine ⟨_, rfl, b, dl, 2, rfl, hB, by decide, fun r H1 _ _ x1 => ⟨rfl, _, rfl, ?_⟩⟩
    have hF1 := hF.bx x1
    refine ite2 (fun _ => ?_) (fun _ => ?_)
    · exact ⟨_, rfl, _, rfl, b, dl, d, kvs, rfl, x1.b1, hF1, fun p A H2 t h x2 => k p A _ t (.inl h) (x1.trans x2)⟩
    · exact ⟨_, rfl, _, rfl, b, dl, d, kvs, rfl, x1.b1, hF1, fun p A H2 t h x2 => k p A _ t (.inr h) (x1.trans x2)⟩
end
end K23
/-! ### the agent that the law draws -/
namespace K23
open PySem PySem.Spec PyProof.Rows L2
theorem PathOk.okB {p : Str} (h : PathOk p) : pathB p = true := path_B p h
theorem PathOk.tok {p : Str} (h : PathOk p) : TOk p := path_T p h
theorem nil_tok : TOk "" := by decide +kernel
theorem nil_place : placeB "" = true := by decide +kernel
theorem PlaceOk.okB {p : Str} (h : PlaceOk p) : placeB p = true := by
  rcases h with rfl | h
  · exact nil_place
  · unfold placeB
    rw [h.okB, Bool.or_true]
theorem PlaceOk.tok {p : Str} (h : PlaceOk p) : TOk p := by
  rcases h with rfl | h
  · exact nil_tok
  · exact h.tok
theorem LOk.lsOk {ls : List Str} (h : LOk ls 4) : LsOk ls := ⟨Nat.le_trans h.1 (by decide), fun l hl => (line_T l (h.2 l hl)).1⟩
theorem LOk.okB {ls : List Str} (h : LOk ls 4) : linesB ls = true := by
  unfold linesB
  have h1 := h.1
  rw [decide_eq_true (by omega), Bool.true_and]
  exact List.all_eq_true.mpr fun l hl => (line_T l (h.2 l hl)).2.1
theorem k_kind : kindB "kind" = true := by decide +kernel
theorem k_list : kindB "list" = true := by decide +kernel
theorem k_count : kindB "count" = true := by decide +kernel
theorem k_read : kindB "read" = false := by decide +kernel
theorem k_remove : kindB "remove" = false := by decide +kernel
theorem act_ok {A : Act} (h : AskOk A ∨ DeedOk A) : A.WF ∧ A.okB = true := by
  rcases h with h | h
  · cases A with
    | two w p =>
      rcases h with ⟨rfl, hp⟩ | ⟨rfl | rfl | rfl, hp⟩
      · refine ⟨⟨by decide +kernel, hp.tok⟩, ?_⟩
        show (if kindB "read" = true then placeB p else pathB p) = true
        rw [k_read]
        exact hp.okB
      · refine ⟨⟨by decide +kernel, hp.tok⟩, ?_⟩
        show (if kindB "kind" = true then placeB p else pathB p) = true
        rw [k_kind]
        exact hp.okB
      · refine ⟨⟨by decide +kernel, hp.tok⟩, ?_⟩
        show (if kindB "list" = true then placeB p else pathB p) = true
        rw [k_list]
        exact hp.okB
      · refine ⟨⟨by decide +kernel, hp.tok⟩, ?_⟩
        show (if kindB "count" = true then placeB p else pathB p) = true
        rw [k_count]
        exact hp.okB
    | find p x =>
      refine ⟨⟨h.1.tok, (word_T x h.2).1⟩, ?_⟩
      show (placeB p && wordB x) = true
      rw [h.1.okB, (word_T x h.2).2]
      rfl
    | write p ls => exact h.elim
    | move p q => exact h.elim
    | splice p o n => exact h.elim
  · cases A with
    | two w p =>
      obtain ⟨rfl, hp⟩ := h
      refine ⟨⟨by decide +kernel, hp.tok⟩, ?_⟩
      show (if kindB "remove" = true then placeB p else pathB p) = true
      rw [k_remove]
      exact hp.okB
    | find p x => exact h.elim
    | write p ls =>
      refine ⟨⟨h.1.tok, h.2.lsOk⟩, ?_⟩
      show (pathB p && linesB ls) = true
      rw [h.1.okB, h.2.okB]
      rfl
    | move p q =>
      refine ⟨⟨h.1.tok, h.2.tok⟩, ?_⟩
      show (pathB p && pathB q) = true
      rw [h.1.okB, h.2.okB]
      rfl
    | splice p o n =>
      obtain ⟨h1, h2, h3, h4⟩ := h
      refine ⟨⟨h1.tok, h2.lsOk, h4.lsOk⟩, ?_⟩
      show (pathB p && ((linesB o && decide ((0 : Int) < (o.length : Int))) && linesB n)) = true
      rw [h1.okB, h2.okB, h4.okB, decide_eq_true (by omega)]
      rfl
/-- the cases of a row at k of n rows -/
structure CsG (k n : Int) (cs : List Case) : Prop where
  all : ∀ c ∈ cs, Sh 10 c.ans ∧ k < c.nxt ∧ c.nxt < n
  pw : (cs.map Case.ans).Pairwise fun a b => PyData.eqv a b = false
theorem few {xs : List PyData} (h : xs.Pairwise fun a b => PyData.eqv a b = false) : ∀ a ∈ xs, xs.countP (fun z => PyData.eqv z a) ≤ 1 := by
  induction xs with
  | nil => exact fun a ha => nomatch ha
  | cons x r ih =>
    obtain ⟨h1, h2⟩ := List.pairwise_cons.mp h
    intro a ha
    rw [List.countP_cons]
    rcases List.mem_cons.mp ha with rfl | ha
    · have e : r.countP (fun z => PyData.eqv z a) = 0 := List.countP_eq_zero.mpr fun z hz => by
        rw [PySem.W.eqv_comm, h1 z hz]
        exact Bool.false_ne_true
      rw [e]
      split <;> omega
    · rw [h1 a ha]
      exact ih h2 a ha
theorem few_dup {cs : List Case} (h : (cs.map Case.ans).Pairwise fun a b => PyData.eqv a b = false) : dupB cs = false := by
  unfold dupB
  refine List.any_eq_false.mpr fun a ha => ?_
  have := few h a ha
  rw [decide_eq_true_eq]
  omega
theorem CsG.ok {k n : Int} {cs : List Case} (h : CsG k n cs) (hl : cs.length ≤ 6) {A : Act} {o : Int} (hA : A.okB = true) (h1 : k < o) (h2 : o < n) : rowB A cs o k n = true := by
  rw [rowB_eq, hA, few_dup h.pw, decide_eq_false (by omega : ¬ (6 : Int) < (cs.length : Int)), decide_eq_true h1, decide_eq_true h2]
  refine List.all_eq_true.mpr fun c hc => ?_
  obtain ⟨_, h3, h4⟩ := h.all c hc
  rw [decide_eq_true h3, decide_eq_true h4]
  rfl
theorem CsG.csOk {k n : Int} {cs : List Case} (h : CsG k n cs) (hl : cs.length ≤ 6) : CsOk cs := ⟨Nat.le_trans hl (by decide), fun c hc => (h.all c hc).1⟩
theorem CsG.push {k n : Int} {cs : List Case} {c : Case} (h : CsG k n cs) (h1 : Sh 10 c.ans) (h2 : k < c.nxt) (h3 : c.nxt < n) (h4 : ((cs.map Case.ans).any fun z => PyData.eqv z c.ans) = false) : CsG k n (cs ++ [c]) := by
  refine ⟨fun x hx => ?_, ?_⟩
  · rcases List.mem_append.mp hx with q | q
    · exact h.all x q
    · rw [List.mem_singleton.mp q]
      exact ⟨h1, h2, h3⟩
  · rw [List.map_append]
    refine List.pairwise_append.mpr ⟨h.pw, List.pairwise_singleton _ _, fun a ha b hb => ?_⟩
    rw [List.mem_singleton.mp hb]
    have := List.any_eq_false.mp h4 a ha
    exact Bool.eq_false_iff.mpr this
def RowsG (n : Nat) (rs : List Row) : Prop := ∀ (j : Nat) (r : Row), rs[j]? = some r → r.WF ∧ rowOk n j r = true
theorem RowsG.push {n : Nat} {rs : List Row} {r : Row} (h : RowsG n rs) (g : r.WF ∧ rowOk n rs.length r = true) : RowsG n (rs ++ [r]) := fun j x e => by
  by_cases c : j < rs.length
  · rw [List.getElem?_append_left c] at e
    exact h j x e
  · have hj : j = rs.length := by
      have := (List.getElem?_eq_some_iff.mp e).1
      rw [List.length_append] at this
      have : j < rs.length + 1 := this
      omega
    subst hj
    rw [List.getElem?_append_right (Nat.le_refl _), Nat.sub_self] at e
    cases e
    exact g
theorem RowsG.agent {n : Nat} {rs : List Row} (h : RowsG (n + 1) rs) (hl : rs.length = n) (hn : n ≤ 23) : AgentOk (rs ++ [.stop]) := by
  have g := h.push (r := .stop) ⟨trivial, rfl⟩
  have el : (rs ++ [Row.stop]).length = n + 1 := by
    rw [List.length_append, hl]
    rfl
  refine ⟨by omega, by omega, by rw [List.getLast?_append]; rfl, fun i r e => ?_⟩
  rw [el]
  exact (g i r e).2
section
variable {P : Program} {w : World} {K : PySem.W.Frag} {mg : Str → Option Value} {base : Heap}
theorem AnsAt.mono {H H' : Hp} {v : V} (h : AnsAt K H v) (t : Tp K H H') : AnsAt K H' v := by
  obtain ⟨x, h1, h2⟩ := h
  exact ⟨x, h1.mono t, h2⟩
theorem push_row {b dl R : Addr} {H H' : Hp} {vs : List V} {rs : List Row} {v : V} {r : Row} {n : Nat} (hR : H R = none) (x : Bx b dl H H') (hL : H' R = some (.lst vs)) (hT : TDs K H' vs (rs.map Row.d)) (t : TD K H' v r.d) (hG : RowsG n rs) (hg : r.WF ∧ rowOk n rs.length r = true) :
    Bx b dl H (upd H' R (.lst (vs ++ [v]))) ∧ upd H' R (.lst (vs ++ [v])) R = some (.lst (vs ++ [v])) ∧ TDs K (upd H' R (.lst (vs ++ [v]))) (vs ++ [v]) ((rs ++ [r]).map Row.d) ∧ (rs ++ [r]).length = rs.length + 1 ∧ RowsG n (rs ++ [r]) := by
  refine ⟨x.mut hR, upd_same, ?_, List.length_append, hG.push hg⟩
  rw [List.map_append]
  exact (hT.push t).mono (tp_lst hL)
def spAgent (K : PySem.W.Frag) : Sp := fun vs H Q _ => ∃ (b dl d : Addr) (kvs : List (Key × V)), vs = [.ref b, .ref d, .int 12] ∧ BoxAt H b dl ∧ Files K H d kvs ∧ ∀ p rows H', AgAt K H' p rows → AgentOk rows → Bx b dl H H' → Q (.ref p) H'
def n_agent : List Str := ["_law_box", "_law_files_here", "_law_many", "_law_size", "_law_rows_here", "_law_k", "_law_action_here", "_law_answers", "_law_cases", "_law_step_here", "_law_answer", "_law_case"]
theorem sc_agent : FnScope n_agent ["_law_box", "_law_files_here", "_law_many"] (defScope s__law_agent) := ⟨rfl, rfl, rfl, by decide +kernel, rfl, by decide +kernel, by decide +kernel⟩
theorem ok_agent (D : DefAt K mg "_law_agent" s__law_agent) (T : Txt K mg) (c_draw : Cal P w K mg base CX0 1 "_law_draw" spDraw) (c_action : Cal P w K mg base CX0 6 "_law_action" (spAction K)) (c_act : Cal P w K mg base CX0 4 "_law_act" (spAct K)) :
    Cal P w K mg base CX0 7 "_law_agent" (spAgent K) := by
  refine cal0 D sc_agent (fun _ _ _ _ _ _ us hl => match us, hl with | [_, _, _], _ => rfl) (fun vs H Q E h => ?_) (fun f cdv A outer s H vs Q E hr h => ?_)
  · obtain ⟨b, dl, d, kvs, rfl, _⟩ := h
    rfl
  · obtain ⟨b, dl, d, kvs, rfl, hB, hF, k⟩ := h
    have hu65 : (A.deeper (envOfC "_law_agent" (defScope s__law_agent) s.heap.objs.size f cdv)).units + 65 < cLine := by
      have := hr.un
      omega
    refine ⟨_, (pss_cons (ps_set (i := 3) sc_agent.nd rfl (Or.inl rfl) (pe_op op_add pe_int (pe_c c_draw hr (by decide) (by rfl) (pa_cons (pv 0) (pa_cons (pv 2) pa_nil)))))
      (pss_cons (ps_set (i := 4) sc_agent.nd rfl (Or.inl rfl) (pe_lst pa_nil))
      (pss_cons (ps_for PassesOwn.never rfl (pi_range1 (by rfl) T.range (pa_cons (pv 3) pa_nil)) (pg_name (i := 5) sc_agent.nd rfl (Or.inl rfl))
        (pss_one (ps_if (pt_cmpR op_eq (pe_c c_draw hr (by decide) (by rfl) (pa_cons (pv 0) (pa_cons pe_int pa_nil))) pe_int (nomark _)) (pss_one (ps_expr (pe_bm PySem.F.plainAttrs_list PySem.F.slot_list_append PySem.F.type_list_append mt_append (pv 4) (pa_cons (pe_tup (pa_cons pe_str pa_nil)) pa_nil)))) (pss_cons (ps_set (i := 6) sc_agent.nd rfl (Or.inl rfl) (pe_c c_action hr (by decide) (by rfl) (pa_cons (pv 0) (pa_cons (pv 1) pa_nil))))
      (pss_cons (ps_set (i := 7) sc_agent.nd rfl (Or.inl rfl) (pe_lst (pa_cons (pe_ix ix_list (pe_c c_act hr (by decide) (by rfl) (pa_cons (pv 1) (pa_cons (pv 6) pa_nil))) pe_int (fun _ _ => rfl)) (pa_cons (pe_tup (pa_cons pe_str pa_nil)) (pa_cons (pe_tup (pa_cons pe_str pa_nil)) (pa_cons (pe_tup (pa_cons pe_str pa_nil)) (pa_cons (pe_tup (pa_cons pe_str (pa_cons pe_int pa_nil))) pa_nil)))))))
      (pss_cons (ps_set (i := 8) sc_agent.nd rfl (Or.inl rfl) (pe_lst pa_nil))
      (pss_cons (ps_for PassesOwn.never rfl (pi_range1 (by rfl) T.range (pa_cons (pe_c c_draw hr (by decide) (by rfl) (pa_cons (pv 0) (pa_cons pe_int pa_nil))) pa_nil)) (pg_name (i := 9) sc_agent.nd rfl (Or.inl rfl))
        (pss_cons (ps_set (i := 10) sc_agent.nd rfl (Or.inl rfl) (pe_ix ix_list (pv 7) (pe_c c_draw hr (by decide) (by rfl) (pa_cons (pv 0) (pa_cons pe_int pa_nil))) (fun _ _ => rfl)))
      (pss_one (ps_if (pt_cmpR (op_notInD hu65) (pv 10) (pe_lc (own := [("_law_case", 11)]) (g := gName 11) (tt := tYes) rfl sc_agent.nd (pi_list (pv 8)) (blkOk_by (N := n_agent) (sc := defScope s__law_agent) (by decide +kernel)) (fun _ _ _ _ _ => (pg_name (i := 11) sc_agent.nd rfl (Or.inl rfl))) (fun _ _ _ _ _ => pts_nil) (fun _ _ _ _ _ => (pe_ix (ix_tupK (K := K) rfl) (pv 11) pe_int (fun _ _ => rfl)))) (by rfl)) (pss_one (ps_expr (pe_bm PySem.F.plainAttrs_list PySem.F.slot_list_append PySem.F.type_list_append mt_append (pv 8) (pa_cons (pe_tup (pa_cons (pv 10) (pa_cons (pe_op op_add (pe_op op_add (pv 5) pe_int) (pe_c c_draw hr (by decide) (by rfl) (pa_cons (pv 0) (pa_cons (pe_op op_sub (pv 3) (pv 5)) pa_nil)))) pa_nil))) pa_nil)))) pss_nil))))
      (pss_one (ps_expr (pe_bm PySem.F.plainAttrs_list PySem.F.slot_list_append PySem.F.type_list_append mt_append (pv 4) (pa_cons (pe_tup (pa_cons pe_str (pa_cons (pv 6) (pa_cons (pe_callTy call_tuple_of (by rfl) T.tuple (by decide +kernel) (pa_cons (pv 8) pa_nil)) (pa_cons (pe_op op_add (pe_op op_add (pv 5) pe_int) (pe_c c_draw hr (by decide) (by rfl) (pa_cons (pv 0) (pa_cons (pe_callB (call_min2 rfl) (by rfl) T.min (by decide +kernel) (pa_cons pe_int (pa_cons (pe_op op_sub (pv 3) (pv 5)) pa_nil))) pa_nil)))) pa_nil))))) pa_nil)))))))))))
      (pss_one (ps_ret (pe_callTy call_tuple_of (by rfl) T.tuple (by decide +kernel) (pa_cons (pe_op op_cat (pv 4) (pe_lst (pa_cons (pe_tup (pa_cons pe_str pa_nil)) pa_nil))) pa_nil))))))), ?_⟩
    refine ⟨_, rfl, _, rfl, b, dl, 12, rfl, hB, by decide, fun r H1 r0 r12 x1 => ⟨_, _, rfl, rfl, ?_⟩⟩
    obtain ⟨m, rfl⟩ := Int.eq_ofNat_of_zero_le r0
    refine ⟨le0, fun R hR => ?_⟩
    have hRH := x1.none_back hR
    have hRb : R ≠ b := (hB.ne hRH).1
    refine ⟨_, rfl, 1 + (m : Int), rfl, by omega, by omega, for_range (lo := 0) (n := (1 + (m : Int)).toNat) (fun i σ H' => ∃ (v5 v6 v7 v8 v9 v10 v11 : Option V) (vs : List V) (rs : List Row), σ = [some (.ref b), some (.ref d), some (.int 12), some (.int (1 + (m : Int))), some (.ref R), v5, v6, v7, v8, v9, v10, v11] ∧ Bx b dl H H' ∧ H' R = some (.lst vs) ∧ TDs K H' vs (rs.map Row.d) ∧ rs.length = i ∧ RowsG (m + 2) rs) ?_ ?_ ?_⟩
    · exact ⟨none, none, none, none, none, none, none, [], [], rfl, x1.new hR, upd_same, .nil, rfl, fun j r e => by simp at e⟩
    · rintro i σ H2 hi ⟨v5, v6, v7, v8, v9, v10, v11, vs, rs, rfl, x2, hL2, hT2, hl, hG⟩
      subst hl
      have hvl : vs.length = rs.length := by rw [hT2.length, List.length_map]
      refine ⟨_, rfl, b, dl, 9, rfl, x2.b1, by decide, fun r2 H3 _ _ x3 => ⟨rfl, _, rfl, ?_⟩⟩
      have x23 := x2.trans x3
      have hL3 := x3.get hRb hL2
      have hT3 := hT2.mono x3.tp
      refine ite2 (fun _ => ?_) (fun _ => ?_)
      · refine ⟨_, rfl, .inl ⟨rfl, _, SqL.of hL3⟩, le1, fun p hp => ?_⟩
        have s := same_new (o := .tup [.str "stop"]) (.refl H3) hp
        refine ⟨R, _, _, rfl, rfl, s _ _ hL3, sl_lt (by omega), ?_⟩
        exact ⟨_, _, _, _, _, _, _, _, _, rfl, push_row (r := .stop) hRH (x23.same s) (s _ _ hL3) (hT3.mono (.same s)) (TD.new_tup hp (.cons (.str "stop") .nil)) hG ⟨trivial, rfl⟩⟩
      · refine ⟨_, rfl, _, rfl, b, dl, d, kvs, rfl, x23.b1, hF.bx x23, fun pa Ac H4 tA hA x4 => ?_⟩
        have x24 := x23.trans x4
        refine ⟨_, rfl, _, rfl, d, kvs, pa, Ac, rfl, hF.bx x24, tA, hA, fun l v r' H5 s5 h5 aV => ?_⟩
        refine ⟨l, _, 0, v, rfl, rfl, SqL.of h5, rfl, le1, fun p1 hp1 => ⟨le1, fun p2 hp2 => ⟨le1, fun p3 hp3 => ⟨le2, fun p4 hp4 => ⟨le5, fun L hL => ⟨le0, fun C hC => ?_⟩⟩⟩⟩⟩⟩
        have a1 : AnsAt K (upd H5 p1 (.tup [.str "none"])) (.ref p1) := .one hp1 (by decide +kernel)
        have s1 := same_new (o := .tup [.str "none"]) (.refl H5) hp1
        generalize upd H5 p1 (.tup [.str "none"]) = G1 at *
        have a2 : AnsAt K (upd G1 p2 (.tup [.str "done"])) (.ref p2) := .one hp2 (by decide +kernel)
        have s2 := same_new (o := .tup [.str "done"]) (.refl G1) hp2
        generalize upd G1 p2 (.tup [.str "done"]) = G2 at *
        have a3 : AnsAt K (upd G2 p3 (.tup [.str "missing"])) (.ref p3) := .one hp3 (by decide +kernel)
        have s3 := same_new (o := .tup [.str "missing"]) (.refl G2) hp3
        generalize upd G2 p3 (.tup [.str "missing"]) = G3 at *
        have a4 : AnsAt K (upd G3 p4 (.tup [.str "many", .int 2])) (.ref p4) := .two hp4 (by decide +kernel) (.int 2) (.int 2)
        have s4 := same_new (o := .tup [.str "many", .int 2]) (.refl G3) hp4
        generalize upd G3 p4 (.tup [.str "many", .int 2]) = G4 at *
        have hL6 : upd G4 L (.lst [v, .ref p1, .ref p2, .ref p3, .ref p4]) L = some (.lst [v, .ref p1, .ref p2, .ref p3, .ref p4]) := upd_same
        have s6 := same_new (o := .lst [v, .ref p1, .ref p2, .ref p3, .ref p4]) (.refl G4) hL
        generalize upd G4 L (.lst [v, .ref p1, .ref p2, .ref p3, .ref p4]) = H6 at *
        have ansAll : ∀ u ∈ [v, V.ref p1, .ref p2, .ref p3, .ref p4], AnsAt K H6 u := by
          intro u hu
          simp only [List.mem_cons, List.not_mem_nil, or_false] at hu
          rcases hu with rfl | rfl | rfl | rfl | rfl
          · exact aV.mono (.same ((((s1.trans s2).trans s3).trans s4).trans s6))
          · exact a1.mono (.same (((s2.trans s3).trans s4).trans s6))
          · exact a2.mono (.same ((s3.trans s4).trans s6))
          · exact a3.mono (.same (s4.trans s6))
          · exact a4.mono (.same s6)
        have sA : Same H4 H6 := ((((s5.trans s1).trans s2).trans s3).trans s4).trans s6
        clear s1 s2 s3 s4 s6 a1 a2 a3 a4 hp1 hp2 hp3 hp4 aV s5 h5 hL
        have x26 : Bx b dl H H6 := x24.same sA
        have hR6 : H6 R = some (.lst vs) := sA _ _ (x4.get hRb hL3)
        have hT6 := (hT3.mono x4.tp).mono (.same sA)
        have tA6 := tA.mono (.same sA)
        have hCb : C ≠ b := (x26.b1.ne hC).1
        have hCR : R ≠ C := ne_of_none hR6 hC
        have hCL : L ≠ C := ne_of_none hL6 hC
        have hLb : L ≠ b := by
          intro e
          obtain ⟨ds, at_, h1, _⟩ := x26.b1
          rw [e, h1] at hL6
          have e2 := congrArg List.length (HO.lst.inj (Option.some.inj hL6))
          cases e2
        have x6 := Bx.refl x26.b1
        refine ⟨_, rfl, b, dl, 4, rfl, (x6.new hC).b1, by decide, fun r8 H8 r80 r84 x8 => ⟨r8, rfl, by omega, by omega, for_range (lo := 0) (n := r8.toNat) (fun j σ H' => ∃ (v9 v10 v11 : Option V) (cvs : List V) (cs : List Case), σ = [some (.ref b), some (.ref d), some (.int 12), some (.int (1 + (m : Int))), some (.ref R), some (.int (0 + (rs.length : Nat))), some (.ref pa), some (.ref L), some (.ref C), v9, v10, v11] ∧ Bx b dl H6 H' ∧ H' C = some (.lst cvs) ∧ TDs K H' cvs (cs.map Case.d) ∧ cs.length ≤ j ∧ CsG ((rs.length : Nat) : Int) (((m + 2 : Nat)) : Int) cs) ?_ ?_ ?_⟩⟩
        · exact ⟨_, _, _, [], [], rfl, (x6.new hC).trans x8, x8.get hCb upd_same, .nil, Nat.le_refl _, fun c hc => (nomatch hc), .nil⟩
        · rintro j σ H9 hj ⟨v9, v10, v11, cvs, cs, rfl, x9, hC9, hT9, hl9, hG9⟩
          refine ⟨_, rfl, _, rfl, b, dl, 5, rfl, x9.b1, by decide, fun ra H10 ra0 ra5 x10 => ?_⟩
          have x910 := x9.trans x10
          obtain ⟨u, hu, eu⟩ := menuV (xs := [v, V.ref p1, .ref p2, .ref p3, .ref p4]) ra0 ra5
          refine ⟨L, _, ra, u, rfl, rfl, SqL.of (x910.get hLb hL6), eu, ?_⟩
          obtain ⟨ans, tans, hans⟩ := (ansAll u hu).mono x910.tp
          have hC10 := x10.get hCb hC9
          have hT10 := hT9.mono x10.tp
          have hcl : cvs.length = cs.length := by rw [hT9.length, List.length_map]
          refine ⟨_, rfl, _, rfl, C, rfl, ⟨_, SqL.of hC10⟩, fun D hD => lc_it (walk_list (xs := cvs)) (fun i H' => MadeD K H10 D ((cs.take i).map Case.ans) H') (MadeD.start hD) (fun i H' _ q => SqL.of (q.1 _ _ hC10)) ?_ ?_⟩
          · rintro i x H11 H12 hi2 ⟨s2, vs2, h2, d2⟩ ⟨rfl, hx⟩
            obtain ⟨c, ta, va, hc, rfl, hta, hva⟩ := case_at (hT10.mono (.same s2)) hx
            refine ⟨rfl, lcY ⟨_, rfl, ta, _, 0, va, rfl, rfl, hta, rfl, _, h2, ?_, ?_⟩⟩
            · rw [d2.length, List.length_map, List.length_take]
              exact sl_lt (by omega)
            · rw [map_more _ hc]
              exact MadeD.push hD s2 h2 d2 hva
          · rintro H11 ⟨s11, vs2, h11, d11⟩
            rw [hcl, List.take_length] at d11
            have shA : ∀ d ∈ cs.map Case.ans, Sh 10 d := fun d hd => by
              obtain ⟨c, hc, rfl⟩ := List.mem_map.mp hd
              exact (hG9.all c hc).1
            refine ⟨ans, cs.map Case.ans, (tans.mono (.same s11)).dp, .lst (SqL.of h11) d11.dp, hans.shaped, (Sh.list shA).shaped, _, rfl, ?_⟩
            have x11 := x910.same s11
            have hC11 := s11 _ _ hC10
            have hT11 := hT10.mono (.same s11)
            refine ite2 (fun c => ?_) (fun _ => ⟨_, _, _, cvs, cs, rfl, x11, hC11, hT11, by omega, hG9⟩)
            refine ⟨_, rfl, .inl ⟨rfl, _, SqL.of hC11⟩, _, rfl, _, rfl, _, _, rfl, rfl, _, rfl, _, rfl, _, rfl, _, _, rfl, rfl, b, dl, _, rfl, x11.b1, by omega, fun rn H12 rn0 rn1 x12 => ⟨_, _, rfl, rfl, le2, fun p hp => ?_⟩⟩
            have s := same_new (o := .tup [u, .int (0 + ((rs.length : Nat) : Int) + 1 + rn)]) (.refl H12) hp
            have hC12 := s _ _ (x12.get hCb hC11)
            refine ⟨C, _, _, rfl, rfl, hC12, sl_lt (by omega), ?_⟩
            have c' : ((cs.map Case.ans).any fun z => PyData.eqv z ans) = false := Bool.not_eq_true' _ |>.mp c
            refine ⟨_, _, _, _, cs ++ [⟨ans, 0 + ((rs.length : Nat) : Int) + 1 + rn⟩], rfl, ((x11.trans x12).same s).mut hC, upd_same, ?_, ?_, ?_⟩
            · rw [List.map_append]
              refine TDs.mono (tp_lst hC12) (((hT11.mono x12.tp).mono (.same s)).push ?_)
              exact TD.new_tup hp (.cons ((tans.mono (.same s11)).mono x12.tp) (.cons (.int _) .nil))
            · rw [List.length_append]
              show cs.length + 1 ≤ j + 1
              omega
            · exact hG9.push hans (by show ((rs.length : Nat) : Int) < 0 + ((rs.length : Nat) : Int) + 1 + rn; omega) (by show 0 + ((rs.length : Nat) : Int) + 1 + rn < ((m + 2 : Nat) : Int); omega) c'
        · rintro σ H9 ⟨v9, v10, v11, cvs, cs, rfl, x9, hC9, hT9, hl9, hG9⟩
          have hR9 := x9.get hRb hR6
          refine ⟨_, rfl, .inl ⟨rfl, _, SqL.of hR9⟩, _, rfl, _, rfl, C, cvs, rfl, .inl ⟨SqL.of hC9, fun q hq => ?_⟩⟩
          have tq := TD.new_tup hq hT9
          have x10 := x9.new (o := .tup cvs) hq
          have hR10 := x10.get hRb hR6
          generalize upd H9 q (.tup cvs) = H10 at *
          refine ⟨_, rfl, _, _, rfl, rfl, _, rfl, _, rfl, _, rfl, _, _, rfl, rfl, _, _, rfl, b, dl, _, rfl, x10.b1, by split <;> omega, fun rn H12 rn0 rn1 x12 => ⟨_, _, rfl, rfl, le4, fun p hp => ?_⟩⟩
          have s := same_new (o := .tup [.str "act", .ref pa, .ref q, .int (0 + ((rs.length : Nat) : Int) + 1 + rn)]) (.refl H12) hp
          have hR12 := s _ _ (x12.get hRb hR10)
          refine ⟨R, _, _, rfl, rfl, hR12, sl_lt (by omega), ?_⟩
          have x612 := x10.trans x12
          have ok := act_ok hA
          have hl6 : cs.length ≤ 6 := by omega
          have hrn : rn < 1 + (m : Int) - (0 + ((rs.length : Nat) : Int)) := by
            revert rn1
            split <;> omega
          refine ⟨_, _, _, _, _, _, _, _, _, rfl, push_row (r := .act Ac cs (0 + ((rs.length : Nat) : Int) + 1 + rn)) hRH ((x26.trans x612).same s) hR12 ((hT6.mono x612.tp).mono (.same s)) ?_ hG ⟨⟨ok.1, hG9.csOk hl6⟩, ?_⟩⟩
          · exact TD.new_tup hp (.cons (.str "act") (.cons (tA6.mono x612.tp) (.cons (tq.mono x12.tp) (.cons (.int _) .nil))))
          · show rowB Ac cs (0 + ((rs.length : Nat) : Int) + 1 + rn) ((rs.length : Nat) : Int) ((m + 2 : Nat) : Int) = true
            exact hG9.ok hl6 ok.2 (by omega) (by omega)
    · rintro σ H2 ⟨v5, v6, v7, v8, v9, v10, v11, vs, rs, rfl, x2, hL2, hT2, hl, hG⟩
      have hvl : vs.length = rs.length := by rw [hT2.length, List.length_map]
      refine ⟨_, rfl, le1, fun q hq => ⟨le1, fun l hl0 => ?_⟩⟩
      have tq : TD K (upd H2 q (.tup [.str "stop"])) (.ref q) (Row.d .stop) := TD.new_tup hq (.cons (.str "stop") .nil)
      have s1 := same_new (o := .tup [.str "stop"]) (.refl H2) hq
      generalize upd H2 q (.tup [.str "stop"]) = H3 at *
      have s2 := same_new (o := .lst [.ref q]) s1 hl0
      refine ⟨R, l, vs, _, rfl, rfl, s2 _ _ hL2, upd_same, sl_le (by show vs.length + 1 ≤ 100000; omega), fun p hp => ⟨p, _, rfl, .inl ⟨SqL.of upd_same, fun t ht => ?_⟩⟩⟩
      have m1 := same_new (o := .lst [.ref q]) (.refl H3) hl0
      have m2 := same_new (o := .lst (vs ++ [.ref q])) m1 hp
      have m3 := same_new (o := .tup (vs ++ [.ref q])) m2 ht
      refine k t (rs ++ [.stop]) _ ⟨?_, ?_, ?_⟩ (hG.agent (n := m + 1) (by omega) (by omega)) (x2.same (s1.trans m3))
      · have h := TD.new_tup ht (((hT2.mono (.same s1)).push tq).mono (.same m2))
        rw [List.map_append]
        exact h
      · rw [List.length_append]
        show rs.length + 1 ≤ 1000
        omega
      · intro r hr
        obtain ⟨j, e⟩ := List.getElem?_of_mem hr
        exact ((hG.push (r := .stop) ⟨trivial, rfl⟩) j r e).1
end
end K23
/-! ### the agent made bad -/
namespace K23
open PySem PySem.Spec PyProof.Rows L2
theorem ixN_at {n j : Nat} (hj : j < n) : ixN n ((j : Nat) : Int) = some j := by
  unfold ixN
  rw [if_pos (by omega), if_pos (by omega), Int.toNat_natCast]
def Row.w : Row → Str
  | .stop => "stop"
  | .act .. => "act"
def Row.isA : Row → Bool
  | .stop => false
  | .act .. => true
theorem stop_act : decide (V.str "stop" = V.str "act") = false := by decide +kernel
theorem Row.w_isA (r : Row) : decide (V.str r.w = V.str "act") = r.isA := by
  cases r with
  | stop => exact stop_act
  | act A cs o => exact decide_eq_true rfl
def actAt (rows : List Row) (i : Nat) : Bool :=
  match rows[i]? with
  | some r => r.isA
  | none => false
theorem actAt_inv {rows : List Row} {j : Nat} (h : actAt rows j = true) : ∃ A cs o, rows[j]? = some (.act A cs o) := by
  unfold actAt at h
  cases e : rows[j]? with
  | none =>
    rw [e] at h
    cases h
  | some r =>
    rw [e] at h
    cases r with
    | stop => cases h
    | act A cs o => exact ⟨A, cs, o, rfl⟩
theorem row_at {K : PySem.W.Frag} {H : Hp} {xs : List V} {rows : List Row} {i : Nat} {r : Row} (h : TDs K H xs (rows.map Row.d)) (hr : rows[i]? = some r) : ∃ ta ws, xs[i]? = some (.ref ta) ∧ SqT K H ta ws ∧ ws[0]? = some (.str r.w) := by
  obtain ⟨v, hv, t⟩ := h.get' (by rw [List.getElem?_map, hr]; rfl : (rows.map Row.d)[i]? = some r.d)
  cases r with
  | stop =>
    obtain ⟨a, ws, rfl, h1, h2⟩ := t.tup_inv
    obtain ⟨v0, w2, rfl, t0, _⟩ := h2.cons_inv
    have e := t0.str_inv
    subst e
    exact ⟨a, _, hv, h1, rfl⟩
  | act A cs o =>
    obtain ⟨a, ws, rfl, h1, h2⟩ := t.tup_inv
    obtain ⟨v0, w2, rfl, t0, _⟩ := h2.cons_inv
    have e := t0.str_inv
    subst e
    exact ⟨a, _, hv, h1, rfl⟩
theorem TDs.set {K : PySem.W.Frag} {H : Hp} {v : V} {d : PyData} (t : TD K H v d) : ∀ {vs : List V} {ds : List PyData} (j : Nat), TDs K H vs ds → TDs K H (vs.set j v) (ds.set j d)
  | _, _, _, .nil => .nil
  | _, _, 0, .cons _ r => .cons t r
  | _, _, j + 1, .cons h r => .cons h (TDs.set t j r)
theorem TDs.rep {K : PySem.W.Frag} {H : Hp} {v : V} {d : PyData} (t : TD K H v d) : ∀ n : Nat, TDs K H (List.replicate n v) (List.replicate n d)
  | 0 => .nil
  | n + 1 => .cons t (TDs.rep t n)
theorem flat_one {α : Type} (v : α) : ∀ n : Nat, (List.replicate n [v]).flatten = List.replicate n v
  | 0 => rfl
  | n + 1 => by
    rw [List.replicate_succ, List.replicate_succ, List.flatten_cons, flat_one v n]
    rfl
/-! agents that are and are not -/
theorem not_last {rows : List Row} {A : Act} {cs : List Case} {o : Int} : ¬ AgentOk (rows ++ [Row.act A cs o]) := fun g => by
  have := g.last
  rw [List.getLast?_append] at this
  cases this
theorem bad_row {rows : List Row} {j : Nat} {r : Row} (hj : j < rows.length) (h : rowOk rows.length j r = false) : ¬ AgentOk (rows.set j r) := fun g => by
  have := g.all j r (by rw [List.getElem?_set_self hj])
  rw [List.length_set, h] at this
  cases this
theorem act_lt {rows : List Row} {j : Nat} {A : Act} {cs : List Case} {o : Int} (g : AgentOk rows) (hj : rows[j]? = some (.act A cs o)) : j + 1 < rows.length := by
  have h1 := (List.getElem?_eq_some_iff.mp hj).1
  have h2 := g.last
  rw [List.getLast?_eq_getElem?] at h2
  by_cases e : j = rows.length - 1
  · rw [← e, hj] at h2
    cases h2
  · omega
theorem good_row {rows : List Row} {j : Nat} {A : Act} {cs : List Case} {o : Int} {r : Row} (g : AgentOk rows) (hj : rows[j]? = some (.act A cs o)) (h : rowOk rows.length j r = true) : AgentOk (rows.set j r) := by
  have hlt := act_lt g hj
  refine ⟨by rw [List.length_set]; exact g.lo, by rw [List.length_set]; exact g.hi, ?_, fun i r' e => ?_⟩
  · have h2 := g.last
    rw [List.getLast?_eq_getElem?] at h2 ⊢
    rw [List.length_set, List.getElem?_set_ne (by omega)]
    exact h2
  · rw [List.length_set]
    by_cases c : j = i
    · subst c
      rw [List.getElem?_set_self (by omega)] at e
      cases e
      exact h
    · rw [List.getElem?_set_ne c] at e
      exact g.all i r' e
theorem rowB_o {A : Act} {cs : List Case} {o k n : Int} (h : ¬ (k < o ∧ o < n)) : rowB A cs o k n = false := by
  rw [rowB_eq]
  have e : (decide (k < o) && decide (o < n)) = false := by
    by_cases h1 : k < o
    · rw [decide_eq_false (fun z => h ⟨h1, z⟩ : ¬ o < n), Bool.and_false]
    · rw [decide_eq_false h1, Bool.false_and]
  rw [e, Bool.false_and, Bool.and_false, Bool.and_false]
theorem rowB_A {A : Act} {cs : List Case} {o k n : Int} (h : A.okB = false) : rowB A cs o k n = false := by
  rw [rowB_eq, h, Bool.false_and]
theorem rowB_dup {A : Act} {cs : List Case} {o k n : Int} (h : dupB cs = true) : rowB A cs o k n = false := by
  rw [rowB_eq, h, Bool.or_true, Bool.not_true, Bool.false_and, Bool.and_false]
theorem rowB_6 {A : Act} {cs : List Case} {o k n : Int} (h : (6 : Int) < (cs.length : Int)) : rowB A cs o k n = false := by
  rw [rowB_eq, decide_eq_true h, Bool.true_or, Bool.not_true, Bool.false_and, Bool.and_false]
theorem rowB_in {A : Act} {cs : List Case} {o k n : Int} (h : inB cs k n = false) : rowB A cs o k n = false := by
  rw [rowB_eq, h, Bool.and_false, Bool.and_false, Bool.and_false]
theorem inB_no {cs : List Case} {c : Case} {k n : Int} (hc : c ∈ cs) (h : ¬ (k < c.nxt ∧ c.nxt < n)) : inB cs k n = false := by
  refine List.all_eq_false.mpr ⟨c, hc, fun e => h ?_⟩
  rw [Bool.and_eq_true, decide_eq_true_eq, decide_eq_true_eq] at e
  exact e
def manyD (i : Int) : PyData := .tuple [.str "many", .int i]
theorem manyD_sh (i : Int) : Sh 10 (manyD i) := (Sh.tuple (n := 0) (sh_cons (.str (by decide +kernel)) (sh_cons (.int _) sh_nil))).mono (by decide)
theorem many_ne {i j : Int} (h : i ≠ j) : PyData.eqv (manyD i) (manyD j) = false := by
  unfold manyD
  simp only [PyData.eqv, PyData.eqvAll]
  simp [h]
def casesM (m : Nat) (k : Int) : List Case := (List.range m).map fun i => ⟨manyD ((i : Nat) : Int), k⟩
theorem casesM_ok {m : Nat} {k n : Int} (h : k + 1 < n) : CsG k n (casesM m (k + 1)) := by
  refine ⟨fun c hc => ?_, ?_⟩
  · obtain ⟨i, _, rfl⟩ := List.mem_map.mp hc
    exact ⟨manyD_sh _, by show k < k + 1; omega, h⟩
  · unfold casesM
    rw [List.map_map]
    refine List.pairwise_map.mpr (List.pairwise_lt_range.imp fun hab => ?_)
    exact many_ne (by omega)
theorem casesM_more (i : Nat) (k : Int) : casesM (i + 1) k = casesM i k ++ [⟨manyD ((i : Nat) : Int), k⟩] := by
  unfold casesM
  rw [List.range_succ, List.map_append]
  rfl
theorem casesM_len (m : Nat) (k : Int) : (casesM m k).length = m := by
  unfold casesM
  rw [List.length_map, List.length_range]
theorem casesM_csOk {m : Nat} {k : Int} (h : m ≤ 7) : CsOk (casesM m k) := ⟨by rw [casesM_len]; omega, fun c hc => by
  obtain ⟨i, _, rfl⟩ := List.mem_map.mp hc
  exact manyD_sh _⟩
def agOkB (rows : List Row) : Bool := decide (1 ≤ rows.length) && (decide (rows.length ≤ 24) && ((match rows.getLast? with | some .stop => true | _ => false) && (List.range rows.length).all fun i => match rows[i]? with | some r => rowOk rows.length i r | none => true))
theorem agOk_of {rows : List Row} (h : agOkB rows = true) : AgentOk rows := by
  unfold agOkB at h
  rw [Bool.and_eq_true, Bool.and_eq_true, Bool.and_eq_true, decide_eq_true_eq, decide_eq_true_eq] at h
  obtain ⟨h1, h2, h3, h4⟩ := h
  refine ⟨h1, h2, ?_, fun i r e => ?_⟩
  · split at h3
    · assumption
    · cases h3
  · have := List.all_eq_true.mp h4 i (List.mem_range.mpr (List.getElem?_eq_some_iff.mp e).1)
    rw [e] at this
    exact this
def row1 (m : Nat) : List Row := .act jA [] 1 :: List.replicate m .stop
theorem row1_ok : ∀ m ∈ [22, 23], agOkB (row1 m) = true := by decide +kernel
theorem row1_len (m : Nat) : (row1 m).length = m + 1 := by
  unfold row1
  rw [List.length_cons, List.length_replicate]
theorem jN2 : (([jN, jN] : List PyData).any fun a => decide ((1 : Int) < ((([jN, jN] : List PyData).countP fun z => PyData.eqv z a : Nat) : Int))) = true := by decide +kernel
theorem jN2_dup (k : Int) : dupB [⟨jN, k⟩, ⟨jN, k⟩] = true := jN2
theorem cs2_ok {x y : PyData} {n m : Int} (hx : Sh 10 x) (hy : Sh 10 y) : CsOk [⟨x, n⟩, ⟨y, m⟩] := ⟨by show 2 ≤ 1000; decide, fun c hc => by
  simp only [List.mem_cons, List.not_mem_nil, or_false] at hc
  rcases hc with rfl | rfl
  · exact hx
  · exact hy⟩
theorem rowB_inv {A : Act} {cs : List Case} {o k n : Int} (h : rowB A cs o k n = true) : A.okB = true ∧ k < o ∧ o < n := by
  rw [rowB_eq, Bool.and_eq_true, Bool.and_eq_true, Bool.and_eq_true, Bool.and_eq_true, decide_eq_true_eq, decide_eq_true_eq] at h
  exact ⟨h.1, h.2.2.1⟩
theorem bad_acts : Act.okB (.two "read" "A") = false ∧ Act.okB (.find "" "") = false ∧ Act.okB (.splice "a" [] ["x"]) = false := by decide +kernel
theorem bad_wf : Act.WF (.two "read" "A") ∧ Act.WF (.find "" "") ∧ Act.WF (.splice "a" [] ["x"]) := by
  refine ⟨⟨by decide +kernel, by decide +kernel⟩, ⟨by decide +kernel, by decide +kernel⟩, ⟨by decide +kernel, ⟨by decide, fun l hl => nomatch hl⟩, ⟨by decide, fun l hl => ?_⟩⟩⟩
  rw [List.mem_singleton.mp hl]
  decide +kernel
section
variable {P : Program} {w : World} {K : PySem.W.Frag} {mg : Str → Option Value} {base : Heap}
/-- behind the ways of kind 2 to 6 -/
def BadP (K : PySem.W.Frag) (b dl a R D ra : Addr) (j : Nat) (kd : Int) (H : Hp) (σ' : L2.St) (H' : Hp) : Prop := ∃ (v6 v9 v10 : Option V) (g : Bool) (vs2 : List V) (rs2 : List Row),
  σ' = [some (.ref b), some (.ref a), some (.ref R), some (.int ((j : Nat) : Int)), some (.ref D), some (.int kd), v6, some (.ref ra), some (.bl g), v9, v10] ∧ Bx b dl H H' ∧ H' R = some (.lst vs2) ∧ TDs K H' vs2 (rs2.map Row.d) ∧
  (∀ r ∈ rs2, r.WF) ∧ rs2.length ≤ 1000 ∧ (g = true → AgentOk rs2) ∧ (g = false → ¬ AgentOk rs2)
def spBad (K : PySem.W.Frag) : Sp := fun vs H Q _ => ∃ (b dl a : Addr) (rows : List Row), vs = [.ref b, .ref a] ∧ BoxAt H b dl ∧ AgAt K H a rows ∧ AgentOk rows ∧
  ∀ l p g rows' H', H' l = some (.lst [.ref p, .bl g]) → AgAt K H' p rows' → (g = true → AgentOk rows') → (g = false → ¬ AgentOk rows') → Bx b dl H H' → Q (.ref l) H'
def n_bad : List Str := ["_law_box", "_law_agent_here", "_law_rows_here", "_law_k", "_law_at", "_law_kind", "_law_many", "_law_row", "_law_good", "_law_bad_here", "_law_n"]
theorem sc_bad : FnScope n_bad ["_law_box", "_law_agent_here"] (defScope s__law_bad) := ⟨rfl, rfl, rfl, by decide +kernel, rfl, by decide +kernel, by decide +kernel⟩
theorem ok_bad (D : DefAt K mg "_law_bad" s__law_bad) (T : Txt K mg) (c_draw : Cal P w K mg base CX0 1 "_law_draw" spDraw) : Cal P w K mg base CX0 2 "_law_bad" (spBad K) := by
  refine cal0 D sc_bad (fun _ _ _ _ _ _ us hl => match us, hl with | [_, _], _ => rfl) (fun vs H Q E h => ?_) (fun f cdv A outer s H vs Q E hr h => ?_)
  · obtain ⟨b, dl, a, rows, rfl, _⟩ := h
    rfl
  · obtain ⟨b, dl, a, rows, rfl, hB, ⟨hT, hlen, hW⟩, hOk, k⟩ := h
    refine ⟨_, (pss_cons (ps_set (i := 2) sc_bad.nd rfl (Or.inr rfl) (pe_callTy call_list_of (by rfl) T.list (by decide +kernel) (pa_cons (pv 1) pa_nil)))
      (pss_cons (ps_setLc (i := 4) (own := [("_law_k", 3)]) (g := gName 3) rfl sc_bad.nd rfl rfl (sw_true rfl rfl rfl (by decide +kernel)) (pi_range1 (by rfl) T.range (pa_cons (pe_callB call_len_seq (by rfl) T.len PySem.boot_len (pa_cons (pv 2) pa_nil)) pa_nil)) (blkOk_by (N := n_bad) (sc := defScope s__law_bad) (by decide +kernel)) (fun _ _ _ _ _ => (pg_name (i := 3) sc_bad.nd rfl (Or.inl rfl))) (fun _ _ _ _ _ => pts_one (pt_cmpR op_eq (pe_ix (ix_tupK (K := K) rfl) (pe_ix (ix_listK (K := K) rfl) (pv 2) (pv 3) (fun _ _ => rfl)) pe_int (fun _ _ => rfl)) pe_str (nomark _))) (fun _ _ _ _ _ => (pv 3)))
      (pss_cons (ps_set (i := 5) sc_bad.nd rfl (Or.inl rfl) (pe_c c_draw hr (by decide) (by rfl) (pa_cons (pv 0) (pa_cons pe_int pa_nil))))
      (pss_cons (ps_if (pt_cmpR op_eq (pv 5) pe_int (nomark _)) (pss_one (ps_ret (pe_lst (pa_cons (pe_callTy call_tuple_of (by rfl) T.tuple (by decide +kernel) (pa_cons (pe_op op_cat (pv 2) (pe_lst (pa_cons (pe_tup (pa_cons pe_str (pa_cons (pe_tup (pa_cons pe_str (pa_cons pe_str pa_nil))) (pa_cons (pe_tup pa_nil) (pa_cons (pe_callB call_len_seq (by rfl) T.len PySem.boot_len (pa_cons (pv 2) pa_nil)) pa_nil))))) pa_nil))) pa_nil)) (pa_cons pe_bl pa_nil))))) pss_nil)
      (C8.pss_cut (ps_if (PW.pt (pw_and (pt_cmpR op_eq (pv 5) pe_int (nomark _)) (pw_and1 (pt_cmpR op_lt (pe_callB call_len_seq (by rfl) T.len PySem.boot_len (pa_cons (pv 2) pa_nil)) pe_int (nomark _))))) (pss_cons (ps_set (i := 6) sc_bad.nd rfl (Or.inl rfl) (pe_op op_add pe_int (pe_c c_draw hr (by decide) (by rfl) (pa_cons (pv 0) (pa_cons pe_int pa_nil)))))
      (pss_one (ps_ret (pe_lst (pa_cons (pe_op op_catA (pe_tup (pa_cons (pe_tup (pa_cons pe_str (pa_cons (pe_tup (pa_cons pe_str (pa_cons pe_str pa_nil))) (pa_cons (pe_tup pa_nil) (pa_cons pe_int pa_nil))))) pa_nil)) (pe_op op_repT (pe_tup (pa_cons (pe_tup (pa_cons pe_str pa_nil)) pa_nil)) (pv 6))) (pa_cons (pe_cmpR op_le (pe_op op_add (pv 6) pe_int) pe_int (nomark _)) pa_nil)))))) pss_nil)
      (C8.pss_cut (ps_if (PW.pt (pw_or (pt_cmpR (op_eqD hr.units) (pv 4) (pe_lst pa_nil) (nomark _)) (pw_or1 (pt_cmpR op_eq (pv 5) pe_int (nomark _))))) (pss_one (ps_ret (pe_lst (pa_cons (pv 1) (pa_cons pe_bl pa_nil))))) pss_nil)
      (pss_cons (ps_set (i := 3) sc_bad.nd rfl (Or.inr rfl) (pe_ix ix_list (pv 4) (pe_c c_draw hr (by decide) (by rfl) (pa_cons (pv 0) (pa_cons (pe_callB call_len_seq (by rfl) T.len PySem.boot_len (pa_cons (pv 4) pa_nil)) pa_nil))) (fun _ _ => rfl)))
      (pss_cons (ps_set (i := 7) sc_bad.nd rfl (Or.inl rfl) (pe_ix ix_list (pv 2) (pv 3) (fun _ _ => rfl)))
      (pss_cons (ps_set (i := 8) sc_bad.nd rfl (Or.inl rfl) pe_bl)
      (C8.pss_cut (ps_if (pt_cmpR op_eq (pv 5) pe_int (nomark _)) (pss_one (ps_asg (pe_tup (pa_cons (pe_ix ix_tup (pv 7) pe_int (fun _ _ => rfl)) (pa_cons (pe_ix ix_tup (pv 7) pe_int (fun _ _ => rfl)) (pa_cons (pe_ix ix_tup (pv 7) pe_int (fun _ _ => rfl)) (pa_cons (pe_ix ix_list (pe_lst (pa_cons (pv 3) (pa_cons (pe_callB call_len_seq (by rfl) T.len PySem.boot_len (pa_cons (pv 2) pa_nil)) (pa_cons pe_int (pa_cons (pe_un un_neg pe_int) pa_nil))))) (pe_c c_draw hr (by decide) (by rfl) (pa_cons (pv 0) (pa_cons pe_int pa_nil))) (fun _ _ => rfl)) pa_nil))))) (pg_sub (pv 2) (pv 3) set_list))) (pss_one (ps_if (pt_cmpR op_eq (pv 5) pe_int (nomark _)) (pss_one (ps_asg (pe_tup (pa_cons (pe_ix ix_tup (pv 7) pe_int (fun _ _ => rfl)) (pa_cons (pe_ix ix_tup (pv 7) pe_int (fun _ _ => rfl)) (pa_cons (pe_tup (pa_cons (pe_tup (pa_cons (pe_tup (pa_cons pe_str pa_nil)) (pa_cons (pe_op op_add (pv 3) pe_int) pa_nil))) (pa_cons (pe_tup (pa_cons (pe_tup (pa_cons pe_str pa_nil)) (pa_cons (pe_op op_add (pv 3) pe_int) pa_nil))) pa_nil))) (pa_cons (pe_ix ix_tup (pv 7) pe_int (fun _ _ => rfl)) pa_nil))))) (pg_sub (pv 2) (pv 3) set_list))) (pss_one (ps_if (pt_cmpR op_eq (pv 5) pe_int (nomark _)) (pss_cons (ps_set (i := 6) sc_bad.nd rfl (Or.inl rfl) (pe_op op_add pe_int (pe_c c_draw hr (by decide) (by rfl) (pa_cons (pv 0) (pa_cons pe_int pa_nil)))))
      (pss_cons (ps_asg (pe_tup (pa_cons (pe_ix ix_tup (pv 7) pe_int (fun _ _ => rfl)) (pa_cons (pe_ix ix_tup (pv 7) pe_int (fun _ _ => rfl)) (pa_cons (pe_callTy call_tuple_of (by rfl) T.tuple (by decide +kernel) (pa_cons (pe_lc (own := [("_law_n", 10)]) (g := gName 10) (tt := tYes) rfl sc_bad.nd (pi_range1 (by rfl) T.range (pa_cons (pv 6) pa_nil)) (blkOk_by (N := n_bad) (sc := defScope s__law_bad) (by decide +kernel)) (fun _ _ _ _ _ => (pg_name (i := 10) sc_bad.nd rfl (Or.inl rfl))) (fun _ _ _ _ _ => pts_nil) (fun _ _ _ _ _ => (pe_tup (pa_cons (pe_tup (pa_cons pe_str (pa_cons (pv 10) pa_nil))) (pa_cons (pe_op op_add (pv 3) pe_int) pa_nil))))) pa_nil)) (pa_cons (pe_ix ix_tup (pv 7) pe_int (fun _ _ => rfl)) pa_nil))))) (pg_sub (pv 2) (pv 3) set_list))
      (pss_one (ps_set (i := 8) sc_bad.nd rfl (Or.inl rfl) (pe_cmpR op_le (pv 6) pe_int (nomark _)))))) (pss_one (ps_if (pt_cmpR op_eq (pv 5) pe_int (nomark _)) (pss_one (ps_asg (pe_tup (pa_cons (pe_ix ix_tup (pv 7) pe_int (fun _ _ => rfl)) (pa_cons (pe_ix ix_list (pe_lst (pa_cons (pe_tup (pa_cons pe_str (pa_cons pe_str pa_nil))) (pa_cons (pe_tup (pa_cons pe_str (pa_cons pe_str (pa_cons pe_str pa_nil)))) (pa_cons (pe_tup (pa_cons pe_str (pa_cons pe_str (pa_cons (pe_tup pa_nil) (pa_cons (pe_tup (pa_cons pe_str pa_nil)) pa_nil))))) pa_nil)))) (pe_c c_draw hr (by decide) (by rfl) (pa_cons (pv 0) (pa_cons pe_int pa_nil))) (fun _ _ => rfl)) (pa_cons (pe_ix ix_tup (pv 7) pe_int (fun _ _ => rfl)) (pa_cons (pe_ix ix_tup (pv 7) pe_int (fun _ _ => rfl)) pa_nil))))) (pg_sub (pv 2) (pv 3) set_list))) (pss_cons (ps_set (i := 9) sc_bad.nd rfl (Or.inl rfl) (pe_ix ix_list (pe_lst (pa_cons (pv 3) (pa_cons (pe_callB call_len_seq (by rfl) T.len PySem.boot_len (pa_cons (pv 2) pa_nil)) (pa_cons (pe_un un_neg pe_int) pa_nil)))) (pe_c c_draw hr (by decide) (by rfl) (pa_cons (pv 0) (pa_cons pe_int pa_nil))) (fun _ _ => rfl)))
      (pss_one (ps_asg (pe_tup (pa_cons (pe_ix ix_tup (pv 7) pe_int (fun _ _ => rfl)) (pa_cons (pe_ix ix_tup (pv 7) pe_int (fun _ _ => rfl)) (pa_cons (pe_ix ix_list (pe_lst (pa_cons (pe_tup (pa_cons (pe_tup (pa_cons (pe_tup (pa_cons pe_str pa_nil)) (pa_cons (pv 9) pa_nil))) pa_nil)) (pa_cons (pe_tup (pa_cons (pe_tup (pa_cons (pe_tup (pa_cons pe_str pa_nil)) (pa_cons (pe_op op_add (pv 3) pe_int) pa_nil))) (pa_cons (pe_tup (pa_cons (pe_tup (pa_cons pe_str (pa_cons pe_int pa_nil))) (pa_cons (pv 9) pa_nil))) pa_nil))) pa_nil))) (pe_c c_draw hr (by decide) (by rfl) (pa_cons (pv 0) (pa_cons pe_int pa_nil))) (fun _ _ => rfl)) (pa_cons (pe_ix ix_tup (pv 7) pe_int (fun _ _ => rfl)) pa_nil))))) (pg_sub (pv 2) (pv 3) set_list)))))))))))
      (pss_one (ps_ret (pe_lst (pa_cons (pe_callTy call_tuple_of (by rfl) T.tuple (by decide +kernel) (pa_cons (pv 2) pa_nil)) (pa_cons (pv 8) pa_nil))))))))))))))), ?_⟩
    obtain ⟨a', xs, e, hS, hD⟩ := id hT.tup_inv
    cases e
    have el : xs.length = rows.length := by rw [hD.length, List.length_map]
    have h24 := hOk.hi
    refine ⟨_, rfl, a, xs, rfl, .inr hS, fun R hR => ?_⟩
    have s1 := same_new (o := .lst xs) (.refl H) hR
    have hR1 : upd H R (.lst xs) R = some (.lst xs) := upd_same
    have hRb : R ≠ b := (hB.ne hR).1
    generalize upd H R (.lst xs) = H1 at *
    have hD1 := hD.mono (.same s1)
    refine ⟨_, rfl, R, _, rfl, .inl (SqL.of hR1), ((xs.length : Nat) : Int), rfl, by omega, by omega, fun D hDn => lc_range (lo := 0) (n := ((xs.length : Nat) : Int).toNat) (fun i H' => Same H1 H' ∧ H' D = some (.lst (((List.range i).filter (actAt rows)).map fun k => V.int (0 + (k : Nat))))) ?_ ?_ ?_⟩
    · exact ⟨same_new (.refl H1) hDn, upd_same⟩
    · rintro i H2 hi ⟨s2, h2⟩
      have hi' : i < rows.length := by omega
      obtain ⟨r, hr0⟩ : ∃ r, rows[i]? = some r := ⟨_, List.getElem?_eq_getElem hi'⟩
      obtain ⟨ta, ws, ex, hta, e0⟩ := row_at hD1 hr0
      refine ⟨rfl, ?_⟩
      refine ⟨_, rfl, _, rfl, R, xs, _, .ref ta, rfl, rfl, SqL.of (s2 _ _ hR1), (by rw [Int.zero_add]; exact atI_nat ex), ta, ws, 0, _, rfl, rfl, seqT s2 hta, atI_nat e0, rfl, _, rfl, ?_⟩
      have ea : decide (V.str r.w = V.str "act") = actAt rows i := by
        unfold actAt
        rw [hr0, Row.w_isA]
      rw [ea]
      refine ite2 (fun c => ?_) (fun c => ?_)
      · refine ⟨_, rfl, _, h2, ?_, ?_⟩
        · rw [List.length_map]
          exact sl_lt (by have := filt_len (actAt rows) i; omega)
        · refine ⟨same_mut s2 hDn, ?_⟩
          rw [filt_more, if_pos c, List.map_append]
          exact upd_same
      · refine ⟨s2, ?_⟩
        rw [filt_more, if_neg c, List.append_nil]
        exact h2
    rintro H2 ⟨s2, h2⟩
    have hDb : D ≠ b := ((hB.same s1).ne hDn).1
    obtain ⟨acts, hacts⟩ : ∃ acts, acts = (List.range ((xs.length : Nat) : Int).toNat).filter (actAt rows) := ⟨_, rfl⟩
    rw [← hacts] at h2
    refine ⟨_, rfl, b, dl, 8, rfl, hB.same (s1.trans s2), by decide, fun kd H3 _ _ x3 => ?_⟩
    have x13 : Bx b dl H H3 := (Bx.of hB (s1.trans s2)).trans x3
    have hR3 := x3.get hRb (s2 _ _ hR1)
    have hD3 := (hD1.mono (.same s2)).mono x3.tp
    have hL3 := x3.get hDb h2
    have hT3 := hT.mono x13.tp
    have hxl : xs.length ≤ 24 := by omega
    have hal : acts.length ≤ 24 := by
      rw [hacts]
      have := filt_len (actAt rows) ((xs.length : Nat) : Int).toNat
      omega
    clear s1 s2 hR1 h2 hD1
    -- kind 0
    refine ⟨_, rfl, rfl, _, rfl, ite2 (fun _ => ?_) (fun _ => ?_)⟩
    · refine ⟨_, rfl, le2, fun p1 hp1 => ⟨le0, fun p2 hp2 => ?_⟩⟩
      have t1 : TD K (upd H3 p1 (.tup [.str "read", .str "a"])) (.ref p1) jA.d := TD.new_tup hp1 (.cons (.str "read") (.cons (.str "a") .nil))
      have m1 := same_new (o := .tup [.str "read", .str "a"]) (.refl H3) hp1
      generalize upd H3 p1 (.tup [.str "read", .str "a"]) = G1 at *
      have t2 : TD K (upd G1 p2 (.tup [])) (.ref p2) (.tuple []) := TD.new_tup hp2 .nil
      have m2 := same_new (o := .tup []) (.refl G1) hp2
      have t1' := t1.mono (.same m2)
      have m12 := m1.trans m2
      generalize upd G1 p2 (.tup []) = G2 at *
      refine ⟨_, rfl, R, xs, rfl, .inl (SqL.of (m12 _ _ hR3)), le4, fun p3 hp3 => ⟨le1, fun l hl => ?_⟩⟩
      have t3 : TD K (upd G2 p3 (.tup [.str "act", .ref p1, .ref p2, .int ((xs.length : Nat) : Int)])) (.ref p3) (Row.d (.act jA [] ((xs.length : Nat) : Int))) := TD.new_tup hp3 (.cons (.str "act") (.cons t1' (.cons t2 (.cons (.int _) .nil))))
      have m3 := same_new (o := .tup [.str "act", .ref p1, .ref p2, .int ((xs.length : Nat) : Int)]) m12 hp3
      generalize upd G2 p3 (.tup [.str "act", .ref p1, .ref p2, .int ((xs.length : Nat) : Int)]) = G3 at *
      have m4 := same_new (o := .lst [.ref p3]) (.refl G3) hl
      have hl4 : upd G3 l (.lst [.ref p3]) l = some (.lst [.ref p3]) := upd_same
      generalize upd G3 l (.lst [.ref p3]) = G4 at *
      refine ⟨R, l, xs, _, rfl, rfl, (m3.trans m4) _ _ hR3, hl4, sl_le (by show xs.length + 1 ≤ 100000; omega), fun q hq => ⟨q, _, rfl, .inl ⟨SqL.of upd_same, fun t ht => ⟨le2, fun z hz => ?_⟩⟩⟩⟩
      have m5 := same_new (o := .lst (xs ++ [.ref p3])) (.refl G4) hq
      generalize upd G4 q (.lst (xs ++ [.ref p3])) = G5 at *
      have m45 := m4.trans m5
      have tt := TD.new_tup ht ((hD3.mono (.same (m3.trans m45))).push (t3.mono (.same m45)))
      have m6 := same_new (o := .tup (xs ++ [.ref p3])) (m3.trans m45) ht
      generalize upd G5 t (.tup (xs ++ [.ref p3])) = G6 at *
      refine k z t false (rows ++ [.act jA [] ((xs.length : Nat) : Int)]) _ upd_same ⟨?_, ?_, ?_⟩ (fun e => nomatch e) (fun _ => not_last) ((x13.same m6).new hz)
      · rw [List.map_append]
        exact tt.mono (.same (same_new (.refl G6) hz))
      · rw [List.length_append]
        show rows.length + 1 ≤ 1000
        omega
      · intro r hr0
        rcases List.mem_append.mp hr0 with h | h
        · exact hW r h
        · rw [List.mem_singleton.mp h]
          exact ⟨jA_wf, by show 0 ≤ 1000; decide, fun c hc => nomatch hc⟩
    -- kind 1
    refine ⟨fun σ' H' => σ' = [some (.ref b), some (.ref a), some (.ref R), none, some (.ref D), some (.int kd), none, none, none, none, none] ∧ H' = H3, ?_, ?_⟩
    · refine ⟨_, rfl, rfl, _, rfl, ite2 (fun _ => ?_) (fun _ => iteF ⟨rfl, rfl⟩)⟩
      refine ⟨_, rfl, R, xs, rfl, .inl (SqL.of hR3), _, _, rfl, rfl, _, rfl, ite2 (fun _ => ?_) (fun _ => ⟨rfl, rfl⟩)⟩
      refine ⟨_, rfl, b, dl, 3, rfl, x13.b1, by decide, fun r H4 r0 r3 x4 => ⟨_, _, rfl, rfl, ?_⟩⟩
      obtain ⟨m, rfl⟩ := Int.eq_ofNat_of_zero_le r0
      have x14 := x13.trans x4
      refine ⟨le2, fun p1 hp1 => ⟨le0, fun p2 hp2 => ?_⟩⟩
      have t1 : TD K (upd H4 p1 (.tup [.str "read", .str "a"])) (.ref p1) jA.d := TD.new_tup hp1 (.cons (.str "read") (.cons (.str "a") .nil))
      have m1 := same_new (o := .tup [.str "read", .str "a"]) (.refl H4) hp1
      generalize upd H4 p1 (.tup [.str "read", .str "a"]) = G1 at *
      have t2 : TD K (upd G1 p2 (.tup [])) (.ref p2) (.tuple []) := TD.new_tup hp2 .nil
      have m2 := same_new (o := .tup []) (.refl G1) hp2
      have t1' := t1.mono (.same m2)
      have m12 := m1.trans m2
      generalize upd G1 p2 (.tup []) = G2 at *
      refine ⟨le4, fun p3 hp3 => ⟨le1, fun p4 hp4 => ?_⟩⟩
      have t3 : TD K (upd G2 p3 (.tup [.str "act", .ref p1, .ref p2, .int 1])) (.ref p3) (Row.d (.act jA [] 1)) := TD.new_tup hp3 (.cons (.str "act") (.cons t1' (.cons t2 (.cons (.int _) .nil))))
      have m3 := same_new (o := .tup [.str "act", .ref p1, .ref p2, .int 1]) m12 hp3
      generalize upd G2 p3 (.tup [.str "act", .ref p1, .ref p2, .int 1]) = G3 at *
      have m4 := same_new (o := .tup [.ref p3]) (.refl G3) hp4
      have h4 : SqT K (upd G3 p4 (.tup [.ref p3])) p4 [.ref p3] := SqT.of upd_same
      generalize upd G3 p4 (.tup [.ref p3]) = G4 at *
      refine ⟨le1, fun p5 hp5 => ⟨le1, fun p6 hp6 => ?_⟩⟩
      have t5 : TD K (upd G4 p5 (.tup [.str "stop"])) (.ref p5) (Row.d .stop) := TD.new_tup hp5 (.cons (.str "stop") .nil)
      have m5 := same_new (o := .tup [.str "stop"]) (.refl G4) hp5
      generalize upd G4 p5 (.tup [.str "stop"]) = G5 at *
      have m6 := same_new (o := .tup [.ref p5]) (.refl G5) hp6
      have h6 : SqT K (upd G5 p6 (.tup [.ref p5])) p6 [.ref p5] := SqT.of upd_same
      generalize upd G5 p6 (.tup [.ref p5]) = G6 at *
      refine ⟨_, rfl, p6, _, _, rfl, rfl, h6, (by intro e; cases e), by omega, by omega, (by show 1 ≤ 1000; decide), fun p7 hp7 => ?_⟩
      rw [flat_one]
      have em : (22 + (m : Int)).toNat = 22 + m := by omega
      rw [em]
      have m7 := same_new (o := .tup (List.replicate (22 + m) (.ref p5))) (.refl G6) hp7
      have h7 : SqT K (upd G6 p7 (.tup (List.replicate (22 + m) (.ref p5)))) p7 (List.replicate (22 + m) (.ref p5)) := SqT.of upd_same
      generalize upd G6 p7 (.tup (List.replicate (22 + m) (.ref p5))) = G7 at *
      have m57 := (m5.trans m6).trans m7
      refine cat_any (seqT m57 h4) h7 (by rw [List.length_replicate]; show 1 + (22 + m) ≤ 1000; omega) fun p8 G8 m8 h8 => ?_
      refine ⟨_, rfl, _, _, rfl, rfl, _, _, rfl, rfl, le2, fun z hz => ?_⟩
      have m58 := m57.trans m8
      have m48 := (m4.trans m58)
      have mz := same_new (o := .lst [.ref p8, .bl (decide (22 + (m : Int) + 1 ≤ 24))]) (.refl G8) hz
      have tt : TD K G8 (.ref p8) (.tuple ((row1 (22 + m)).map Row.d)) := by
        refine .tup h8 (.cons (t3.mono (.same m48)) ?_)
        rw [List.map_replicate]
        exact TDs.rep (t5.mono (.same ((m6.trans m7).trans m8))) _
      refine k z p8 (decide (22 + (m : Int) + 1 ≤ 24)) (row1 (22 + m)) _ upd_same ⟨tt.mono (.same mz), by rw [row1_len]; omega, ?_⟩ ?_ ?_ (x14.same ((m3.trans m48).trans mz))
      · intro r hr0
        rcases List.mem_cons.mp hr0 with h | h
        · rw [h]
          exact ⟨jA_wf, by show 0 ≤ 1000; decide, fun c hc => nomatch hc⟩
        · rw [List.eq_of_mem_replicate h]
          trivial
      · intro e
        rw [decide_eq_true_eq] at e
        refine agOk_of (row1_ok _ ?_)
        have : m = 0 ∨ m = 1 := by omega
        rcases this with rfl | rfl <;> decide
      · intro e g
        rw [decide_eq_false_iff_not] at e
        have := g.hi
        rw [row1_len] at this
        omega
    rintro σ4 H4 ⟨rfl, rfl⟩
    -- none to change
    have ret : ∀ {H' : Hp}, Same H4 H' → ∀ z, H' z = none → Q (.ref z) (upd H' z (.lst [.ref a, .bl true])) := fun s z hz =>
      k z a true rows _ upd_same ⟨(hT3.mono (.same s)).mono (.same (same_new (.refl _) hz)), hlen, hW⟩ (fun _ => hOk) (fun e => nomatch e) ((x13.same s).new hz)
    refine ⟨fun σ' H' => σ' = [some (.ref b), some (.ref a), some (.ref R), none, some (.ref D), some (.int kd), none, none, none, none, none] ∧ Same H4 H' ∧ acts ≠ [], ?_, ?_⟩
    · refine ⟨_, rfl, le0, fun l0 hl0 => ?_⟩
      have s5 := same_new (o := .lst []) (.refl H4) hl0
      have h5 : upd H4 l0 (.lst []) l0 = some (.lst []) := upd_same
      generalize upd H4 l0 (.lst []) = H5 at *
      refine ⟨.list (acts.map fun k => PyData.int (0 + (k : Nat))), .list [], .lst (SqL.of (s5 _ _ hL3)) (ints_dp _ acts), .lst (SqL.of h5) .nil, (Sh.list (n := 0) (ints_sh _ acts)).shaped, (Sh.list (n := 0) sh_nil).shaped, _, rfl, ?_⟩
      refine ite2 (fun _ => iteT ⟨_, rfl, le2, fun z hz => ret s5 z hz⟩) (fun c => ⟨_, rfl, rfl, _, rfl, ite2 (fun _ => ⟨_, rfl, le2, fun z hz => ret s5 z hz⟩) (fun _ => ⟨rfl, s5, fun e => c ?_⟩)⟩)
      rw [e]
      exact eqv_nil
    rintro σ5 H5 ⟨rfl, s5, hne⟩
    have x15 := x13.same s5
    have hR5 := s5 _ _ hR3
    have hL5 := s5 _ _ hL3
    have hD5 := hD3.mono (.same s5)
    have hapos : 0 < acts.length := List.length_pos_iff.mpr hne
    refine ⟨_, rfl, _, rfl, _, rfl, D, _, rfl, .inl (SqL.of hL5), b, dl, _, rfl, x15.b1, by rw [List.length_map]; omega, fun r H6 r0 r1 x6 => ?_⟩
    obtain ⟨v, hv, ev⟩ := menuV r0 r1
    obtain ⟨j, hj, rfl⟩ := List.mem_map.mp hv
    rw [hacts] at hj
    obtain ⟨hj1, hj2⟩ := List.mem_filter.mp hj
    obtain ⟨Ac, cs, o, hrow⟩ := actAt_inv hj2
    have hjl := act_lt hOk hrow
    rw [Int.zero_add] at ev
    have x16 := x15.trans x6
    have hR6 := x6.get hRb hR5
    have hD6 := hD5.mono x6.tp
    refine ⟨D, _, r, _, rfl, rfl, SqL.of (x6.get hDb hL5), ev, ?_⟩
    obtain ⟨rv, exj, trow⟩ := hD6.get' (by rw [List.getElem?_map, hrow]; rfl : (rows.map Row.d)[j]? = some (Row.d (.act Ac cs o)))
    obtain ⟨ra, ws, rfl, hS6, hI⟩ := trow.tup_inv
    obtain ⟨v0, y0, rfl, t0, hI⟩ := hI.cons_inv
    obtain ⟨v1, y1, rfl, t1, hI⟩ := hI.cons_inv
    obtain ⟨v2, y2, rfl, t2, hI⟩ := hI.cons_inv
    obtain ⟨v3, y3, rfl, t3, hI⟩ := hI.cons_inv
    have e3 := hI.nil_inv
    subst e3
    have e0 := t0.str_inv
    have e4 := t3.int_inv
    subst e0 e4
    refine ⟨_, rfl, _, rfl, R, xs, _, .ref ra, rfl, rfl, SqL.of hR6, atI_nat exj, ?_⟩
    have hwfr := hW _ (List.mem_of_getElem? hrow)
    have hrok := hOk.all _ _ hrow
    have hjx : j < xs.length := by omega
    have fin : ∀ (v6 v9 v10 : Option V) (g : Bool) (r' : Row) (v : V) (H' : Hp), Bx b dl H6 H' → H' R = some (.lst xs) → TD K H' v r'.d → r'.WF → (g = true → rowOk rows.length j r' = true) → (g = false → rowOk rows.length j r' = false) →
        BadP K b dl a R D ra j kd H [some (.ref b), some (.ref a), some (.ref R), some (.int ((j : Nat) : Int)), some (.ref D), some (.int kd), v6, some (.ref ra), some (.bl g), v9, v10] (upd H' R (.lst (xs.set j v))) := by
      intro v6 v9 v10 g r' v H' x7 hR7 t hw g1 g0
      refine ⟨v6, v9, v10, g, _, rows.set j r', rfl, (x16.trans x7).mut hR, upd_same, ?_, ?_, ?_, fun e => good_row hOk hrow (g1 e), fun e => bad_row (by omega) (g0 e)⟩
      · rw [List.map_set]
        exact ((hD6.mono x7.tp).set t j).mono (tp_lst hR7)
      · intro r hr0
        rcases List.mem_or_eq_of_mem_set hr0 with h | h
        · exact hW r h
        · rw [h]
          exact hw
      · rw [List.length_set]
        exact hlen
    refine ⟨fun σ' H' => BadP K b dl a R D ra j kd H σ' H', ?_, ?_⟩
    · refine ⟨_, rfl, rfl, _, rfl, ite2 (fun _ => ?_) (fun _ => ?_)⟩
      · -- kind 2
        refine ⟨_, rfl, ra, _, 0, _, rfl, rfl, hS6, rfl, _, rfl, ra, _, 1, _, rfl, rfl, hS6, rfl, _, rfl, ra, _, 2, _, rfl, rfl, hS6, rfl, _, rfl, _, rfl, R, xs, rfl, .inl (SqL.of hR6), 1, rfl, le4, fun L hL => ?_⟩
        have s7 := same_new (o := .lst [.int ((j : Nat) : Int), .int ((xs.length : Nat) : Int), .int 0, .int (-1)]) (.refl H6) hL
        have hL7 : upd H6 L (.lst [.int ((j : Nat) : Int), .int ((xs.length : Nat) : Int), .int 0, .int (-1)]) L = some (.lst [.int ((j : Nat) : Int), .int ((xs.length : Nat) : Int), .int 0, .int (-1)]) := upd_same
        have hLb : L ≠ b := (x16.b1.ne hL).1
        generalize upd H6 L (.lst [.int ((j : Nat) : Int), .int ((xs.length : Nat) : Int), .int 0, .int (-1)]) = H7 at *
        refine ⟨_, rfl, b, dl, 4, rfl, (x16.same s7).b1, by decide, fun r7 H8 r70 r71 x8 => ?_⟩
        obtain ⟨v, hv, ev⟩ := menuV (xs := [V.int ((j : Nat) : Int), .int ((xs.length : Nat) : Int), .int 0, .int (-1)]) r70 r71
        have x68 := (Bx.of x16.b1 s7).trans x8
        obtain ⟨o', rfl, ho⟩ : ∃ o' : Int, v = .int o' ∧ ¬ (((j : Nat) : Int) < o' ∧ o' < ((rows.length : Nat) : Int)) := by
          simp only [List.mem_cons, List.not_mem_nil, or_false] at hv
          rcases hv with rfl | rfl | rfl | rfl
          · exact ⟨_, rfl, by omega⟩
          · exact ⟨_, rfl, by omega⟩
          · exact ⟨_, rfl, by omega⟩
          · exact ⟨_, rfl, by omega⟩
        refine ⟨L, _, r7, _, rfl, rfl, SqL.of (x8.get hLb hL7), ev, le4, fun p hp => ?_⟩
        have x69 := x68.new (o := .tup [.str "act", v1, v2, .int o']) hp
        have hR9 := x69.get hRb hR6
        have tt : TD K (upd H8 p (.tup [.str "act", v1, v2, .int o'])) (.ref p) (Row.d (.act Ac cs o')) := TD.new_tup hp (.cons (.str "act") (.cons (t1.mono x68.tp) (.cons (t2.mono x68.tp) (.cons (.int o') .nil))))
        generalize upd H8 p (.tup [.str "act", v1, v2, .int o']) = H9 at *
        exact ⟨_, rfl, _, rfl, R, xs, _, j, rfl, rfl, hR9, ixN_at hjx, fin _ _ _ false (.act Ac cs o') (.ref p) _ x69 hR9 tt hwfr (fun e => nomatch e) (fun _ => rowB_o ho)⟩
      refine ⟨_, rfl, rfl, _, rfl, ite2 (fun _ => ?_) (fun _ => ?_)⟩
      · -- kind 3
        refine ⟨_, rfl, ra, _, 0, _, rfl, rfl, hS6, rfl, _, rfl, ra, _, 1, _, rfl, rfl, hS6, rfl, le1, fun p1 hp1 => ?_⟩
        have u1 : TD K (upd H6 p1 (.tup [.str "none"])) (.ref p1) jN := TD.new_tup hp1 (.cons (.str "none") .nil)
        have m1 := same_new (o := .tup [.str "none"]) (.refl H6) hp1
        generalize upd H6 p1 (.tup [.str "none"]) = G1 at *
        refine ⟨_, rfl, _, _, rfl, rfl, le2, fun p2 hp2 => ?_⟩
        have u2 : TD K (upd G1 p2 (.tup [.ref p1, .int (((j : Nat) : Int) + 1)])) (.ref p2) (Case.d ⟨jN, ((j : Nat) : Int) + 1⟩) := TD.new_tup hp2 (.cons u1 (.cons (.int _) .nil))
        have m2 := same_new (o := .tup [.ref p1, .int (((j : Nat) : Int) + 1)]) m1 hp2
        generalize upd G1 p2 (.tup [.ref p1, .int (((j : Nat) : Int) + 1)]) = G2 at *
        refine ⟨le1, fun p3 hp3 => ?_⟩
        have u3 : TD K (upd G2 p3 (.tup [.str "none"])) (.ref p3) jN := TD.new_tup hp3 (.cons (.str "none") .nil)
        have m3 := same_new (o := .tup [.str "none"]) (.refl G2) hp3
        generalize upd G2 p3 (.tup [.str "none"]) = G3 at *
        refine ⟨_, rfl, _, _, rfl, rfl, le2, fun p4 hp4 => ?_⟩
        have u4 : TD K (upd G3 p4 (.tup [.ref p3, .int (((j : Nat) : Int) + 1)])) (.ref p4) (Case.d ⟨jN, ((j : Nat) : Int) + 1⟩) := TD.new_tup hp4 (.cons u3 (.cons (.int _) .nil))
        have m4 := same_new (o := .tup [.ref p3, .int (((j : Nat) : Int) + 1)]) m3 hp4
        generalize upd G3 p4 (.tup [.ref p3, .int (((j : Nat) : Int) + 1)]) = G4 at *
        refine ⟨le2, fun p5 hp5 => ?_⟩
        have u5 : TD K (upd G4 p5 (.tup [.ref p2, .ref p4])) (.ref p5) (.tuple (([⟨jN, ((j : Nat) : Int) + 1⟩, ⟨jN, ((j : Nat) : Int) + 1⟩] : List Case).map Case.d)) := TD.new_tup hp5 (.cons (u2.mono (.same m4)) (.cons u4 .nil))
        have m5 := same_new (o := .tup [.ref p2, .ref p4]) (m2.trans m4) hp5
        generalize upd G4 p5 (.tup [.ref p2, .ref p4]) = G5 at *
        refine ⟨_, rfl, ra, _, 3, _, rfl, rfl, seqT m5 hS6, rfl, le4, fun p hp => ?_⟩
        have x69 := (Bx.of x16.b1 m5).new (o := .tup [.str "act", v1, .ref p5, .int o]) hp
        have hR9 := x69.get hRb hR6
        have tt : TD K (upd G5 p (.tup [.str "act", v1, .ref p5, .int o])) (.ref p) (Row.d (.act Ac [⟨jN, ((j : Nat) : Int) + 1⟩, ⟨jN, ((j : Nat) : Int) + 1⟩] o)) := TD.new_tup hp (.cons (.str "act") (.cons (t1.mono (.same m5)) (.cons u5 (.cons (.int o) .nil))))
        generalize upd G5 p (.tup [.str "act", v1, .ref p5, .int o]) = H9 at *
        exact ⟨_, rfl, _, rfl, R, xs, _, j, rfl, rfl, hR9, ixN_at hjx, fin _ _ _ false _ (.ref p) _ x69 hR9 tt ⟨hwfr.1, cs2_ok jN_sh jN_sh⟩ (fun e => nomatch e) (fun _ => rowB_dup (jN2_dup _))⟩
      refine ⟨_, rfl, rfl, _, rfl, ite2 (fun _ => ?_) (fun _ => ?_)⟩
      · -- kind 4
        refine ⟨_, rfl, b, dl, 3, rfl, x16.b1, by decide, fun r7 H7 r70 r71 x7 => ⟨_, _, rfl, rfl, ?_⟩⟩
        obtain ⟨m, rfl⟩ := Int.eq_ofNat_of_zero_le r70
        have hS7 := x7.tp _ _ hS6
        refine ⟨_, rfl, ra, _, 0, _, rfl, rfl, hS7, rfl, _, rfl, ra, _, 1, _, rfl, rfl, hS7, rfl, _, rfl, 5 + (m : Int), rfl, by omega, by omega, fun C hC => lc_range (lo := 0) (n := (5 + (m : Int)).toNat) (fun i H' => MadeD K H7 C ((casesM i (((j : Nat) : Int) + 1)).map Case.d) H') (MadeD.start hC) ?_ ?_⟩
        · rintro i H8 hi ⟨s8, vs8, h8, d8⟩
          refine ⟨rfl, lcY ⟨_, rfl, le2, fun p1 hp1 => ?_⟩⟩
          rw [Int.zero_add]
          have u1 : TD K (upd H8 p1 (.tup [.str "many", .int ((i : Nat) : Int)])) (.ref p1) (manyD ((i : Nat) : Int)) := TD.new_tup hp1 (.cons (.str "many") (.cons (.int _) .nil))
          have m1 := same_new (o := .tup [.str "many", .int ((i : Nat) : Int)]) (.refl H8) hp1
          generalize upd H8 p1 (.tup [.str "many", .int ((i : Nat) : Int)]) = G1 at *
          refine ⟨_, rfl, _, _, rfl, rfl, le2, fun p2 hp2 => ?_⟩
          have u2 : TD K (upd G1 p2 (.tup [.ref p1, .int (((j : Nat) : Int) + 1)])) (.ref p2) (Case.d ⟨manyD ((i : Nat) : Int), ((j : Nat) : Int) + 1⟩) := TD.new_tup hp2 (.cons u1 (.cons (.int _) .nil))
          have m2 := same_new (o := .tup [.ref p1, .int (((j : Nat) : Int) + 1)]) m1 hp2
          generalize upd G1 p2 (.tup [.ref p1, .int (((j : Nat) : Int) + 1)]) = G2 at *
          refine ⟨vs8, m2 _ _ h8, ?_, ?_⟩
          · rw [d8.length, List.length_map, casesM_len]
            exact sl_lt (by omega)
          · rw [casesM_more, List.map_append]
            exact MadeD.push hC (s8.trans m2) (m2 _ _ h8) (d8.mono (.same m2)) u2
        · rintro H8 ⟨s8, vs8, h8, d8⟩
          have em : (5 + (m : Int)).toNat = 5 + m := by omega
          rw [em] at d8
          refine ⟨C, vs8, rfl, .inl ⟨SqL.of h8, fun q hq => ?_⟩⟩
          have u5 := TD.new_tup hq d8
          have m5 := same_new (o := .tup vs8) s8 hq
          generalize upd H8 q (.tup vs8) = G5 at *
          refine ⟨_, rfl, ra, _, 3, _, rfl, rfl, seqT m5 hS7, rfl, le4, fun p hp => ?_⟩
          have x75 := x7.same m5
          have x69 := x75.new (o := .tup [.str "act", v1, .ref q, .int o]) hp
          have hR9 := x69.get hRb hR6
          have tt : TD K (upd G5 p (.tup [.str "act", v1, .ref q, .int o])) (.ref p) (Row.d (.act Ac (casesM (5 + m) (((j : Nat) : Int) + 1)) o)) := TD.new_tup hp (.cons (.str "act") (.cons (t1.mono x75.tp) (.cons u5 (.cons (.int o) .nil))))
          generalize upd G5 p (.tup [.str "act", v1, .ref q, .int o]) = H9 at *
          obtain ⟨hok, ho1, ho2⟩ := rowB_inv hrok
          refine ⟨_, rfl, _, rfl, R, xs, _, j, rfl, rfl, hR9, ixN_at hjx, _, rfl, _, _, rfl, rfl, fin _ _ _ (decide (5 + (m : Int) ≤ 6)) _ (.ref p) _ x69 hR9 tt ⟨hwfr.1, casesM_csOk (by omega)⟩ (fun e => ?_) (fun e => rowB_6 ?_)⟩
          · rw [decide_eq_true_eq] at e
            exact (casesM_ok (by omega)).ok (by rw [casesM_len]; omega) hok ho1 ho2
          · rw [decide_eq_false_iff_not] at e
            rw [casesM_len]
            omega
      refine ⟨_, rfl, rfl, _, rfl, ite2 (fun _ => ?_) (fun _ => ?_)⟩
      · -- kind 5
        refine ⟨_, rfl, ra, _, 0, _, rfl, rfl, hS6, rfl, le2, fun p1 hp1 => ?_⟩
        have u1 : TD K (upd H6 p1 (.tup [.str "read", .str "A"])) (.ref p1) (Act.d (.two "read" "A")) := TD.new_tup hp1 (.cons (.str "read") (.cons (.str "A") .nil))
        have m1 := same_new (o := .tup [.str "read", .str "A"]) (.refl H6) hp1
        generalize upd H6 p1 (.tup [.str "read", .str "A"]) = G1 at *
        refine ⟨le3, fun p2 hp2 => ?_⟩
        have u2 : TD K (upd G1 p2 (.tup [.str "find", .str "", .str ""])) (.ref p2) (Act.d (.find "" "")) := TD.new_tup hp2 (.cons (.str "find") (.cons (.str "") (.cons (.str "") .nil)))
        have m2 := same_new (o := .tup [.str "find", .str "", .str ""]) (.refl G1) hp2
        generalize upd G1 p2 (.tup [.str "find", .str "", .str ""]) = G2 at *
        refine ⟨le0, fun p3 hp3 => ?_⟩
        have u3 : TD K (upd G2 p3 (.tup [])) (.ref p3) (ldD []) := TD.new_tup hp3 .nil
        have m3 := same_new (o := .tup []) (.refl G2) hp3
        generalize upd G2 p3 (.tup []) = G3 at *
        refine ⟨le1, fun p4 hp4 => ?_⟩
        have u4 : TD K (upd G3 p4 (.tup [.str "x"])) (.ref p4) (ldD ["x"]) := TD.new_tup hp4 (.cons (.str "x") .nil)
        have m4 := same_new (o := .tup [.str "x"]) (.refl G3) hp4
        generalize upd G3 p4 (.tup [.str "x"]) = G4 at *
        refine ⟨le4, fun p5 hp5 => ?_⟩
        have u5 : TD K (upd G4 p5 (.tup [.str "splice", .str "a", .ref p3, .ref p4])) (.ref p5) (Act.d (.splice "a" [] ["x"])) := TD.new_tup hp5 (.cons (.str "splice") (.cons (.str "a") (.cons (u3.mono (.same m4)) (.cons u4 .nil))))
        have m5 := same_new (o := .tup [.str "splice", .str "a", .ref p3, .ref p4]) (.refl G4) hp5
        generalize upd G4 p5 (.tup [.str "splice", .str "a", .ref p3, .ref p4]) = G5 at *
        refine ⟨le3, fun L hL => ?_⟩
        have m6 := same_new (o := .lst [.ref p1, .ref p2, .ref p5]) (.refl G5) hL
        have hL7 : upd G5 L (.lst [.ref p1, .ref p2, .ref p5]) L = some (.lst [.ref p1, .ref p2, .ref p5]) := upd_same
        generalize upd G5 L (.lst [.ref p1, .ref p2, .ref p5]) = G6 at *
        have all : ∀ u ∈ [V.ref p1, .ref p2, .ref p5], ∃ A', TD K G6 u (Act.d A') ∧ A'.WF ∧ A'.okB = false := by
          intro u hu
          simp only [List.mem_cons, List.not_mem_nil, or_false] at hu
          rcases hu with rfl | rfl | rfl
          · exact ⟨_, u1.mono (.same ((((m2.trans m3).trans m4).trans m5).trans m6)), bad_wf.1, bad_acts.1⟩
          · exact ⟨_, u2.mono (.same (((m3.trans m4).trans m5).trans m6)), bad_wf.2.1, bad_acts.2.1⟩
          · exact ⟨_, u5.mono (.same m6), bad_wf.2.2, bad_acts.2.2⟩
        have s7 : Same H6 G6 := ((((m1.trans m2).trans m3).trans m4).trans m5).trans m6
        have x67 := Bx.of x16.b1 s7
        have hLb : L ≠ b := by
          intro e
          obtain ⟨ds, at_, h1, _⟩ := x67.b1
          rw [e, h1] at hL7
          have e2 := congrArg List.length (HO.lst.inj (Option.some.inj hL7))
          cases e2
        refine ⟨_, rfl, b, dl, 3, rfl, x67.b1, by decide, fun r7 H8 r70 r71 x8 => ?_⟩
        obtain ⟨v, hv, ev⟩ := menuV (xs := [V.ref p1, .ref p2, .ref p5]) r70 r71
        obtain ⟨A', tA, hwA, hbA⟩ := all v hv
        have x68 := x67.trans x8
        have hS8 := x68.tp _ _ hS6
        refine ⟨L, _, r7, _, rfl, rfl, SqL.of (x8.get hLb hL7), ev, _, rfl, ra, _, 2, _, rfl, rfl, hS8, rfl, _, rfl, ra, _, 3, _, rfl, rfl, hS8, rfl, le4, fun p hp => ?_⟩
        have x69 := x68.new (o := .tup [.str "act", v, v2, .int o]) hp
        have hR9 := x69.get hRb hR6
        have tt : TD K (upd H8 p (.tup [.str "act", v, v2, .int o])) (.ref p) (Row.d (.act A' cs o)) := TD.new_tup hp (.cons (.str "act") (.cons (tA.mono x8.tp) (.cons (t2.mono x68.tp) (.cons (.int o) .nil))))
        generalize upd H8 p (.tup [.str "act", v, v2, .int o]) = H9 at *
        exact ⟨_, rfl, _, rfl, R, xs, _, j, rfl, rfl, hR9, ixN_at hjx, fin _ _ _ false _ (.ref p) _ x69 hR9 tt ⟨hwA, hwfr.2⟩ (fun e => nomatch e) (fun _ => rowB_A hbA)⟩
      -- kind 6
      refine ⟨_, rfl, _, rfl, R, xs, rfl, .inl (SqL.of hR6), 1, rfl, le3, fun L hL => ?_⟩
      have s7 := same_new (o := .lst [.int ((j : Nat) : Int), .int ((xs.length : Nat) : Int), .int (-1)]) (.refl H6) hL
      have hL7 : upd H6 L (.lst [.int ((j : Nat) : Int), .int ((xs.length : Nat) : Int), .int (-1)]) L = some (.lst [.int ((j : Nat) : Int), .int ((xs.length : Nat) : Int), .int (-1)]) := upd_same
      have hLb : L ≠ b := (x16.b1.ne hL).1
      generalize upd H6 L (.lst [.int ((j : Nat) : Int), .int ((xs.length : Nat) : Int), .int (-1)]) = H7 at *
      refine ⟨_, rfl, b, dl, 3, rfl, (x16.same s7).b1, by decide, fun r7 H8 r70 r71 x8 => ?_⟩
      obtain ⟨v, hv, ev⟩ := menuV (xs := [V.int ((j : Nat) : Int), .int ((xs.length : Nat) : Int), .int (-1)]) r70 r71
      have x68 := (Bx.of x16.b1 s7).trans x8
      obtain ⟨z, rfl, hz⟩ : ∃ z : Int, v = .int z ∧ ¬ (((j : Nat) : Int) < z ∧ z < ((rows.length : Nat) : Int)) := by
        simp only [List.mem_cons, List.not_mem_nil, or_false] at hv
        rcases hv with rfl | rfl | rfl
        · exact ⟨_, rfl, by omega⟩
        · exact ⟨_, rfl, by omega⟩
        · exact ⟨_, rfl, by omega⟩
      refine ⟨L, _, r7, _, rfl, rfl, SqL.of (x8.get hLb hL7), ev, ?_⟩
      have hS8 := x68.tp _ _ hS6
      have hR8 := x68.get hRb hR6
      refine ⟨_, rfl, ra, _, 0, _, rfl, rfl, hS8, rfl, _, rfl, ra, _, 1, _, rfl, rfl, hS8, rfl, le1, fun p1 hp1 => ?_⟩
      have u1 : TD K (upd H8 p1 (.tup [.str "none"])) (.ref p1) jN := TD.new_tup hp1 (.cons (.str "none") .nil)
      have m1 := same_new (o := .tup [.str "none"]) (.refl H8) hp1
      generalize upd H8 p1 (.tup [.str "none"]) = G1 at *
      refine ⟨_, rfl, le2, fun p2 hp2 => ?_⟩
      have u2 : TD K (upd G1 p2 (.tup [.ref p1, .int z])) (.ref p2) (Case.d ⟨jN, z⟩) := TD.new_tup hp2 (.cons u1 (.cons (.int _) .nil))
      have m2 := same_new (o := .tup [.ref p1, .int z]) m1 hp2
      generalize upd G1 p2 (.tup [.ref p1, .int z]) = G2 at *
      refine ⟨le1, fun p3 hp3 => ?_⟩
      have u3 : TD K (upd G2 p3 (.tup [.ref p2])) (.ref p3) (.tuple (([⟨jN, z⟩] : List Case).map Case.d)) := TD.new_tup hp3 (.cons u2 .nil)
      have m3 := same_new (o := .tup [.ref p2]) m2 hp3
      generalize upd G2 p3 (.tup [.ref p2]) = G3 at *
      refine ⟨le1, fun p4 hp4 => ?_⟩
      have u4 : TD K (upd G3 p4 (.tup [.str "none"])) (.ref p4) jN := TD.new_tup hp4 (.cons (.str "none") .nil)
      have m4 := same_new (o := .tup [.str "none"]) (.refl G3) hp4
      generalize upd G3 p4 (.tup [.str "none"]) = G4 at *
      refine ⟨_, rfl, _, _, rfl, rfl, le2, fun p5 hp5 => ?_⟩
      have u5 : TD K (upd G4 p5 (.tup [.ref p4, .int (((j : Nat) : Int) + 1)])) (.ref p5) (Case.d ⟨jN, ((j : Nat) : Int) + 1⟩) := TD.new_tup hp5 (.cons u4 (.cons (.int _) .nil))
      have m5 := same_new (o := .tup [.ref p4, .int (((j : Nat) : Int) + 1)]) m4 hp5
      generalize upd G4 p5 (.tup [.ref p4, .int (((j : Nat) : Int) + 1)]) = G5 at *
      refine ⟨le2, fun p6 hp6 => ?_⟩
      have u6 : TD K (upd G5 p6 (.tup [.str "many", .int 1])) (.ref p6) (manyD 1) := TD.new_tup hp6 (.cons (.str "many") (.cons (.int _) .nil))
      have m6 := same_new (o := .tup [.str "many", .int 1]) (.refl G5) hp6
      generalize upd G5 p6 (.tup [.str "many", .int 1]) = G6 at *
      refine ⟨_, rfl, le2, fun p7 hp7 => ?_⟩
      have u7 : TD K (upd G6 p7 (.tup [.ref p6, .int z])) (.ref p7) (Case.d ⟨manyD 1, z⟩) := TD.new_tup hp7 (.cons u6 (.cons (.int _) .nil))
      have m7 := same_new (o := .tup [.ref p6, .int z]) m6 hp7
      generalize upd G6 p7 (.tup [.ref p6, .int z]) = G7 at *
      refine ⟨le2, fun p8 hp8 => ?_⟩
      have u8 : TD K (upd G7 p8 (.tup [.ref p5, .ref p7])) (.ref p8) (.tuple (([⟨jN, ((j : Nat) : Int) + 1⟩, ⟨manyD 1, z⟩] : List Case).map Case.d)) := TD.new_tup hp8 (.cons (u5.mono (.same m7)) (.cons u7 .nil))
      have m8 := same_new (o := .tup [.ref p5, .ref p7]) (m5.trans m7) hp8
      generalize upd G7 p8 (.tup [.ref p5, .ref p7]) = G8 at *
      refine ⟨le2, fun L2 hL2 => ?_⟩
      have m9 := same_new (o := .lst [.ref p3, .ref p8]) (.refl G8) hL2
      have h9 : upd G8 L2 (.lst [.ref p3, .ref p8]) L2 = some (.lst [.ref p3, .ref p8]) := upd_same
      have hLb2 : L2 ≠ b := (((x16.trans x68).same (m3.trans m8)).b1.ne hL2).1
      generalize upd G8 L2 (.lst [.ref p3, .ref p8]) = G9 at *
      have all : ∀ u ∈ [V.ref p3, .ref p8], ∃ cs' : List Case, TD K G9 u (.tuple (cs'.map Case.d)) ∧ CsOk cs' ∧ inB cs' ((j : Nat) : Int) ((rows.length : Nat) : Int) = false := by
        intro u hu
        simp only [List.mem_cons, List.not_mem_nil, or_false] at hu
        rcases hu with rfl | rfl
        · exact ⟨_, u3.mono (.same (m8.trans m9)), cs1_ok z, inB_no (List.mem_cons_self ..) hz⟩
        · exact ⟨_, u8.mono (.same m9), cs2_ok jN_sh (manyD_sh 1), inB_no (List.mem_cons_of_mem _ (List.mem_cons_self ..)) hz⟩
      have x69 := x68.same ((m3.trans m8).trans m9)
      refine ⟨_, rfl, b, dl, 2, rfl, x69.b1, by decide, fun ry H10 r90 r91 x10 => ?_⟩
      obtain ⟨v, hv, ev⟩ := menuV (xs := [V.ref p3, .ref p8]) r90 r91
      obtain ⟨cs', tC', hwC, hbC⟩ := all v hv
      have x610 := x69.trans x10
      refine ⟨L2, _, ry, _, rfl, rfl, SqL.of (x10.get hLb2 h9), ev, _, rfl, ra, _, 3, _, rfl, rfl, x610.tp _ _ hS6, rfl, le4, fun p hp => ?_⟩
      have x611 := x610.new (o := .tup [.str "act", v1, v, .int o]) hp
      have hR11 := x611.get hRb hR6
      have tt : TD K (upd H10 p (.tup [.str "act", v1, v, .int o])) (.ref p) (Row.d (.act Ac cs' o)) := TD.new_tup hp (.cons (.str "act") (.cons (t1.mono x610.tp) (.cons (tC'.mono x10.tp) (.cons (.int o) .nil))))
      generalize upd H10 p (.tup [.str "act", v1, v, .int o]) = H11 at *
      exact ⟨_, rfl, _, rfl, R, xs, _, j, rfl, rfl, hR11, ixN_at hjx, fin _ _ _ false _ (.ref p) _ x611 hR11 tt ⟨hwfr.1, hwC⟩ (fun e => nomatch e) (fun _ => rowB_in hbC)⟩
    rintro σ7 H7 ⟨v6, v9, v10, g, vs2, rs2, rfl, x7, hR7, hD7, hW7, hl7, g1, g0⟩
    refine ⟨_, rfl, R, vs2, rfl, .inl ⟨SqL.of hR7, fun t ht => ⟨_, rfl, le2, fun z hz => ?_⟩⟩⟩
    have tt := TD.new_tup ht hD7
    have x8 := x7.new (o := .tup vs2) ht
    generalize upd H7 t (.tup vs2) = H8 at *
    exact k z t g rs2 _ upd_same ⟨tt.mono (.same (same_new (.refl H8) hz)), hl7, hW7⟩ g1 g0 (x8.new hz)
end
end K23
/-! ### the law -/
namespace K23
open PySem PySem.Spec PyProof.Rows L2
theorem rowsF_ok : ∀ m ∈ [20, 21, 22], agOkB (rowsF m) = true := by decide +kernel
theorem rowsD_ok : ∀ m ∈ [20, 21, 22], ∀ i ∈ List.range m, agOkB (rowsD m ((i : Nat) : Int)) = true := by decide +kernel
theorem m_in {m : Nat} (h : m < 3) : 20 + m ∈ [20, 21, 22] := by
  have : m = 0 ∨ m = 1 ∨ m = 2 := by omega
  rcases this with rfl | rfl | rfl <;> decide
theorem no_nil : ¬ AgentOk [] := fun g => by
  have := g.lo
  cases this
def refD : PyData := .tuple [.str "refused", .str "agent"]
theorem refD_sh : Sh 1 refD := .tuple (sh_cons (.str (by decide +kernel)) (sh_cons (.str (by decide +kernel)) sh_nil))
theorem refD_eq : (!PyData.eqv refD refD) = false := by rw [refD_sh.refl] <;> rfl
def topD : PyData := .tuple [.int 24, .int 6]
theorem topD_sh : Sh 1 topD := .tuple (sh_cons (.int _) (sh_cons (.int _) sh_nil))
theorem topD_eq : (!PyData.eqv topD topD) = false := by rw [topD_sh.refl] <;> rfl
theorem none_eq : (!PyData.eqv .none .none) = false := by
  simp only [PyData.eqv]
  rfl
section
variable {P : Program} {w : World} {K : PySem.W.Frag} {mg : Str → Option Value} {base : Heap} {C f : Addr} {fd : FuncData}
theorem fn0 {x : Str} {st : Stmt} {N ps : List Str} {k : Nat} {sp : Sp} (F : FunD K x x (defArgs st) (defBody st) (defScope st) [] [] f fd) (S : FnScope N ps (defScope st)) (len : ∀ vs H Q E, sp vs H Q E → vs.length = ps.length)
    (hbody : ∀ (cdv : Value) (A : Around) (outer : List Env) (s : Shared) (H : Hp) (vs : List V) (Q : VK) (E : XK), Room k (A.deeper (envOfC x (defScope st) s.heap.objs.size f cdv)) → sp vs H Q E →
      ∃ t, PSs (cxOf CX0 P w K mg base N x (defScope st) f cdv A outer s H E).nox (defBody st) t ∧ t { nx := fun _ H' => Q .non H', rt := Q } (start N vs) H) : FnOk P w K mg base CX0 (k + 1) f fd ps sp :=
  F.ok S len fun cdv A outer s H vs Q E hr h => by
    obtain ⟨t, p, q⟩ := hbody cdv A outer s H vs Q E hr h
    exact ⟨t, p.nox, q⟩
theorem passF {X : Cx} : Passes (L2.CX X.prog X.w) X E0 := fun _ _ _ _ _ _ _ h => by
  obtain ⟨_, _, _, _, _, _, _, _, _, _, _, _, e⟩ := h
  exact e.elim
def spLaw (K : PySem.W.Frag) : Sp := fun vs H Q _ => ∃ (a : Addr) (ns : List Int), vs = [.ref a] ∧ SqL K H a (ns.map V.int) ∧ ∀ H', Q (.bl true) H'
def n_law : List Str := ["_law_script", "_law_box", "_law_turn", "_law_told", "_law_due", "_law_many", "_law_journal"]
theorem sc_law : FnScope n_law ["_law_script"] (defScope s_law) := ⟨rfl, rfl, rfl, by decide +kernel, rfl, by decide +kernel, by decide +kernel⟩
theorem ok_law (F : FunD K "law" "law" (defArgs s_law) (defBody s_law) (defScope s_law) [] [] f fd) (T : Txt K mg) (c_digits : Cal P w K mg base CX0 2 "_law_digits" (spDigits K)) (c_refused : Cal P w K mg base CX0 8 "_law_refused" (spRef K)) (c_bad : Cal P w K mg base CX0 2 "_law_bad" (spBad K)) (c_agent : Cal P w K mg base CX0 7 "_law_agent" (spAgent K))
    (c_files : Cal P w K mg base CX0 4 "_law_files" (spFiles K)) (c_draw : Cal P w K mg base CX0 1 "_law_draw" spDraw) (c_check_agent : Cal P w K mg base (L2.CX P w) 7 "check_agent" (spChkAg K C)) (c_follower : Cal P w K mg base CX0 1 "follower" (spFol K)) (c_doubter : Cal P w K mg base CX0 1 "doubter" (spDbt K)) :
    FnOk P w K mg base CX0 9 f fd ["_law_script"] (spLaw K) := by
  refine fn0 F sc_law (fun vs H Q E h => ?_) (fun cdv A outer s H vs Q E hr h => ?_)
  · obtain ⟨a, ns, rfl, _⟩ := h
    rfl
  · obtain ⟨a, ns, rfl, hS, k⟩ := h
    refine ⟨_, (pss_cons (ps_set (i := 1) sc_law.nd rfl (Or.inl rfl) (pe_lst (pa_cons (pe_c c_digits hr (by decide) (by rfl) (pa_cons (pv 0) (pa_cons pe_int (pa_cons pe_int pa_nil)))) (pa_cons pe_int pa_nil))))
      (pss_cons (ps_if (PW.pt (pw_or (pt_cmpR (op_neD hr.units) (pe_tup (pa_cons (pe_g (by rfl) T.ROWS) (pa_cons (pe_g (by rfl) T.CASES) pa_nil))) (pe_tup (pa_cons pe_int (pa_cons pe_int pa_nil))) (nomark _)) (pw_or1 (pt_cmpR (op_neD hr.units) (pe_c c_refused hr (by decide) (by rfl) (pa_cons (pe_tup pa_nil) pa_nil)) (pe_tup (pa_cons pe_str (pa_cons pe_str pa_nil))) (nomark _))))) (pss_one (ps_ret pe_bl)) pss_nil)
      (pss_cons (ps_for PassesOwn.never rfl (pi_range1 (by rfl) T.range (pa_cons pe_int pa_nil)) (pg_name (i := 2) sc_law.nd rfl (Or.inl rfl))
        (pss_cons (ps_set (i := 3) sc_law.nd rfl (Or.inl rfl) (pe_c c_bad hr (by decide) (by rfl) (pa_cons (pv 1) (pa_cons (pe_c c_agent hr (by decide) (by rfl) (pa_cons (pv 1) (pa_cons (pe_c c_files hr (by decide) (by rfl) (pa_cons (pv 1) (pa_cons pe_int pa_nil))) (pa_cons pe_int pa_nil)))) pa_nil))))
      (pss_cons (ps_set (i := 4) sc_law.nd rfl (Or.inl rfl) (pe_tup (pa_cons pe_str (pa_cons pe_str pa_nil))))
      (pss_cons (ps_if (pt_val (pe_ix ix_list (pv 3) pe_int (fun _ _ => rfl))) (pss_one (ps_set (i := 4) sc_law.nd rfl (Or.inl rfl) pe_non)) pss_nil)
      (pss_one (ps_if (pt_cmpR (op_neD hr.units) (pe_c c_refused hr (by decide) (by rfl) (pa_cons (pe_ix ix_list (pv 3) pe_int (fun _ _ => rfl)) pa_nil)) (pv 4) (nomark _)) (pss_one (ps_ret pe_bl)) pss_nil))))))
      (pss_cons (ps_set (i := 5) sc_law.nd rfl (Or.inl rfl) (pe_op op_add pe_int (pe_c c_draw hr (by decide) (by rfl) (pa_cons (pv 1) (pa_cons pe_int pa_nil)))))
      (pss_cons (ps_set (i := 6) sc_law.nd rfl (Or.inl rfl) (pe_op op_repT (pe_tup (pa_cons (pe_tup (pa_cons (pe_tup (pa_cons pe_str (pa_cons pe_str pa_nil))) (pa_cons (pe_tup (pa_cons pe_str pa_nil)) pa_nil))) pa_nil)) (pv 5)))
      (pss_one (ps_ret (pe_and (pe_cmpR op_isN (pe_cE c_check_agent passF hr (by decide) (by rfl) (pa_cons (pe_c c_follower hr (by decide) (by rfl) (pa_cons (pv 6) pa_nil)) pa_nil)) pe_non (nomark _)) (pe_one (pe_cmpR op_isN (pe_cE c_check_agent passF hr (by decide) (by rfl) (pa_cons (pe_c c_doubter hr (by decide) (by rfl) (pa_cons (pv 6) (pa_cons (pe_c c_draw hr (by decide) (by rfl) (pa_cons (pv 1) (pa_cons (pv 5) pa_nil))) pa_nil))) pa_nil)) pe_non (nomark _))))))))))), ?_⟩
    refine ⟨_, rfl, a, ns, rfl, hS, fun l ds H1 hl s1 h1 hds => ⟨le2, fun b hb => ?_⟩⟩
    have hB : BoxAt (upd H1 b (.lst [.ref l, .int 0])) b l := ⟨ds, 0, upd_same, by rw [upd_ne (ne_of_none h1 hb)]; exact h1, ne_of_none h1 hb, by decide, hds⟩
    generalize upd H1 b (.lst [.ref l, .int 0]) = H2 at *
    -- the two bounds, the empty agent
    refine ⟨le2, fun p1 hp1 => ?_⟩
    have t1 : TD K (upd H2 p1 (.tup [.int 24, .int 6])) (.ref p1) topD := TD.new_tup hp1 (.cons (.int _) (.cons (.int _) .nil))
    have m1 := same_new (o := .tup [.int 24, .int 6]) (.refl H2) hp1
    generalize upd H2 p1 (.tup [.int 24, .int 6]) = G1 at *
    refine ⟨le2, fun p2 hp2 => ?_⟩
    have t2 : TD K (upd G1 p2 (.tup [.int 24, .int 6])) (.ref p2) topD := TD.new_tup hp2 (.cons (.int _) (.cons (.int _) .nil))
    have m2 := same_new (o := .tup [.int 24, .int 6]) (.refl G1) hp2
    generalize upd G1 p2 (.tup [.int 24, .int 6]) = G2 at *
    refine ⟨_, _, (t1.mono (.same m2)).dp, t2.dp, topD_sh.shaped, topD_sh.shaped, _, rfl, ifF topD_eq ?_⟩
    refine ⟨le0, fun p3 hp3 => ?_⟩
    have t3 : TD K (upd G2 p3 (.tup [])) (.ref p3) (.tuple (([] : List Row).map Row.d)) := TD.new_tup hp3 .nil
    have m3 := same_new (o := .tup []) (m1.trans m2) hp3
    generalize upd G2 p3 (.tup []) = G3 at *
    refine ⟨p3, [], rfl, ⟨t3, by decide, fun r hr0 => nomatch hr0⟩, fun g => absurd g no_nil, fun _ p4 G4 m4 t4 => ?_⟩
    refine ⟨le2, fun p5 hp5 => ?_⟩
    have t5 : TD K (upd G4 p5 (.tup [.str "refused", .str "agent"])) (.ref p5) refD := TD.new_tup hp5 (.cons (.str _) (.cons (.str _) .nil))
    have m5 := same_new (o := .tup [.str "refused", .str "agent"]) (.refl G4) hp5
    generalize upd G4 p5 (.tup [.str "refused", .str "agent"]) = G5 at *
    refine ⟨_, _, (t4.mono (.same m5)).dp, t5.dp, refD_sh.shaped, refD_sh.shaped, _, rfl, ifF refD_eq ?_⟩
    have hB5 := hB.same ((m3.trans m4).trans m5)
    -- six agents
    refine ⟨6, rfl, by decide, by decide, for_range (lo := 0) (n := 6) (fun i σ H' => ∃ v2 v3 v4 v5 v6 : Option V, σ = [some (.ref a), some (.ref b), v2, v3, v4, v5, v6] ∧ BoxAt H' b l) ?_ ?_ ?_⟩
    · exact ⟨none, none, none, none, none, rfl, hB5⟩
    · rintro i σ H3 hi ⟨v2, v3, v4, v5, v6, rfl, hB3⟩
      refine ⟨_, rfl, _, rfl, _, rfl, b, l, rfl, hB3, fun d kvs H4 hd hF x4 => ⟨b, l, d, kvs, rfl, x4.b1, hF, fun p rows H6 hA hOk x6 => ⟨b, l, p, rows, rfl, x6.b1, hA, hOk, fun t q g rows' H7 ht hA7 g1 g0 x7 => ?_⟩⟩⟩
      refine ⟨le2, fun p8 hp8 => ?_⟩
      have t8 : TD K (upd H7 p8 (.tup [.str "refused", .str "agent"])) (.ref p8) refD := TD.new_tup hp8 (.cons (.str _) (.cons (.str _) .nil))
      have m8 := same_new (o := .tup [.str "refused", .str "agent"]) (.refl H7) hp8
      generalize upd H7 p8 (.tup [.str "refused", .str "agent"]) = H8 at *
      have ht8 := m8 _ _ ht
      have hA8 := hA7.mono (.same m8)
      have hB8 := x7.b1.same m8
      cases g with
      | true =>
        refine ⟨_, rfl, t, _, 1, .bl true, rfl, rfl, SqL.of ht8, rfl, true, rfl, iteT ?_⟩
        refine ⟨_, rfl, t, _, 0, .ref q, rfl, rfl, SqL.of ht8, rfl, q, rows', rfl, hA8, fun _ H9 s9 => ⟨_, rfl, .none, .none, .non, .non, rfl, rfl, _, rfl, ifF none_eq ⟨_, _, _, _, _, rfl, hB8.same s9⟩⟩, fun ng => absurd (g1 rfl) ng⟩
      | false =>
        refine ⟨_, rfl, t, _, 1, .bl false, rfl, rfl, SqL.of ht8, rfl, false, rfl, iteF ?_⟩
        refine ⟨_, rfl, t, _, 0, .ref q, rfl, rfl, SqL.of ht8, rfl, q, rows', rfl, hA8, fun ok => absurd ok (g0 rfl), fun _ p9 H9 s9 t9 => ?_⟩
        exact ⟨_, rfl, _, _, t9.dp, (t8.mono (.same s9)).dp, refD_sh.shaped, refD_sh.shaped, _, rfl, ifF refD_eq ⟨_, _, _, _, _, rfl, hB8.same s9⟩⟩
    · rintro σ H3 ⟨v2, v3, v4, v5, v6, rfl, hB3⟩
      refine ⟨_, rfl, b, l, 3, rfl, hB3, by decide, fun r H4 r0 r3 x4 => ⟨_, _, rfl, rfl, ?_⟩⟩
      obtain ⟨m, rfl⟩ := Int.eq_ofNat_of_zero_le r0
      refine ⟨le2, fun p1 hp1 => ?_⟩
      have u1 : TD K (upd H4 p1 (.tup [.str "read", .str "a"])) (.ref p1) jA.d := TD.new_tup hp1 (.cons (.str "read") (.cons (.str "a") .nil))
      have n1 := same_new (o := .tup [.str "read", .str "a"]) (.refl H4) hp1
      generalize upd H4 p1 (.tup [.str "read", .str "a"]) = F1 at *
      refine ⟨le1, fun p2 hp2 => ?_⟩
      have u2 : TD K (upd F1 p2 (.tup [.str "none"])) (.ref p2) jN := TD.new_tup hp2 (.cons (.str "none") .nil)
      have n2 := same_new (o := .tup [.str "none"]) (.refl F1) hp2
      generalize upd F1 p2 (.tup [.str "none"]) = F2 at *
      refine ⟨le2, fun p3 hp3 => ?_⟩
      have u3 : TD K (upd F2 p3 (.tup [.ref p1, .ref p2])) (.ref p3) jE := TD.new_tup hp3 (.cons (u1.mono (.same n2)) (.cons u2 .nil))
      have n3 := same_new (o := .tup [.ref p1, .ref p2]) (n1.trans n2) hp3
      generalize upd F2 p3 (.tup [.ref p1, .ref p2]) = F3 at *
      refine ⟨le1, fun p4 hp4 => ?_⟩
      have n4 := same_new (o := .tup [.ref p3]) (.refl F3) hp4
      have h4 : SqT K (upd F3 p4 (.tup [.ref p3])) p4 [.ref p3] := SqT.of upd_same
      generalize upd F3 p4 (.tup [.ref p3]) = F4 at *
      refine ⟨_, rfl, p4, _, _, rfl, rfl, h4, (by intro e; cases e), by omega, by omega, (by show 1 ≤ 1000; decide), fun p5 hp5 => ?_⟩
      rw [flat_one]
      have em : (20 + (m : Int)).toNat = 20 + m := by omega
      rw [em]
      have u5 : TD K (upd F4 p5 (.tup (List.replicate (20 + m) (.ref p3)))) (.ref p5) (.tuple (List.replicate (20 + m) jE)) := TD.new_tup hp5 (TDs.rep (u3.mono (.same n4)) _)
      have n5 := same_new (o := .tup (List.replicate (20 + m) (.ref p3))) (n3.trans n4) hp5
      generalize upd F4 p5 (.tup (List.replicate (20 + m) (.ref p3))) = F5 at *
      have hm3 : m < 3 := by omega
      have okF := agOk_of (rowsF_ok _ (m_in hm3))
      have eT : decide (V.non = V.non) = true := decide_eq_true rfl
      refine ⟨_, rfl, p5, 20 + m, rfl, u5, by omega, fun pf F6 s6 hAf => ⟨pf, _, rfl, hAf, fun _ F7 s7 => ⟨rfl, _, rfl, ifT eT ?_⟩, fun ng => absurd okF ng⟩⟩
      have x7 : Bx b l H3 F7 := x4.same ((n5.trans s6).trans s7)
      refine ⟨_, rfl, _, rfl, _, rfl, b, l, _, rfl, x7.b1, by omega, fun at_ F8 a0 a1 x8 => ?_⟩
      obtain ⟨i, rfl⟩ := Int.eq_ofNat_of_zero_le a0
      have okD := agOk_of (rowsD_ok _ (m_in hm3) i (List.mem_range.mpr (by omega)))
      refine ⟨p5, 20 + m, _, rfl, (u5.mono (.same (s6.trans s7))).mono x8.tp, by omega, a0, by omega, fun pd F9 s9 hAd => ⟨pd, _, rfl, hAd, fun _ F10 s10 => ⟨rfl, ?_⟩, fun ng => absurd okD ng⟩⟩
      rw [eT]
      exact k F10
end
end K23
namespace K23
open PySem PySem.Spec PyProof.Rows L2
def hfn : List He.DefD := [
  ⟨("is_name", none), "is_name", "is_name", defArgs s_is_name, defBody s_is_name, defScope s_is_name, [], []⟩,
  ⟨("is_path", none), "is_path", "is_path", defArgs s_is_path, defBody s_is_path, defScope s_is_path, [], []⟩,
  ⟨("is_place", none), "is_place", "is_place", defArgs s_is_place, defBody s_is_place, defScope s_is_place, [], []⟩,
  ⟨("_is_plain", none), "_is_plain", "_is_plain", defArgs s__is_plain, defBody s__is_plain, defScope s__is_plain, [], []⟩,
  ⟨("is_line", none), "is_line", "is_line", defArgs s_is_line, defBody s_is_line, defScope s_is_line, [], []⟩,
  ⟨("is_word", none), "is_word", "is_word", defArgs s_is_word, defBody s_is_word, defScope s_is_word, [], []⟩,
  ⟨("is_lines", none), "is_lines", "is_lines", defArgs s_is_lines, defBody s_is_lines, defScope s_is_lines, [], []⟩,
  ⟨("_check", none), "_check", "_check", defArgs s__check, defBody s__check, defScope s__check, [], []⟩,
  ⟨("check_action", none), "check_action", "check_action", defArgs s_check_action, defBody s_check_action, defScope s_check_action, [], []⟩,
  ⟨("is_good_row", none), "is_good_row", "is_good_row", defArgs s_is_good_row, defBody s_is_good_row, defScope s_is_good_row, [], []⟩,
  ⟨("_is_agent", none), "_is_agent", "_is_agent", defArgs s__is_agent, defBody s__is_agent, defScope s__is_agent, [], []⟩,
  ⟨("check_agent", none), "check_agent", "check_agent", defArgs s_check_agent, defBody s_check_agent, defScope s_check_agent, [], []⟩,
  ⟨("follower", none), "follower", "follower", defArgs s_follower, defBody s_follower, defScope s_follower, [], []⟩,
  ⟨("doubter", none), "doubter", "doubter", defArgs s_doubter, defBody s_doubter, defScope s_doubter, [], []⟩,
  ⟨("_law_cell", none), "_law_cell", "_law_cell", defArgs s__law_cell, defBody s__law_cell, defScope s__law_cell, [], []⟩,
  ⟨("_law_digits", none), "_law_digits", "_law_digits", defArgs s__law_digits, defBody s__law_digits, defScope s__law_digits, [], []⟩,
  ⟨("_law_draw", none), "_law_draw", "_law_draw", defArgs s__law_draw, defBody s__law_draw, defScope s__law_draw, [], []⟩,
  ⟨("_law_path", none), "_law_path", "_law_path", defArgs s__law_path, defBody s__law_path, defScope s__law_path, [], []⟩,
  ⟨("_law_line", none), "_law_line", "_law_line", defArgs s__law_line, defBody s__law_line, defScope s__law_line, [], []⟩,
  ⟨("_law_lines", none), "_law_lines", "_law_lines", defArgs s__law_lines, defBody s__law_lines, defScope s__law_lines, [], []⟩,
  ⟨("_law_inside", none), "_law_inside", "_law_inside", defArgs s__law_inside, defBody s__law_inside, defScope s__law_inside, [], []⟩,
  ⟨("_law_blocked", none), "_law_blocked", "_law_blocked", defArgs s__law_blocked, defBody s__law_blocked, defScope s__law_blocked, [], []⟩,
  ⟨("_law_files", none), "_law_files", "_law_files", defArgs s__law_files, defBody s__law_files, defScope s__law_files, [], []⟩,
  ⟨("_law_is_folder", none), "_law_is_folder", "_law_is_folder", defArgs s__law_is_folder, defBody s__law_is_folder, defScope s__law_is_folder, [], []⟩,
  ⟨("_law_names", none), "_law_names", "_law_names", defArgs s__law_names, defBody s__law_names, defScope s__law_names, [], []⟩,
  ⟨("_law_found", none), "_law_found", "_law_found", defArgs s__law_found, defBody s__law_found, defScope s__law_found, [], []⟩,
  ⟨("_law_asked", none), "_law_asked", "_law_asked", defArgs s__law_asked, defBody s__law_asked, defScope s__law_asked, [], []⟩,
  ⟨("_law_spots", none), "_law_spots", "_law_spots", defArgs s__law_spots, defBody s__law_spots, defScope s__law_spots, [], []⟩,
  ⟨("_law_refusal", none), "_law_refusal", "_law_refusal", defArgs s__law_refusal, defBody s__law_refusal, defScope s__law_refusal, [], []⟩,
  ⟨("_law_act", none), "_law_act", "_law_act", defArgs s__law_act, defBody s__law_act, defScope s__law_act, [], []⟩,
  ⟨("_law_some_path", none), "_law_some_path", "_law_some_path", defArgs s__law_some_path, defBody s__law_some_path, defScope s__law_some_path, [], []⟩,
  ⟨("_law_place", none), "_law_place", "_law_place", defArgs s__law_place, defBody s__law_place, defScope s__law_place, [], []⟩,
  ⟨("_law_question", none), "_law_question", "_law_question", defArgs s__law_question, defBody s__law_question, defScope s__law_question, [], []⟩,
  ⟨("_law_part", none), "_law_part", "_law_part", defArgs s__law_part, defBody s__law_part, defScope s__law_part, [], []⟩,
  ⟨("_law_deed", none), "_law_deed", "_law_deed", defArgs s__law_deed, defBody s__law_deed, defScope s__law_deed, [], []⟩,
  ⟨("_law_action", none), "_law_action", "_law_action", defArgs s__law_action, defBody s__law_action, defScope s__law_action, [], []⟩,
  ⟨("_law_agent", none), "_law_agent", "_law_agent", defArgs s__law_agent, defBody s__law_agent, defScope s__law_agent, [], []⟩,
  ⟨("_law_refused", none), "_law_refused", "_law_refused", defArgs s__law_refused, defBody s__law_refused, defScope s__law_refused, [], []⟩,
  ⟨("_law_bad", none), "_law_bad", "_law_bad", defArgs s__law_bad, defBody s__law_bad, defScope s__law_bad, [], []⟩,
  ⟨("law", none), "law", "law", defArgs s_law, defBody s_law, defScope s_law, [], []⟩,
  ⟨("OutOfRange", some "__init__"), "__init__", "OutOfRange.__init__", defArgs s_init, defBody s_init, defScope s_init, [], []⟩]
def hfa : List He.Fa := [.glo "is_name", .glo "is_path", .glo "is_place", .glo "_is_plain", .glo "is_line", .glo "is_word", .glo "is_lines", .glo "_check", .glo "check_action", .glo "is_good_row", .glo "_is_agent", .glo "check_agent", .glo "follower", .glo "doubter", .glo "_law_cell", .glo "_law_digits", .glo "_law_draw", .glo "_law_path", .glo "_law_line", .glo "_law_lines", .glo "_law_inside", .glo "_law_blocked", .glo "_law_files", .glo "_law_is_folder", .glo "_law_names", .glo "_law_found", .glo "_law_asked", .glo "_law_spots", .glo "_law_refusal", .glo "_law_act", .glo "_law_some_path", .glo "_law_place", .glo "_law_question", .glo "_law_part", .glo "_law_deed", .glo "_law_action", .glo "_law_agent", .glo "_law_refused", .glo "_law_bad", .glo "law", .free "len", .free "all", .free "any", .free "enumerate", .free "range", .free "sorted", .free "int", .free "min", .free "tuple", .free "list", .free "ord", .int "NAME_MOST" 8, .int "DEPTH_MOST" 3, .int "LINE_MOST" 20, .int "LINES_MOST" 12, .int "WORD_MOST" 12, .int "PERCENT" 37, .int "ROWS_MOST" 24, .int "CASES_MOST" 6, .str "LETTERS" "abcdefghijklmnopqrstuvwxyz0123456789", .glo "STOP", .glo "DOUBT", .glo "OutOfRange"]
def hloose : List Str := (["__name__", "TrunkError", "OutOfRange", "NAME_MOST", "DEPTH_MOST", "LINE_MOST", "LINES_MOST", "WORD_MOST", "LETTERS", "PERCENT", "is_name", "is_path", "is_place", "_is_plain", "is_line", "is_word", "is_lines", "_check", "check_action", "ROWS_MOST", "CASES_MOST", "STOP", "DOUBT", "is_good_row", "_is_agent", "check_agent", "follower", "doubter", "_law_cell", "_law_digits"] : List Str) ++ (["_law_draw", "_law_path", "_law_line", "_law_lines", "_law_inside", "_law_blocked", "_law_files", "_law_rows", "_law_is_folder", "_law_names", "_law_found", "_law_asked", "_law_spots", "_law_refusal", "_law_act", "_law_some_path", "_law_place", "_law_question", "_law_part", "_law_deed", "_law_action", "_law_agent", "_law_step", "_law_live", "_law_refused", "_law_bad"] : List Str)
def hlaw : Nat := 60

/-! ### the error's class, the two tuples -/
def oexB (K : PySem.W.Frag) (C : Addr) : Bool := (match K.lookup C with
  | some ⟨.type "type", _, .cls cd, sl⟩ => (match cd.mro, sl.toList with
    | .ref C' :: bm, [_, _, _, _, some (.builtin n), _] => C' == C && n == "ValueError.__new__" && !cd.hasDel && cd.hasDict && PySem.HandSPX.refsVE bm
    | _, _ => false)
  | _ => false) && (He.eqO (PySem.W.findIn K (.ref C) "__setattr__") (some (some (.builtin "object.__setattr__"))) && (decide (PySem.W.subIn K (.ref C) (.type "BaseException") = some true) && (decide (PySem.W.typeIn K (.ref C) = some (.type "type")) && PySem.W.keepIn K (.ref C))))
theorem oexB_ok {K : PySem.W.Frag} {C : Addr} (h : oexB K C = true) : OexC K C := by
  obtain ⟨q, h⟩ := Bool.and_eq_true_iff.mp h
  obtain ⟨h2, h⟩ := Bool.and_eq_true_iff.mp h
  obtain ⟨h3, h⟩ := Bool.and_eq_true_iff.mp h
  obtain ⟨h4, h5⟩ := Bool.and_eq_true_iff.mp h
  refine ⟨?_, He.eqO_ok h2, of_decide_eq_true h3, of_decide_eq_true h4, h5⟩
  split at q
  · rename_i dd cd sl ho
    split at q
    · rename_i C' bm k0 k1 k2 k3 n k5 hm hs
      simp only [Bool.and_eq_true, beq_iff_eq, Bool.not_eq_true'] at q
      obtain ⟨⟨⟨⟨rfl, rfl⟩, hdel⟩, hhd⟩, ht⟩ := q
      obtain ⟨nm, bs, mro, ns, qn, hd, sn, sub, ab, col, del⟩ := cd
      dsimp only at hm hdel hhd
      subst hm hdel hhd
      have hsl : sl = #[k0, k1, k2, k3, some (.builtin "ValueError.__new__"), k5] := by
        obtain ⟨l⟩ := sl
        simp only at hs
        rw [hs]
      subst hsl
      exact ⟨nm, qn, ns, bs, bm, sn, sub, ab, col, dd, k0, k1, k2, k3, k5, ho, ht⟩
    · cases q
  · cases q
def dbtC (K : PySem.W.Frag) : Addr := match K.lookup (He.ga K "DOUBT") with
  | some ⟨_, _, .seq its _, _⟩ => (match its.toList with
    | [_, _, .ref c] => c
    | _ => 0)
  | _ => 0
def tupA (K : PySem.W.Frag) (a : Addr) (vs : List V) : Bool := match K.lookup a with
  | some ⟨.type c, _, .seq its _, _⟩ => decide (c = "tuple") && (decide (its.size ≤ sizeLine) && He.relAll vs its.toList)
  | _ => false
theorem tupA_ok {K : PySem.W.Frag} {a : Addr} {vs : List V} (h : tupA K a vs = true) (H : Hp) : SqT K H a vs := by
  unfold tupA at h
  cases q : K.lookup a with
  | none =>
    rw [q] at h
    cases h
  | some o =>
    obtain ⟨oc, od, dt, osl⟩ := o
    rw [q] at h
    cases oc with
    | type c =>
      cases dt with
      | seq its n =>
        obtain ⟨h1, h2⟩ := He.ba (show (decide (c = "tuple") && (decide (its.size ≤ sizeLine) && He.relAll vs its.toList)) = true from h)
        obtain ⟨h3, h4⟩ := He.ba h2
        exact .inr ⟨_, its, n, q, congrArg Value.type (of_decide_eq_true h1), rfl, of_decide_eq_true h3, He.relAll_ok h4⟩
      | _ => cases h
    | _ => cases dt <;> cases h
def hC (K : PySem.W.Frag) : Addr := He.ga K "OutOfRange"
def moreB (K : PySem.W.Frag) : Bool := oexB K (hC K) && (tupA K (He.ga K "STOP") [.str "stop"] && (tupA K (He.ga K "DOUBT") [.str "write", .str "doubt", .ref (dbtC K)] && (tupA K (dbtC K) [] &&
  (He.eqO (PySem.W.findIn K (.ref (hC K)) "__init__") (some (some (.ref (He.ma K (hC K) "__init__")))) && (decide (PySem.W.typeIn K (.ref (He.ma K (hC K) "__init__")) = some (.type "function")) &&
  (He.eqO (PySem.W.findIn K (.ref (hC K)) "name") (some none) && (decide (PySem.W.exmOne K (.ref (hC K)) (.ref (hC K)) = some true) && xfB K (hC K))))))))
/-! ### the Hook -/
abbrev AlM : Type := He.AlD × Bool
def obsM (K : PySem.W.Frag) : AlM := (He.obsD hfa hfn K, moreB K)
def obsMG (g : Addr → Option Obj) : AlM := obsM (He.frG g (He.asD g 4))
def hookM : PySem.W.Hook where
  α := AlM
  obs := fun s => obsMG s.heap.get?
  val := fun _ => (He.valD hfn, true)
  says := fun _ h => ∃ K : PySem.W.Frag, K.In h ∧ He.SaysD hfa hfn K ∧ moreB K = true
  of := fun _ _ e => ⟨_, He.frG_in, congrArg (fun z : AlM => z.1) e, congrArg (fun z : AlM => z.2) e⟩
  keeps := fun _ _ _ ⟨K, hK, c, m⟩ k => ⟨K, PySem.W.Frag.In.keeps hK k, c, m⟩
theorem obsMG_eq {g : Addr → Option Obj} {s : Shared} (h : ∀ a, g a = s.heap.get? a) : obsMG g = hookM.obs s := by
  have e : g = s.heap.get? := funext h
  rw [e] <;> rfl
abbrev hR : PySem.W.OpenRow := PySem.W.OpenLaw.row PySem.Challenge.rw_sameanswers_k23_bounds_of_agents
def hob (s : PySem.W.SharedT) : AlM := obsMG (HandSHeadRun.getT s)
theorem hob_eq (s : PySem.W.SharedT) : hob s = hookM.obs s.abs := obsMG_eq (HandSHeadRun.getT_eq s)
theorem hrun (w : World) : HandSHeadRun.RunEq hR (PySem.W.view hR.prog [hlaw]) hookM hob 4000 hloose w := by
  intro os
  kernel_rfl
end K23
/-! ### the head's facts, all promises joined -/
namespace K23
open PySem PySem.Spec PyProof.Rows L2
section
variable {P : Program} {w : World} {K : PySem.W.Frag} {h : Heap} {mg : Str → Option Value}
theorem txt_of (X : K.In h) (G : h.Ns mainGlobals mg) (c : He.SaysD hfa hfn K) (m : moreB K = true) : Txt K mg := by
  obtain ⟨_, m⟩ := Bool.and_eq_true_iff.mp m
  obtain ⟨m1, m⟩ := Bool.and_eq_true_iff.mp m
  obtain ⟨m2, m⟩ := Bool.and_eq_true_iff.mp m
  obtain ⟨m3, m⟩ := Bool.and_eq_true_iff.mp m
  exact {
    len := He.free_ok X G (c.fact 40 (f := .free "len") rfl)
    all := He.free_ok X G (c.fact 41 (f := .free "all") rfl)
    any := He.free_ok X G (c.fact 42 (f := .free "any") rfl)
    enum := He.free_ok X G (c.fact 43 (f := .free "enumerate") rfl)
    range := He.free_ok X G (c.fact 44 (f := .free "range") rfl)
    sorted := He.free_ok X G (c.fact 45 (f := .free "sorted") rfl)
    int := He.free_ok X G (c.fact 46 (f := .free "int") rfl)
    min := He.free_ok X G (c.fact 47 (f := .free "min") rfl)
    tuple := He.free_ok X G (c.fact 48 (f := .free "tuple") rfl)
    list := He.free_ok X G (c.fact 49 (f := .free "list") rfl)
    ord := He.free_ok X G (c.fact 50 (f := .free "ord") rfl)
    NAME := by
      obtain ⟨t, e⟩ := He.int_ok X G (c.fact 51 (f := .int "NAME_MOST" 8) rfl)
      exact ⟨_, e, _, rfl⟩
    DEPTH := by
      obtain ⟨t, e⟩ := He.int_ok X G (c.fact 52 (f := .int "DEPTH_MOST" 3) rfl)
      exact ⟨_, e, _, rfl⟩
    LINE := by
      obtain ⟨t, e⟩ := He.int_ok X G (c.fact 53 (f := .int "LINE_MOST" 20) rfl)
      exact ⟨_, e, _, rfl⟩
    LINES := by
      obtain ⟨t, e⟩ := He.int_ok X G (c.fact 54 (f := .int "LINES_MOST" 12) rfl)
      exact ⟨_, e, _, rfl⟩
    WORD := by
      obtain ⟨t, e⟩ := He.int_ok X G (c.fact 55 (f := .int "WORD_MOST" 12) rfl)
      exact ⟨_, e, _, rfl⟩
    PERCENT := by
      obtain ⟨t, e⟩ := He.int_ok X G (c.fact 56 (f := .int "PERCENT" 37) rfl)
      exact ⟨_, e, _, rfl⟩
    ROWS := by
      obtain ⟨t, e⟩ := He.int_ok X G (c.fact 57 (f := .int "ROWS_MOST" 24) rfl)
      exact ⟨_, e, _, rfl⟩
    CASES := by
      obtain ⟨t, e⟩ := He.int_ok X G (c.fact 58 (f := .int "CASES_MOST" 6) rfl)
      exact ⟨_, e, _, rfl⟩
    LETTERS := by
      obtain ⟨t, e⟩ := He.str_ok X G (c.fact 59 (f := .str "LETTERS" "abcdefghijklmnopqrstuvwxyz0123456789") rfl)
      exact ⟨_, e, _, rfl⟩
    STOP := ⟨_, ⟨_, He.glo_ok X G (c.fact 60 (f := .glo "STOP") rfl), rfl⟩, fun H => .tup (tupA_ok m1 H) (.cons (.str _) .nil)⟩
    DOUBT := ⟨_, ⟨_, He.glo_ok X G (c.fact 61 (f := .glo "DOUBT") rfl), rfl⟩, fun H => .tup (tupA_ok m2 H) (.cons (.str _) (.cons (.str _) (.cons (.tup (tupA_ok m3 H) .nil) .nil)))⟩ }
theorem ext_of (X : K.In h) (G : h.Ns mainGlobals mg) (c : He.SaysD hfa hfn K) (m : moreB K = true) : ExT K mg (hC K) (He.ma K (hC K) "__init__") := by
  obtain ⟨m0, m⟩ := Bool.and_eq_true_iff.mp m
  obtain ⟨_, m⟩ := Bool.and_eq_true_iff.mp m
  obtain ⟨_, m⟩ := Bool.and_eq_true_iff.mp m
  obtain ⟨_, m⟩ := Bool.and_eq_true_iff.mp m
  obtain ⟨m4, m⟩ := Bool.and_eq_true_iff.mp m
  obtain ⟨m5, m⟩ := Bool.and_eq_true_iff.mp m
  obtain ⟨m6, m⟩ := Bool.and_eq_true_iff.mp m
  obtain ⟨m7, m8⟩ := Bool.and_eq_true_iff.mp m
  obtain ⟨fd, F⟩ := c.def_ 40 (d := ⟨("OutOfRange", some "__init__"), "__init__", "OutOfRange.__init__", defArgs s_init, defBody s_init, defScope s_init, [], []⟩) rfl
  exact ⟨oexB_ok m0, He.eqO_ok m4, of_decide_eq_true m5, He.eqO_ok m6, He.glo_ok X G (c.fact 62 (f := .glo "OutOfRange") rfl), of_decide_eq_true m7, xfB_ok m8, fd, F⟩
theorem def_at {i : Nat} {x : Str} {st : Stmt} (X : K.In h) (G : h.Ns mainGlobals mg) (c : He.SaysD hfa hfn K) (hi : hfn[i]? = some ⟨(x, none), x, x, defArgs st, defBody st, defScope st, [], []⟩) (hx : hfa[i]? = some (.glo x)) : DefAt K mg x st := by
  obtain ⟨fd, F⟩ := c.def_ i hi
  exact ⟨_, fd, F, He.glo_ok X G (c.fact i hx)⟩
theorem facts {f : Addr} (X : K.In h) (G : h.Ns mainGlobals mg) (hfaL : mg ("law" : Str) = some (.ref f)) (c : He.SaysD hfa hfn K) (m : moreB K = true) :
    ∃ fd : FuncData, (∀ (s : Shared) (v : Value), BindsTo s fd ⟨[v], []⟩ [("_law_script", v)]) ∧ ∀ base : Heap, K.In base → base.Ns mainGlobals mg → FnOk P w K mg base CX0 9 f fd ["_law_script"] (spLaw K) := by
  have T := txt_of X G c m
  have Y := ext_of X G c m
  have D_is_name : DefAt K mg "is_name" s_is_name := def_at (i := 0) X G c rfl rfl
  have D_is_path : DefAt K mg "is_path" s_is_path := def_at (i := 1) X G c rfl rfl
  have D_is_place : DefAt K mg "is_place" s_is_place := def_at (i := 2) X G c rfl rfl
  have D__is_plain : DefAt K mg "_is_plain" s__is_plain := def_at (i := 3) X G c rfl rfl
  have D_is_line : DefAt K mg "is_line" s_is_line := def_at (i := 4) X G c rfl rfl
  have D_is_word : DefAt K mg "is_word" s_is_word := def_at (i := 5) X G c rfl rfl
  have D_is_lines : DefAt K mg "is_lines" s_is_lines := def_at (i := 6) X G c rfl rfl
  have D__check : DefAt K mg "_check" s__check := def_at (i := 7) X G c rfl rfl
  have D_check_action : DefAt K mg "check_action" s_check_action := def_at (i := 8) X G c rfl rfl
  have D_is_good_row : DefAt K mg "is_good_row" s_is_good_row := def_at (i := 9) X G c rfl rfl
  have D__is_agent : DefAt K mg "_is_agent" s__is_agent := def_at (i := 10) X G c rfl rfl
  have D_check_agent : DefAt K mg "check_agent" s_check_agent := def_at (i := 11) X G c rfl rfl
  have D__law_refused : DefAt K mg "_law_refused" s__law_refused := def_at (i := 37) X G c rfl rfl
  have D_follower : DefAt K mg "follower" s_follower := def_at (i := 12) X G c rfl rfl
  have D_doubter : DefAt K mg "doubter" s_doubter := def_at (i := 13) X G c rfl rfl
  have D__law_cell : DefAt K mg "_law_cell" s__law_cell := def_at (i := 14) X G c rfl rfl
  have D__law_digits : DefAt K mg "_law_digits" s__law_digits := def_at (i := 15) X G c rfl rfl
  have D__law_draw : DefAt K mg "_law_draw" s__law_draw := def_at (i := 16) X G c rfl rfl
  have D__law_path : DefAt K mg "_law_path" s__law_path := def_at (i := 17) X G c rfl rfl
  have D__law_line : DefAt K mg "_law_line" s__law_line := def_at (i := 18) X G c rfl rfl
  have D__law_lines : DefAt K mg "_law_lines" s__law_lines := def_at (i := 19) X G c rfl rfl
  have D__law_inside : DefAt K mg "_law_inside" s__law_inside := def_at (i := 20) X G c rfl rfl
  have D__law_blocked : DefAt K mg "_law_blocked" s__law_blocked := def_at (i := 21) X G c rfl rfl
  have D__law_is_folder : DefAt K mg "_law_is_folder" s__law_is_folder := def_at (i := 23) X G c rfl rfl
  have D__law_files : DefAt K mg "_law_files" s__law_files := def_at (i := 22) X G c rfl rfl
  have D__law_names : DefAt K mg "_law_names" s__law_names := def_at (i := 24) X G c rfl rfl
  have D__law_found : DefAt K mg "_law_found" s__law_found := def_at (i := 25) X G c rfl rfl
  have D__law_spots : DefAt K mg "_law_spots" s__law_spots := def_at (i := 27) X G c rfl rfl
  have D__law_asked : DefAt K mg "_law_asked" s__law_asked := def_at (i := 26) X G c rfl rfl
  have D__law_refusal : DefAt K mg "_law_refusal" s__law_refusal := def_at (i := 28) X G c rfl rfl
  have D__law_act : DefAt K mg "_law_act" s__law_act := def_at (i := 29) X G c rfl rfl
  have D__law_some_path : DefAt K mg "_law_some_path" s__law_some_path := def_at (i := 30) X G c rfl rfl
  have D__law_place : DefAt K mg "_law_place" s__law_place := def_at (i := 31) X G c rfl rfl
  have D__law_question : DefAt K mg "_law_question" s__law_question := def_at (i := 32) X G c rfl rfl
  have D__law_part : DefAt K mg "_law_part" s__law_part := def_at (i := 33) X G c rfl rfl
  have D__law_deed : DefAt K mg "_law_deed" s__law_deed := def_at (i := 34) X G c rfl rfl
  have D__law_action : DefAt K mg "_law_action" s__law_action := def_at (i := 35) X G c rfl rfl
  have D__law_agent : DefAt K mg "_law_agent" s__law_agent := def_at (i := 36) X G c rfl rfl
  have D__law_bad : DefAt K mg "_law_bad" s__law_bad := def_at (i := 38) X G c rfl rfl
  obtain ⟨fd, F⟩ := c.def_ 39 (d := ⟨("law", none), "law", "law", defArgs s_law, defBody s_law, defScope s_law, [], []⟩) rfl
  have e := hfaL.symm.trans (He.glo_ok X G (c.fact 39 (f := .glo "law") rfl))
  cases e
  have bL := FunD.bindsA (ps := ["_law_script"]) F fun _ _ _ _ _ _ us hl => match us, hl with | [_], _ => rfl
  refine ⟨fd, fun s v => bL s [v] rfl, fun base _ _ => ?_⟩
  have c_is_name := ok_name (P := P) (w := w) (base := base) D_is_name T
  have c_is_path := ok_path (P := P) (w := w) (base := base) D_is_path T c_is_name
  have c_is_place := ok_place (P := P) (w := w) (base := base) D_is_place c_is_path
  have c_plain := ok_plain (P := P) (w := w) (base := base) D__is_plain T
  have c_isline := ok_line (P := P) (w := w) (base := base) D_is_line T c_plain
  have c_isword := ok_word (P := P) (w := w) (base := base) D_is_word T c_plain
  have c_islines := ok_lines (P := P) (w := w) (base := base) D_is_lines T c_isline
  have c_check := ok_check (P := P) (w := w) (base := base) D__check Y
  have c_chka := ok_chka (P := P) (w := w) (base := base) D_check_action T c_check c_is_path c_is_place c_isword c_islines
  have c_row := ok_row (P := P) (w := w) (base := base) D_is_good_row T Y c_chka
  have c_isag := ok_isag (P := P) (w := w) (base := base) D__is_agent T c_row
  have c_chkag := ok_chkag (P := P) (w := w) (base := base) D_check_agent Y c_isag
  have c_ref := ok_ref (P := P) (w := w) (base := base) D__law_refused Y c_chkag
  have c_fol := ok_fol (P := P) (w := w) (base := base) D_follower T
  have c_dbt := ok_dbt (P := P) (w := w) (base := base) D_doubter T
  have c_cell := ok_cell (P := P) (w := w) (base := base) D__law_cell T
  have c_dig := ok_dig (P := P) (w := w) (base := base) D__law_digits T c_cell
  have c_draw := ok_draw (P := P) (w := w) (base := base) D__law_draw T
  have c_pth := ok_pth (P := P) (w := w) (base := base) D__law_path T c_draw
  have c_ln := ok_ln (P := P) (w := w) (base := base) D__law_line c_draw
  have c_lns := ok_lns (P := P) (w := w) (base := base) D__law_lines T c_draw c_ln
  have c_ins := ok_ins (P := P) (w := w) (base := base) D__law_inside T
  have c_blk := ok_blk (P := P) (w := w) (base := base) D__law_blocked c_ins
  have c_blkL := ok_blkL (P := P) (w := w) (base := base) D__law_blocked c_ins
  have c_fold := ok_fold (P := P) (w := w) (base := base) D__law_is_folder c_ins
  have c_files := ok_files (P := P) (w := w) (base := base) D__law_files T c_draw c_pth c_lns c_blk
  have c_nms := ok_nms (P := P) (w := w) (base := base) D__law_names T c_ins
  have c_fnd := ok_fnd (P := P) (w := w) (base := base) D__law_found T c_ins
  have c_spots := ok_spots (P := P) (w := w) (base := base) D__law_spots T
  have c_ask := ok_ask (P := P) (w := w) (base := base) D__law_asked T c_ins c_fold c_fnd c_nms
  have c_refu := ok_refu (P := P) (w := w) (base := base) D__law_refusal T c_blk c_blkL c_spots
  have c_act := ok_act (P := P) (w := w) (base := base) D__law_act T c_ask c_refu c_spots
  have c_some := ok_some (P := P) (w := w) (base := base) D__law_some_path T c_draw c_pth
  have c_pl := ok_pl (P := P) (w := w) (base := base) D__law_place T c_draw c_some
  have c_que := ok_que (P := P) (w := w) (base := base) D__law_question T c_draw c_some c_pl
  have c_part := ok_part (P := P) (w := w) (base := base) D__law_part T c_draw c_ln
  have c_deed := ok_deed (P := P) (w := w) (base := base) D__law_deed T c_draw c_some c_lns c_part
  have c_action := ok_action (P := P) (w := w) (base := base) D__law_action c_draw c_que c_deed
  have c_agent := ok_agent (P := P) (w := w) (base := base) D__law_agent T c_draw c_action c_act
  have c_bad := ok_bad (P := P) (w := w) (base := base) D__law_bad T c_draw
  exact ok_law F T c_dig c_ref c_bad c_agent c_files c_draw c_chkag c_fol c_dbt
end
end K23
open PySem PySem.W PySem.Calls PyProof.Rows
theorem PySem.Challenge.cw_sameanswers_k23_bounds_of_agents_holds : PySem.Challenge.rw_sameanswers_k23_bounds_of_agents.Holds := by
  w_on; o_law
  refine HandSHeadRun.head_any (r := OpenLaw.row PySem.Challenge.rw_sameanswers_k23_bounds_of_agents) (q := view (OpenLaw.row PySem.Challenge.rw_sameanswers_k23_bounds_of_agents).prog [60]) (H := K23.hookM) (ob := K23.hob) (M := 4000) (loose := K23.hloose) (d := HandSHeadRun.topDef (OpenLaw.row PySem.Challenge.rw_sameanswers_k23_bounds_of_agents).prog 60) (kwd := []) K23.hob_eq
    (by kernel_rfl) (fun s => by kernel_rfl) K23.hrun (by kernel_rfl) (by kernel_rfl) (by kernel_rfl) (by rfl) (by first | assumption | decide +kernel) (by decide +kernel) ⟨rfl, rfl, rfl, rfl, rfl, by decide +kernel⟩ ?hw ?hc
  case hw => w_witness2
  case hc =>
    refine L2.walk_ofE (l := PySem.Challenge.rw_sameanswers_k23_bounds_of_agents) (n := 63) (k := 9) (x := "_law_script") (CX := L2.CX0) rfl (by decide) (by kernel_rfl) ⟨rfl, by decide, by decide⟩ ?F (fun _ _ _ _ z => z)
    intro w mg fa h Y G hmg0
    obtain ⟨K, KX, c, m⟩ := Y
    have hmg : mg ("law" : PySem.Str) = some (.ref fa) := by
      have e : (HandSHeadRun.topDef (OpenLaw.row PySem.Challenge.rw_sameanswers_k23_bounds_of_agents).prog 60).name = ("law" : PySem.Str) := by kernel_rfl
      rw [← e]
      exact hmg0
    obtain ⟨fd, hb, hF⟩ := K23.facts (P := (PySem.Challenge.rw_sameanswers_k23_bounds_of_agents).prog) (w := w) KX G hmg c m
    exact ⟨K, fd, K23.spLaw K, KX, hb, fun H a ns hl _ hS => ⟨a, ns, rfl, hS, fun _ => rfl⟩, hF⟩
