import PyProof.Rows.All
import Wide.All
import OpenK.AllK
import Wide.FinOn
import HandS.ForMost
import HandS.Flow
import HandS.TupAny
import HandS.IsInst
import HandS.Deep
import HandS.NestedK
import HandS.EndTab
import KE.KDictKeyed
import KE.KDictDisplayH
import KE.KDictItemsList
import KE.KDictWalk
import HandS.Walk
import HandS.SetFor
import HandS.Strs
import HandS.RaiseMore
import KE.SortData
import KE.KDictSum
import PyProof.ReprRoads
import PyProof.ReprBulk
import KE.GoesEnum
import HandS.DictTup
import KE.KDictCopyH
import PyProof.Transfer
import HandS.Defaults
import HandS.Lambda
import KE.DataMinKey
import HandS.SortKw
import KE.DataMinMax
import KE.KEqDict
import HandS.HeadWalk
import HandS.HeadHook1
import HandS.HeadHook2
import HandS.HeadHook3
import HandS.HeadHook4
import PyProof.NeKinds
import HandS.Style
import PySem.Challenge.RW_storeways_k27_whole_trail_is_a_way
/-! ## K7A -/
set_option Elab.async false
set_option linter.all false
set_option maxRecDepth 100000
set_option maxHeartbeats 2000000
/-! A layer of my own over L2: plain data without lists (DT), what a step may change (Chg), goals taken one construct at a time (wE, wT, wA, wS), defs called where no repr is under way (GDef). -/
namespace K7
open PySem PySem.Spec PyProof.Rows L2

/-! ### data: scalars and tuples -/
/-- a plain tuple (without a dict of its own): made here, or the module's own -/
def SqP (K : PySem.W.Frag) (H : Hp) (a : Addr) (xs : List V) : Prop := (∃ o : Obj, H a = some (.frz o (.tup xs)) ∧ o.dict = none) ∨
  ∃ (o : Obj) (its : Array Value) (n : Nat), K.lookup a = some o ∧ o.cls = .type "tuple" ∧ o.dict = none ∧ o.data = .seq its n ∧ its.size ≤ sizeLine ∧ Vals xs its.toList
theorem SqP.t {K : PySem.W.Frag} {H : Hp} {a : Addr} {xs : List V} (h : SqP K H a xs) : SqT K H a xs := by
  rcases h with ⟨o, h, _⟩ | ⟨o, its, n, h1, h2, _, h3, h4, h5⟩
  · exact .inl (.inr ⟨o, h⟩)
  · exact .inr ⟨o, its, n, h1, h2, h3, h4, h5⟩
mutual
inductive DT (K : PySem.W.Frag) (H : Hp) : V → PyData → Prop
  | non : DT K H .non .none
  | bl (b : Bool) : DT K H (.bl b) (.bool b)
  | int (i : Int) : DT K H (.int i) (.int i)
  | str (x : Str) : DT K H (.str x) (.str x)
  | tup {a : Addr} {xs : List V} {ds : List PyData} : SqP K H a xs → DTs K H xs ds → DT K H (.ref a) (.tuple ds)
inductive DTs (K : PySem.W.Frag) (H : Hp) : List V → List PyData → Prop
  | nil : DTs K H [] []
  | cons {v : V} {vs : List V} {d : PyData} {ds : List PyData} : DT K H v d → DTs K H vs ds → DTs K H (v :: vs) (d :: ds)
end

/-- tuples stay -/
structure Tk (H H' : Hp) : Prop where
  rd : ∀ b xs, Rd H b (.tup xs) → Rd H' b (.tup xs)
  fz : ∀ b o xs, H b = some (.frz o (.tup xs)) → H' b = some (.frz o (.tup xs))
theorem Tk.sq {K : PySem.W.Frag} {H H' : Hp} {a : Addr} {xs : List V} (t : Tk H H') (h : SqT K H a xs) : SqT K H' a xs := by
  rcases h with h | h
  · exact .inl (t.rd _ _ h)
  · exact .inr h
theorem Tk.sp {K : PySem.W.Frag} {H H' : Hp} {a : Addr} {xs : List V} (t : Tk H H') (h : SqP K H a xs) : SqP K H' a xs := by
  rcases h with ⟨o, h, n⟩ | h
  · exact .inl ⟨o, t.fz _ _ _ h, n⟩
  · exact .inr h
theorem Tk.refl {H : Hp} : Tk H H := ⟨fun _ _ h => h, fun _ _ _ h => h⟩
theorem Tk.trans {H H1 H2 : Hp} (a : Tk H H1) (b : Tk H1 H2) : Tk H H2 := ⟨fun c xs h => b.rd c xs (a.rd c xs h), fun c o xs h => b.fz c o xs (a.fz c o xs h)⟩
mutual
theorem DT.tk {K : PySem.W.Frag} {H H' : Hp} (t : Tk H H') : ∀ {v : V} {d : PyData}, DT K H v d → DT K H' v d
  | _, _, .non => .non
  | _, _, .bl b => .bl b
  | _, _, .int i => .int i
  | _, _, .str x => .str x
  | _, _, .tup h hs => .tup (t.sp h) (DTs.tk t hs)
theorem DTs.tk {K : PySem.W.Frag} {H H' : Hp} (t : Tk H H') : ∀ {vs : List V} {ds : List PyData}, DTs K H vs ds → DTs K H' vs ds
  | _, _, .nil => .nil
  | _, _, .cons h hs => .cons (DT.tk t h) (DTs.tk t hs)
end
mutual
theorem DT.dp {K : PySem.W.Frag} {H : Hp} : ∀ {v : V} {d : PyData}, DT K H v d → Dp K H v d
  | _, _, .non => .non
  | _, _, .bl b => .bl b
  | _, _, .int i => .int i
  | _, _, .str x => .str x
  | _, _, .tup h hs => .tup h.t (DTs.dp hs)
theorem DTs.dp {K : PySem.W.Frag} {H : Hp} : ∀ {vs : List V} {ds : List PyData}, DTs K H vs ds → DpAll K H vs ds
  | _, _, .nil => .nil
  | _, _, .cons h hs => .cons (DT.dp h) (DTs.dp hs)
end
theorem DTs.len {K : PySem.W.Frag} {H : Hp} : ∀ {vs : List V} {ds : List PyData}, DTs K H vs ds → vs.length = ds.length
  | _, _, .nil => rfl
  | _, _, .cons _ hs => congrArg (· + 1) (DTs.len hs)
theorem DTs.at_ {K : PySem.W.Frag} {H : Hp} : ∀ {vs : List V} {ds : List PyData} {i : Nat} {d : PyData}, DTs K H vs ds → ds[i]? = some d → ∃ v, vs[i]? = some v ∧ DT K H v d
  | _, _, i, d, .nil, e => by simp at e
  | _, _, 0, d, .cons (v := v) h hs, e => by
    simp only [List.getElem?_cons_zero, Option.some.injEq] at e
    subst e
    exact ⟨v, rfl, h⟩
  | _, _, i + 1, d, .cons h hs, e => by
    obtain ⟨v, h1, h2⟩ := DTs.at_ (i := i) hs (by simpa using e)
    exact ⟨v, by simpa using h1, h2⟩
theorem DTs.atV {K : PySem.W.Frag} {H : Hp} : ∀ {vs : List V} {ds : List PyData} {i : Nat} {v : V}, DTs K H vs ds → vs[i]? = some v → ∃ d, ds[i]? = some d ∧ DT K H v d
  | _, _, i, d, .nil, e => by simp at e
  | _, _, 0, d, .cons (d := v) h hs, e => by
    simp only [List.getElem?_cons_zero, Option.some.injEq] at e
    subst e
    exact ⟨v, rfl, h⟩
  | _, _, i + 1, d, .cons h hs, e => by
    obtain ⟨v, h1, h2⟩ := DTs.atV (i := i) hs (by simpa using e)
    exact ⟨v, by simpa using h1, h2⟩
theorem DTs.app {K : PySem.W.Frag} {H : Hp} : ∀ {vs us : List V} {ds es : List PyData}, DTs K H vs ds → DTs K H us es → DTs K H (vs ++ us) (ds ++ es)
  | _, _, _, _, .nil, h => h
  | _, _, _, _, .cons h hs, g => .cons h (DTs.app hs g)
theorem DTs.take {K : PySem.W.Frag} {H : Hp} : ∀ {vs : List V} {ds : List PyData} (n : Nat), DTs K H vs ds → DTs K H (vs.take n) (ds.take n)
  | _, _, 0, _ => .nil
  | _, _, _ + 1, .nil => .nil
  | _, _, n + 1, .cons h hs => .cons h (DTs.take n hs)
theorem DTs.drop {K : PySem.W.Frag} {H : Hp} : ∀ {vs : List V} {ds : List PyData} (n : Nat), DTs K H vs ds → DTs K H (vs.drop n) (ds.drop n)
  | _, _, 0, h => h
  | _, _, _ + 1, .nil => .nil
  | _, _, n + 1, .cons h hs => DTs.drop n hs
theorem DTs.one {K : PySem.W.Frag} {H : Hp} {v : V} {d : PyData} (h : DT K H v d) : DTs K H [v] [d] := .cons h .nil
theorem DT.inv_int {K : PySem.W.Frag} {H : Hp} {v : V} {i : Int} (h : DT K H v (.int i)) : v = .int i := by cases h; rfl
theorem DT.inv_str {K : PySem.W.Frag} {H : Hp} {v : V} {i : Str} (h : DT K H v (.str i)) : v = .str i := by cases h; rfl
theorem DT.inv_bl {K : PySem.W.Frag} {H : Hp} {v : V} {i : Bool} (h : DT K H v (.bool i)) : v = .bl i := by cases h; rfl
theorem DT.inv_non {K : PySem.W.Frag} {H : Hp} {v : V} (h : DT K H v .none) : v = .non := by cases h; rfl
theorem DT.inv_tup {K : PySem.W.Frag} {H : Hp} {v : V} {ds : List PyData} (h : DT K H v (.tuple ds)) : ∃ a xs, v = .ref a ∧ SqP K H a xs ∧ DTs K H xs ds := by
  cases h with
  | tup h1 h2 => exact ⟨_, _, rfl, h1, h2⟩
theorem DTs.inv1 {K : PySem.W.Frag} {H : Hp} {vs : List V} {a : PyData} (h : DTs K H vs [a]) : ∃ u, vs = [u] ∧ DT K H u a := by
  cases h with
  | cons h1 h2 => cases h2; exact ⟨_, rfl, h1⟩
theorem DTs.inv2 {K : PySem.W.Frag} {H : Hp} {vs : List V} {a b : PyData} (h : DTs K H vs [a, b]) : ∃ u w, vs = [u, w] ∧ DT K H u a ∧ DT K H w b := by
  cases h with
  | cons h1 h2 => obtain ⟨w, e, h3⟩ := DTs.inv1 h2; subst e; exact ⟨_, w, rfl, h1, h3⟩
theorem DTs.inv3 {K : PySem.W.Frag} {H : Hp} {vs : List V} {a b c : PyData} (h : DTs K H vs [a, b, c]) : ∃ u w x, vs = [u, w, x] ∧ DT K H u a ∧ DT K H w b ∧ DT K H x c := by
  cases h with
  | cons h1 h2 => obtain ⟨w, x, e, h3⟩ := DTs.inv2 h2; subst e; exact ⟨_, w, x, rfl, h1, h3⟩

/-! ### what a step may change: the objects at S; all else that is tracked stays (tables of code may grow) -/
structure Chg (T : List (Addr × Str)) (S : List Addr) (H H' : Hp) : Prop where
  keep : ∀ b o, b ∉ S → H b = some o → (∀ ps, o ≠ .tbl ps) → H' b = some o
  back : ∀ b, H' b = none → H b = none
  tup : Tk H H'
  tab : LamX.Tabs T H → LamX.Tabs T H'
abbrev Ex (T : List (Addr × Str)) := Chg T []
section
variable {T : List (Addr × Str)} {S S' : List Addr} {H H1 H2 : Hp}
theorem Chg.refl : Chg T S H H := ⟨fun _ _ _ h _ => h, fun _ h => h, .refl, fun h => h⟩
theorem Chg.trans (a : Chg T S H H1) (b : Chg T S H1 H2) : Chg T S H H2 :=
  ⟨fun c o hc h n => b.keep c o hc (a.keep c o hc h n) n, fun c h => a.back c (b.back c h), a.tup.trans b.tup, fun h => b.tab (a.tab h)⟩
theorem Chg.mono (a : Chg T S H H1) (h : ∀ b ∈ S, b ∈ S') : Chg T S' H H1 := ⟨fun b o hb => a.keep b o fun z => hb (h b z), a.back, a.tup, a.tab⟩
theorem Chg.any (a : Chg T [] H H1) : Chg T S H H1 := a.mono fun _ z => absurd z (by simp)
theorem Chg.then_ (a : Ex T H H1) (b : Chg T S H1 H2) : Chg T S H H2 := a.any.trans b
theorem Chg.and_ (a : Chg T S H H1) (b : Ex T H1 H2) : Chg T S H H2 := a.trans b.any
theorem Chg.get (a : Chg T S H H1) {b : Addr} {o : HO} (h : H b = some o) (hb : b ∉ S := by simp) (n : ∀ ps, o ≠ .tbl ps := by intro ps z; cases z) : H1 b = some o := a.keep b o hb h n
theorem Chg.sq {K : PySem.W.Frag} {a : Addr} {xs : List V} (c : Chg T S H H1) (h : SqT K H a xs) : SqT K H1 a xs := c.tup.sq h
theorem Chg.sp {K : PySem.W.Frag} {a : Addr} {xs : List V} (c : Chg T S H H1) (h : SqP K H a xs) : SqP K H1 a xs := c.tup.sp h
theorem Chg.dt {K : PySem.W.Frag} {v : V} {d : PyData} (c : Chg T S H H1) (h : DT K H v d) : DT K H1 v d := h.tk c.tup
theorem Chg.dts {K : PySem.W.Frag} {v : List V} {d : List PyData} (c : Chg T S H H1) (h : DTs K H v d) : DTs K H1 v d := h.tk c.tup
/-- objects that were not there may change -/
theorem Chg.fresh (a : Ex T H H1) (b : Chg T S H1 H2) (hS : ∀ x ∈ S, H x = none) : Ex T H H2 :=
  ⟨fun c o _ h n => b.keep c o (fun z => by rw [hS c z] at h; cases h) (a.keep c o (by simp) h n) n, fun c h => a.back c (b.back c h), a.tup.trans b.tup, fun h => b.tab (a.tab h)⟩
/-- only some of them are other than fresh -/
theorem Chg.fresh' (a : Ex T H H1) (b : Chg T S' H1 H2) (hS : ∀ x ∈ S', x ∈ S ∨ H x = none) : Chg T S H H2 :=
  ⟨fun c o hc h n => b.keep c o (fun z => by rcases hS c z with q | q
                                             · exact hc q
                                             · rw [q] at h; cases h) (a.keep c o (by simp) h n) n, fun c h => a.back c (b.back c h), a.tup.trans b.tup, fun h => b.tab (a.tab h)⟩
theorem tab_upd {p : Addr} {o : HO} (hp : ∀ ps, H p ≠ some (.tbl ps)) (hc : ∀ q, H p ≠ some (LamX.CodeO p q)) (t : LamX.Tabs T H) : LamX.Tabs T (upd H p o) := by
  intro r hr
  obtain ⟨ps, h1, h2, h3⟩ := t r hr
  refine ⟨ps, ?_, h2, fun pos cv hcv => ?_⟩
  · rw [upd_ne (fun z => by rw [z] at h1; exact hp ps h1)]; exact h1
  · obtain ⟨c, e, h4⟩ := h3 pos cv hcv
    refine ⟨c, e, ?_⟩
    rw [upd_ne (fun z => by rw [z] at h4; exact hc _ h4)]
    exact h4
theorem Chg.new {p : Addr} {o : HO} (h : H p = none) : Chg T S H (upd H p o) := by
  refine ⟨fun b u _ e _ => ?_, fun b e => ?_, ⟨fun b xs e => ?_, fun b o xs e => by rw [upd_ne (ne_of_none e h)]; exact e⟩, fun t => tab_upd (fun ps z => by rw [h] at z; cases z) (fun q z => by rw [h] at z; cases z) t⟩
  · rw [upd_ne (ne_of_none e h)]; exact e
  · by_cases q : b = p
    · rw [q]; exact h
    · rw [upd_ne q] at e; exact e
  · rcases e with e | ⟨u, e⟩
    · exact .inl (by rw [upd_ne (ne_of_none e h)]; exact e)
    · exact .inr ⟨u, by rw [upd_ne (ne_of_none e h)]; exact e⟩
/-- what may be stored to -/
def Wr (o : HO) : Prop := (∀ ps, o ≠ .tbl ps) ∧ (∀ xs, o ≠ .tup xs) ∧ (∀ u q, o ≠ .frz u q) ∧ ∀ c q, o ≠ LamX.CodeO c q
theorem Chg.set {p : Addr} {o u : HO} (h : H p = some o) (w : Wr o) (hp : p ∈ S) : Chg T S H (upd H p u) := by
  obtain ⟨w1, w2, w3, w4⟩ := w
  refine ⟨fun b v hb e _ => ?_, fun b e => ?_, ⟨fun b xs e => ?_, fun b v xs e => by rw [upd_ne (fun z => by rw [z, h] at e; exact w3 v _ (Option.some.inj e))]; exact e⟩, fun t => tab_upd (fun ps z => by rw [h] at z; exact w1 ps (Option.some.inj z)) (fun q z => by rw [h] at z; exact w4 p q (Option.some.inj z)) t⟩
  · rw [upd_ne (fun z => hb (by rw [z]; exact hp))]; exact e
  · by_cases q : b = p
    · rw [q, upd_same] at e; cases e
    · rw [upd_ne q] at e; exact e
  · have nb : b ≠ p := fun z => by
      rw [z] at e
      rcases e with e | ⟨v, e⟩
      · rw [h] at e; exact w2 xs (Option.some.inj e)
      · rw [h] at e; exact w3 v _ (Option.some.inj e)
    rcases e with e | ⟨v, e⟩
    · exact .inl (by rw [upd_ne nb]; exact e)
    · exact .inr ⟨v, by rw [upd_ne nb]; exact e⟩
theorem wr_lst {xs : List V} : Wr (.lst xs) := ⟨(fun _ z => by cases z), (fun _ z => by cases z), (fun _ _ z => by cases z), (fun _ _ z => by unfold LamX.CodeO at z; cases z)⟩
theorem wr_dK {xs : List (Key × V)} : Wr (.dK xs) := ⟨(fun _ z => by cases z), (fun _ z => by cases z), (fun _ _ z => by cases z), (fun _ _ z => by unfold LamX.CodeO at z; cases z)⟩
theorem wr_dT {xs : List (List Key × V)} : Wr (.dT xs) := ⟨(fun _ z => by cases z), (fun _ z => by cases z), (fun _ _ z => by cases z), (fun _ _ z => by unfold LamX.CodeO at z; cases z)⟩
theorem wr_ins {C dx : Addr} {xs : List (Str × V)} : Wr (.ins C dx xs) := ⟨(fun _ z => by cases z), (fun _ z => by cases z), (fun _ _ z => by cases z), (fun _ _ z => by unfold LamX.CodeO at z; cases z)⟩
theorem DT.new {K : PySem.W.Frag} {p : Addr} {vs : List V} {ds : List PyData} {o : Obj} (hn : H p = none) (ho : o.dict = none) (h : DTs K H vs ds) : DT K (upd H p (.frz o (.tup vs))) (.ref p) (.tuple ds) :=
  .tup (.inl ⟨o, upd_same, ho⟩) (h.tk (Chg.new (T := []) (S := []) hn).tup)
end

/-! ### goals -/
section
variable {X : Cx}
def wE (X : Cx) (e : Expr) : TE := fun σ H Q => ∀ (pins : List (Addr × Obj)) (s : Shared), Inv X pins σ H s → wpAny (model X.prog X.w) X.A (eval e X.env) (EP X pins σ Q) X.xe s
def wT (X : Cx) (e : Expr) : TT := fun σ H Q => ∀ (pins : List (Addr × Obj)) (s : Shared), Inv X pins σ H s → wpAny (model X.prog X.w) X.A (isTrue e X.env (eval e X.env)) (TP X pins σ Q) X.xe s
def wA (X : Cx) (es : List Expr) : TA := fun σ H Q => ∀ (pos : Pos) (pins : List (Addr × Obj)) (s : Shared), Inv X pins σ H s → wpAny (model X.prog X.w) X.A (spliced (backTo pos (starEach es X.env))) (AP X pins σ Q) X.xe s
def wS (X : Cx) (sts : List Stmt) : TS := fun D σ H => ∀ (pins : List (Addr × Obj)) (s : Shared), Inv X pins σ H s → wpAny (model X.prog X.w) X.A (execs sts X.env) (SP X pins D) X.xe s
def w1 (X : Cx) (st : Stmt) : TS := fun D σ H => ∀ (pins : List (Addr × Obj)) (s : Shared), Inv X pins σ H s → wpAny (model X.prog X.w) X.A (exec st X.env) (SP X pins D) X.xe s
theorem peW {e : Expr} : PE X e (wE X e) := ⟨fun pins s _ _ _ I h => h pins s I⟩
theorem ptW {e : Expr} : PT X e (wT X e) := ⟨fun pins s _ _ _ I h => h pins s I⟩
theorem paW {e : List Expr} : PA X e (wA X e) := ⟨fun pos pins s _ _ _ I h => h pos pins s I⟩
theorem pssW {e : List Stmt} : PSs X e (wS X e) := ⟨fun pins s _ _ _ I h => h pins s I⟩
theorem psW {e : Stmt} : PS X e (w1 X e) := ⟨fun pins s _ _ _ I h => h pins s I⟩
variable {e : Expr} {σ : L2.St} {H : Hp} {Q : VK} {D : Ends}
theorem wE.of {t : TE} (h : PE X e t) (q : t σ H Q) : wE X e σ H Q := fun pins s I => h.run pins s σ H Q I q
theorem wT.of {t : TT} {Q : Bool → Hp → Prop} (h : PT X e t) (q : t σ H Q) : wT X e σ H Q := fun pins s I => h.run pins s σ H Q I q
theorem wA.of {es : List Expr} {t : TA} {Q : List V → Hp → Prop} (h : PA X es t) (q : t σ H Q) : wA X es σ H Q := fun pos pins s I => h.run pos pins s σ H Q I q
theorem wE.imp {Q' : VK} (h : wE X e σ H Q) (k : ∀ v H', Q v H' → Q' v H') : wE X e σ H Q' := fun pins s I => thn (h pins s I) fun u s' ⟨v, H', I', r, q⟩ => ⟨v, H', I', r, k v H' q⟩
theorem wT.imp {Q Q' : Bool → Hp → Prop} (h : wT X e σ H Q) (k : ∀ v H', Q v H' → Q' v H') : wT X e σ H Q' := fun pins s I => thn (h pins s I) fun u s' ⟨H', I', q⟩ => ⟨H', I', k u H' q⟩
theorem wA.imp {es : List Expr} {Q Q' : List V → Hp → Prop} (h : wA X es σ H Q) (k : ∀ v H', Q v H' → Q' v H') : wA X es σ H Q' := fun pos pins s I => thn (h pos pins s I) fun u s' ⟨v, H', I', r, q⟩ => ⟨v, H', I', r, k v H' q⟩
theorem wA_nil {Q : List V → Hp → Prop} (q : Q [] H) : wA X [] σ H Q := wA.of pa_nil q
theorem wA_cons {es : List Expr} {Q : List V → Hp → Prop} (q : wE X e σ H fun v H1 => wA X es σ H1 fun vs H2 => Q (v :: vs) H2)
    (hs : starEach (e :: es) X.env = (false, eval e X.env) :: starEach es X.env := by rfl) : wA X (e :: es) σ H Q := wA.of (pa_cons peW paW hs) q
/-- a block: one statement by its rule, then the rest -/
theorem wS_nil (q : D.nx σ H) : wS X [] D σ H := fun pins s I => wpAny_execs_nil ⟨σ, H, I, q⟩
theorem wS_cons {st : Stmt} {rest : List Stmt} {t : TS} (h : PS X st t) (q : t { D with nx := wS X rest D } σ H) : wS X (st :: rest) D σ H := by
  intro pins s I
  refine wpAny_execs_cons (thn (h.run pins s σ H { D with nx := wS X rest D } I q) fun f s1 z => ?_)
  cases f with
  | next =>
    obtain ⟨σ', H', I', z⟩ := z
    exact z pins s1 I'
  | ret v => exact z
  | brk => exact z
  | cont => exact z
/-- the last one, nothing behind -/
theorem wS_one {st : Stmt} {t : TS} (h : PS X st t) (q : t D σ H) : wS X [st] D σ H := fun pins s I => (pss_one h).run pins s σ H D I q
end

/-! ### new tuples, known to their objects -/
section
variable {X : Cx} {σ : L2.St} {H : Hp} {Q : VK}
theorem laidP {pins : List (Addr × Obj)} {s : Shared} {xs : List V} {its : List Value} (I : Inv X pins σ H s) (r : Vals xs its) (hz : xs.length ≤ sizeLine) (q : ∀ p o, H p = none → o.dict = none → Q (.ref p) (upd H p (.frz o (.tup xs)))) :
    EP X pins σ Q (.ref s.heap.objs.size) { s with heap := s.heap.push { cls := .type "tuple", data := .seq its.toArray } } := by
  have e : (s.heap.push { cls := .type "tuple", data := .seq its.toArray }).get? s.heap.objs.size = some { cls := .type "tuple", data := .seq its.toArray } := Heap.get?_push_size _ rfl
  exact ⟨.ref s.heap.objs.size, upd H s.heap.objs.size (.frz { cls := .type "tuple", data := .seq its.toArray } (.tup xs)), I.laid (t' := s.toks) (fun b u e => Heap.get?_push_of_some _ e) (Nat.le_refl _) ⟨e, hz, its, r, ⟨_, e, rfl, _, rfl⟩⟩, rfl, q _ _ (I.hok.fresh (Nat.le_refl _)) rfl⟩
theorem wE_tup {es : List Expr} {k : Nat} {pos : Pos} (h : wA X es σ H fun xs H1 => xs.length ≤ sizeLine ∧ ∀ p o, H1 p = none → o.dict = none → Q (.ref p) (upd H1 p (.frz o (.tup xs)))) : wE X (.Tuple es k pos) σ H Q := fun pins s I =>
  wpAny_Tuple_spliced (thn (h pos pins s I) fun us s1 ⟨xs, H1, I1, r, z, q⟩ => ⟨by rw [← r.length]; exact z, laidP I1 r z q⟩)
/-- tuple(a list) -/
theorem call_tupleP : CallR X (.type "tuple") (fun xs H Q => ∃ p ys, xs = [.ref p] ∧ SqL X.K H p ys ∧ ∀ l o, H l = none → o.dict = none → Q (.ref l) (upd H l (.frz o (.tup ys)))) := by
  intro pins s σ H xs us Q I r h
  obtain ⟨p, ys, e, hq, q⟩ := h
  subst e
  obtain ⟨u, e, rx⟩ := vals1 r
  subst e
  cases rx
  obtain ⟨its, r', pl, hz⟩ := I.list hq
  have hlen := r'.length
  refine call_tuple_list pl.isList (fun h' kp => ?_) (by simp only [List.size_toArray] <;> omega)
  exact laidP (s := { s with heap := h' }) (I.kept (t' := s.toks) kp) r' hz q
/-- t + u -/
def rCatP (K : PySem.W.Frag) : R2 := fun x y H Q => ∃ a b xs ys, x = .ref a ∧ y = .ref b ∧ SqT K H a xs ∧ SqT K H b ys ∧ xs.length + ys.length ≤ sizeLine ∧
  (xs = [] → Q (.ref b) H) ∧ (xs ≠ [] → ys = [] → Q (.ref a) H) ∧ (xs ≠ [] → ys ≠ [] → ∀ p o, H p = none → o.dict = none → Q (.ref p) (upd H p (.frz o (.tup (xs ++ ys)))))
theorem op_catP : OpR X (binaryOp .Add) (rCatP X.K) := by
  intro pins s σ H x y v u Q I rx ry h
  obtain ⟨a, b, xs, ys, e1, e2, ha, hb, hz, q0, q1, q2⟩ := h
  subst e1
  subst e2
  cases rx
  cases ry
  obtain ⟨its, r1, p1, _⟩ := I.tuple ha
  obtain ⟨its2, r2, p2, _⟩ := I.tuple hb
  by_cases hx : xs = []
  · subst hx
    cases r1
    exact cat_tup0 p1 p2 ⟨.ref b, H, I, rfl, q0 rfl⟩
  · refine HT.cat_tup p1 p2 (fun z => hx (r1.nil_iff.mp z)) (fun z => ⟨.ref a, H, I, rfl, q1 hx (r2.nil_iff.mp z)⟩) (fun z => ?_) (by rw [← r1.length, ← r2.length]; exact hz)
    exact laidP I (r1.append r2) (by rw [List.length_append]; exact hz) (q2 hx fun w => z (r2.nil_iff.mpr w))
/-- t[lo:hi] -/
def rSlP (K : PySem.W.Frag) : V → Option Int → Option Int → Hp → VK → Prop := fun x lo hi H Q => ∃ a xs, x = .ref a ∧ SqT K H a xs ∧
  (HT.sIx xs.length 0 lo = 0 ∧ HT.sIx xs.length xs.length hi = xs.length → Q (.ref a) H) ∧ (¬ (HT.sIx xs.length 0 lo = 0 ∧ HT.sIx xs.length xs.length hi = xs.length) → ∀ p o, H p = none → o.dict = none → Q (.ref p) (upd H p (.frz o (.tup (cutV xs lo hi)))))
theorem sl_tupP : SlR X (rSlP X.K) := by
  intro pins s σ H x v vl vu lo hi sl Q I rx hs pl pu h
  obtain ⟨a, xs, e, hx, q1, q2⟩ := h
  subst e
  cases rx
  obtain ⟨its, r, ht, hz⟩ := I.tuple hx
  have hlen : its.toArray.size = xs.length := by rw [List.size_toArray]; exact r.length.symm
  refine ⟨"tuple", _, PyProof.Rows.slot_tuple_getitem.lookup, ht.typeIs, ?_⟩
  by_cases hw : HT.sIx xs.length 0 lo = 0 ∧ HT.sIx xs.length xs.length hi = xs.length
  · exact getItem_tuple_whole ht hs pl pu (by rw [hlen]; exact hw) ⟨.ref a, H, I, rfl, q1 hw⟩
  · refine HT.getItem_tuple_cut ht hs pl pu (by rw [hlen]; exact hw) ?_ (by rw [hlen]; exact hz)
    rw [hlen]
    exact laidP I ((r.drop _).take _) (Nat.le_trans (cutV_length xs lo hi) hz) (q2 hw)
end

/-! ### where a body stands -/
structure Cok (k : Nat) (X : Cx) : Prop where
  room : Room k X.A
  gd : X.A.guards = some []
  calm : X.calm = true
  nd : X.N.Nodup
theorem Cok.hu {k : Nat} {X : Cx} (c : Cok k X) : X.A.units + 1 < cLine := hu_of c.room
theorem Cok.hu64 {k : Nat} {X : Cx} (c : Cok k X) : X.A.units + 64 < cLine := c.room.units
theorem Cok.mono {j k : Nat} {X : Cx} (c : Cok k X) (h : j ≤ k) : Cok j X := ⟨c.room.mono h, c.gd, c.calm, c.nd⟩

/-- a def of the module as its callers see it, where no repr is under way -/
abbrev Sp' := List V → Hp → VK → Prop
structure GDef (P : Program) (w : World) (K : PySem.W.Frag) (mg : Str → Option Value) (base : Heap) (k : Nat) (x : Str) (sp : Sp') : Prop where
  ex : ∃ f : Addr, mg x = some (.ref f) ∧ PySem.W.keepIn K (.ref f) = true ∧
    ∀ (A : Around) (outer : List Env) (s : Shared) (H : Hp) (us : List Value) (vs : List V) (Q : VK), Room k A → A.guards = some [] → Env0 P w K mg base A outer s H → Vals vs us → sp vs H Q →
      codeAny (model P w) A (.call (.ref f) ⟨us, []⟩) (CR CX0 outer P w H s Q E0) s
theorem GDef.mono {P : Program} {w : World} {K : PySem.W.Frag} {mg : Str → Option Value} {base : Heap} {j k : Nat} {x : Str} {sp : Sp'} (G : GDef P w K mg base j x sp) (h : j ≤ k) : GDef P w K mg base k x sp := by
  obtain ⟨f, h1, h2, r⟩ := G.ex
  exact ⟨f, h1, h2, fun A outer s H us vs Q hr => r A outer s H us vs Q (hr.mono h)⟩

/-- the context in which the body of a def st runs -/
abbrev bcx (P : Program) (w : World) (K : PySem.W.Frag) (mg : Str → Option Value) (base : Heap) (N : List Str) (x : Str) (st : Stmt) (f : Addr) (cd : Value) (A : Around) (outer : List Env) (s : Shared) (H : Hp) : Cx :=
  (cxOf CX0 P w K mg base N x (defScope st) f cd A outer s H E0).nox

theorem GDef.of {P : Program} {w : World} {K : PySem.W.Frag} {mg : Str → Option Value} {base : Heap} {k : Nat} {x : Str} {st : Stmt} {f : Addr} {dV kV doc pm cdv ct oc : Value} {an od : Option Addr} {osl : Array (Option Value)} {N ps : List Str} {sp : Sp'}
    (lk : K.lookup f = some ⟨oc, od, .func (PySem.W.fnOf x x (defArgs st) (defBody st) (defScope st) dV kV doc pm an cdv ct), osl⟩) (hcd : PySem.W.codeIn K cdv x = true) (hm : mg x = some (.ref f)) (hk : PySem.W.keepIn K (.ref f) = true)
    (S : FnScope N ps (defScope st)) (hb : ∀ us : List Value, us.length = ps.length → bindArgs (PySem.W.fnOf x x (defArgs st) (defBody st) (defScope st) dV kV doc pm an cdv ct) ⟨us, []⟩ = pure (ps.zip us))
    (len : ∀ vs H Q, sp vs H Q → vs.length = ps.length)
    (body : ∀ (A : Around) (outer : List Env) (s : Shared) (H : Hp) (vs : List V) (Q : VK), Cok k (bcx P w K mg base N x st f cdv A outer s H) → sp vs H Q →
      wS (bcx P w K mg base N x st f cdv A outer s H) (defBody st) { nx := fun _ H' => Q .non H', rt := Q } (L2.start N vs) H) : GDef P w K mg base (k + 1) x sp := by
  refine ⟨f, hm, hk, fun A outer s H us vs Q hr hg e0 r hsp => ?_⟩
  have hl := len _ _ _ hsp
  have KX : K.In s.heap := e0.mod.kin.keeps fun b o e => (e0.bs b o e).1
  have lim : s.heap.NoLimit := e0.mod.nolimit.keeps fun b o e => (e0.bs b o e).1
  have hkind : ∀ y ∈ ps.zip us, (defScope st).names.lookup y.1 = some .local ∨ ((defScope st).names.lookup y.1 = some .cell ∧ ((cellsFrom (s.heap.objs.size + 1) (defScope st).names []).lookup y.1).isSome = true) := by
    rintro ⟨n, v⟩ hy
    rcases S.par n (List.of_mem_zip hy).1 with q | q
    · exact .inl q
    · exact .inr ⟨q, PySem.W.cellsFrom_some _ _ _ (.inl q)⟩
  refine codeAny_call_function hr.depth (KX _ _ lk) rfl S.co S.gen rfl (PySem.W.codeRec_of KX hcd) ?_
  rw [hb us (by rw [← r.length]; exact hl)]
  refine wpAny_pure ?_
  refine wpAny_newFunctionEnv_cells S.kind hkind fun env he s1 x1 => ?_
  subst he
  refine ⟨lim.keeps x1.toInCall.keep, codeAny_func ?_⟩
  have I : Inv (bcx P w K mg base N x st f cdv A outer s H) [] (L2.start N vs) H s1 := (inv_start (CX := CX0) (E := E0) S hr.hd e0 hl r x1).wish _
  have go := body A outer s H vs Q ⟨hr.deeper _, hg, rfl, S.nd⟩ hsp [] s1 I
  refine wpAny_mono go (fun fl s' hs => ?_) fun _ _ z => False.elim z
  cases fl with
  | ret u =>
    obtain ⟨v, σ', H', J, rv, q⟩ := hs
    exact ⟨v, H', J.os, J.bare, J.base, J.hok, rv, q⟩
  | next =>
    obtain ⟨σ', H', J, q⟩ := hs
    exact ⟨V.non, H', J.os, J.bare, J.base, J.hok, rfl, q⟩
  | brk =>
    obtain ⟨_, _, _, q⟩ := hs
    exact False.elim q
  | cont =>
    obtain ⟨_, _, _, q⟩ := hs
    exact False.elim q
section
variable {X : Cx} {σ : L2.St} {H : Hp} {Q : VK}
theorem g_call {f : Addr} {j k : Nat} {sp : Sp'} {pins : List (Addr × Obj)} {s : Shared} {us : List Value} {vs : List V} (run : ∀ (A : Around) (outer : List Env) (s : Shared) (H : Hp) (us : List Value) (vs : List V) (Q : VK), Room j A → A.guards = some [] → Env0 X.prog X.w X.K X.mg X.base A outer s H → Vals vs us → sp vs H Q →
      codeAny (model X.prog X.w) A (.call (.ref f) ⟨us, []⟩) (CR CX0 outer X.prog X.w H s Q E0) s) (c : Cok k X) (hk : j ≤ k) (I : Inv X pins σ H s) (r : Vals vs us) (h : sp vs H Q) : wpAny (model X.prog X.w) X.A (call (.ref f) us) (EP X pins σ Q) X.xe s := by
  refine wpAny_call (codeAny_mono (run X.A X.stack s H us vs Q (c.room.mono hk) c.gd I.env0 r h) fun r s' hq => ?_)
  cases r with
  | error e => exact False.elim hq
  | ok fl =>
    cases fl with
    | ret u => exact I.after hq
    | next => exact False.elim hq
    | brk => exact False.elim hq
    | cont => exact False.elim hq
/-- a call of it -/
theorem wE_call {j k : Nat} {x : Str} {sp : Sp'} {e : Expr} {es : List Expr} {p pos : Pos} (G : GDef X.prog X.w X.K X.mg X.base j x sp) (c : Cok k X) (hk : j ≤ k) (hg : Gl X x) (q : wA X (e :: es) σ H fun vs H1 => sp vs H1 Q)
    (hdb : (x == ("__debug__" : Str)) = false := by decide) (he : starEach (e :: es) X.env = (false, eval e X.env) :: starEach es X.env := by rfl) (hpl : (backTo pos (starEach es X.env)).any (·.1) = false := by rfl) :
    wE X (.Call (.Name x p) (e :: es) [] pos) σ H Q := by
  intro pins s I
  obtain ⟨f, hm, hkp, run⟩ := G.ex
  refine wpAny_Call_Name_kw (ld_glob I hg hm ?_ hdb)
  refine PySem.W.callWith_K (h₀ := X.base) I.ok.mod.kin hkp (thn (q pos pins s I) fun us s1 ⟨vs, H1, I1, r, q1⟩ => ⟨I1.kIn, ?_⟩) he hpl
  exact g_call run c hk I1 r q1
end
end K7
/-! ## K7B -/
set_option Elab.async false
set_option linter.all false
set_option maxRecDepth 100000
set_option maxHeartbeats 2000000
/-! What an expression evaluates to, as data, whatever has been laid besides: EvV (a known value), EvD (data), EvT (a test), EvA (arguments); statements over them. -/
namespace K7
open PySem PySem.Spec PyProof.Rows L2
section
variable (T : List (Addr × Str)) (X : Cx)
def EvV (e : Expr) (σ : L2.St) (H : Hp) (v : V) : Prop := ∀ H1, Ex T H H1 → ∀ Q : VK, (∀ H2, Ex T H1 H2 → Q v H2) → wE X e σ H1 Q
def EvD (e : Expr) (σ : L2.St) (H : Hp) (d : PyData) : Prop := ∀ H1, Ex T H H1 → ∀ Q : VK, (∀ v H2, Ex T H1 H2 → DT X.K H2 v d → Q v H2) → wE X e σ H1 Q
def EvR (e : Expr) (σ : L2.St) (H : Hp) (R : PyData → Prop) : Prop := ∀ H1, Ex T H H1 → ∀ Q : VK, (∀ v H2 d, Ex T H1 H2 → R d → DT X.K H2 v d → Q v H2) → wE X e σ H1 Q
def EvT (e : Expr) (σ : L2.St) (H : Hp) (b : Bool) : Prop := ∀ H1, Ex T H H1 → ∀ Q : Bool → Hp → Prop, (∀ H2, Ex T H1 H2 → Q b H2) → wT X e σ H1 Q
def EvA (es : List Expr) (σ : L2.St) (H : Hp) (ds : List PyData) : Prop := ∀ H1, Ex T H H1 → ∀ Q : List V → Hp → Prop, (∀ vs H2, Ex T H1 H2 → DTs X.K H2 vs ds → Q vs H2) → wA X es σ H1 Q
def wW (e : Expr) : TT := fun σ H Q => ∀ (whole : Sem Value) (pins : List (Addr × Obj)) (s : Shared), Inv X pins σ H s → wpAny (model X.prog X.w) X.A (isTrue e X.env whole) (TP X pins σ Q) X.xe s
def EvW (e : Expr) (σ : L2.St) (H : Hp) (b : Bool) : Prop := ∀ H1, Ex T H H1 → ∀ Q : Bool → Hp → Prop, (∀ H2, Ex T H1 H2 → Q b H2) → wW X e σ H1 Q
/-- any rule of an operator that fits -/
def anyR (f : Value → Value → Sem Value) : R2 := fun x y H Q => ∃ r, OpR X f r ∧ r x y H Q
def EvC (op : CmpOp) (a b : Expr) (σ : L2.St) (H : Hp) (k : Bool) : Prop := ∀ H1, Ex T H H1 → ∀ Q : VK, (∀ H2, Ex T H1 H2 → Q (.bl k) H2) → wE X a σ H1 fun x H2 => wE X b σ H2 fun y H3 => anyR X (compareOp op) x y H3 Q
end
section
variable {T : List (Addr × Str)} {X : Cx} {σ : L2.St} {H H' : Hp} {e a b : Expr} {es : List Expr} {v : V} {d : PyData} {ds : List PyData}
theorem anyR_ok (f : Value → Value → Sem Value) : OpR X f (anyR X f) := fun pins s σ H x y v u Q I rx ry ⟨r, hr, h⟩ => hr pins s σ H x y v u Q I rx ry h
theorem EvV.mono (h : EvV T X e σ H v) (c : Ex T H H') : EvV T X e σ H' v := fun H1 a Q q => h H1 (c.trans a) Q q
theorem EvD.mono (h : EvD T X e σ H d) (c : Ex T H H') : EvD T X e σ H' d := fun H1 a Q q => h H1 (c.trans a) Q q
theorem EvR.mono {R : PyData → Prop} (h : EvR T X e σ H R) (c : Ex T H H') : EvR T X e σ H' R := fun H1 a Q q => h H1 (c.trans a) Q q
theorem EvT.mono {b : Bool} (h : EvT T X e σ H b) (c : Ex T H H') : EvT T X e σ H' b := fun H1 a Q q => h H1 (c.trans a) Q q
theorem EvA.mono (h : EvA T X es σ H ds) (c : Ex T H H') : EvA T X es σ H' ds := fun H1 a Q q => h H1 (c.trans a) Q q
theorem EvV.dat (h : EvV T X e σ H v) (hd : DT X.K H v d) : EvD T X e σ H d := fun H1 a Q q => h H1 a Q fun H2 c => q v H2 c ((a.trans c).dt hd)
theorem EvD.val {i : Int} (h : EvD T X e σ H (.int i)) : EvV T X e σ H (.int i) := fun H1 a Q q => h H1 a Q fun v H2 c hv => by rw [hv.inv_int]; exact q H2 c
theorem EvD.vs {i : Str} (h : EvD T X e σ H (.str i)) : EvV T X e σ H (.str i) := fun H1 a Q q => h H1 a Q fun v H2 c hv => by rw [hv.inv_str]; exact q H2 c
theorem EvD.vb {i : Bool} (h : EvD T X e σ H (.bool i)) : EvV T X e σ H (.bl i) := fun H1 a Q q => h H1 a Q fun v H2 c hv => by rw [hv.inv_bl]; exact q H2 c
theorem EvD.r {R : PyData → Prop} (h : EvD T X e σ H d) (hr : R d) : EvR T X e σ H R := fun H1 a Q q => h H1 a Q fun v H2 c hv => q v H2 d c hr hv
theorem EvD.is {d' : PyData} (h : EvD T X e σ H d) (q : d = d') : EvD T X e σ H d' := q ▸ h
theorem EvT.is {k k' : Bool} (h : EvT T X e σ H k) (q : k = k') : EvT T X e σ H k' := q ▸ h
theorem EvC.is {op : CmpOp} {k k' : Bool} (h : EvC T X op a b σ H k) (q : k = k') : EvC T X op a b σ H k' := q ▸ h

/-! ### expressions -/
theorem ev_name (i : Nat) {x : Str} {pos : Pos} (hσ : σ[i]? = some (some v) := by rfl) (hN : X.N[i]? = some x := by rfl) (hv : Vis X.env.scope x := by first | exact Or.inl rfl | exact Or.inr (Or.inl rfl) | exact Or.inr (Or.inr rfl))
    (hd : (x == ("__debug__" : Str)) = false := by decide) (hcd : (x == ("__classdict__" : Str)) = false := by decide) : EvV T X (.Name x pos) σ H v := fun H1 _ Q q => wE.of (pe_var hN hv hd hcd) ⟨v, hσ, q H1 .refl⟩
theorem ed_name (i : Nat) {x : Str} {pos : Pos} (h : DT X.K H v d) (hσ : σ[i]? = some (some v) := by rfl) (hN : X.N[i]? = some x := by rfl) (hv : Vis X.env.scope x := by first | exact Or.inl rfl | exact Or.inr (Or.inl rfl) | exact Or.inr (Or.inr rfl))
    (hd : (x == ("__debug__" : Str)) = false := by decide) (hcd : (x == ("__classdict__" : Str)) = false := by decide) : EvD T X (.Name x pos) σ H d := (ev_name i hσ hN hv hd hcd).dat h
theorem ed_int {i : Int} {j pos} : EvD T X (.Constant (.int i) j pos) σ H (.int i) := fun H1 _ Q q => wE.of pe_int (q _ H1 .refl (.int i))
theorem ed_str {i : Str} {j pos} : EvD T X (.Constant (.str i) j pos) σ H (.str i) := fun H1 _ Q q => wE.of pe_str (q _ H1 .refl (.str i))
theorem ed_bl {i : Bool} {j pos} : EvD T X (.Constant (.bool i) j pos) σ H (.bool i) := fun H1 _ Q q => wE.of pe_bl (q _ H1 .refl (.bl i))
theorem ed_non {j pos} : EvD T X (.Constant .none j pos) σ H .none := fun H1 _ Q q => wE.of pe_non (q _ H1 .refl .non)
theorem ed_glob {x : Str} {u : Value} {pos : Pos} (hg : Gl X x) (hm : X.mg x = some u) (r : RelV v u) (h : DT X.K H v d) (hd : (x == ("__debug__" : Str)) = false := by decide) : EvD T X (.Name x pos) σ H d :=
  fun H1 c Q q => wE.of (pe_glob hg hm r hd) (q v H1 .refl (c.dt h))
theorem ea_nil : EvA T X [] σ H [] := fun H1 _ Q q => wA_nil (q [] H1 .refl .nil)
theorem ea_cons (h : EvD T X e σ H d) (hs : EvA T X es σ H ds) (hst : starEach (e :: es) X.env = (false, eval e X.env) :: starEach es X.env := by rfl) : EvA T X (e :: es) σ H (d :: ds) := fun H1 c Q q =>
  wA_cons (h H1 c _ fun v H2 c2 hv => hs H2 (c.trans c2) _ fun vs H3 c3 hvs => q _ H3 (c2.trans c3) (.cons (c3.dt hv) hvs)) hst
theorem ed_tup {k : Nat} {pos : Pos} (h : EvA T X es σ H ds) (hz : ds.length ≤ 1000 := by simp) : EvD T X (.Tuple es k pos) σ H (.tuple ds) := fun H1 c Q q =>
  wE_tup (h H1 c _ fun vs H2 c2 hv => ⟨by rw [hv.len]; exact Nat.le_of_lt (small1000 hz), fun p o hp ho => q _ _ (c2.trans (.new hp)) (.new hp ho hv)⟩)
theorem at_dts {K : PySem.W.Frag} {xs : List V} {n : Int} (h : DTs K H xs ds) (e : atI ds n = some d) : ∃ v, atI xs n = some v ∧ DT K H v d := by
  unfold atI at e ⊢
  rw [h.len]
  cases q : ixN ds.length n with
  | none => rw [q] at e; cases e
  | some j =>
    rw [q] at e
    exact h.at_ e
theorem ed_ix {n : Int} {pos : Pos} (ha : EvD T X a σ H (.tuple ds)) (hb : EvD T X b σ H (.int n)) (hd : atI ds n = some d) (hs : PlainIx b := by exact fun _ _ => rfl) : EvD T X (.Subscript a b pos) σ H d := fun H1 c Q q =>
  wE.of (pe_ix ix_tup peW peW hs) (ha H1 c _ fun x H2 c2 hx => hb H2 (c.trans c2) _ fun y H3 c3 hy => by
    obtain ⟨p, xs, e1, s, hxs⟩ := (c3.dt hx).inv_tup
    obtain ⟨v, e2, hv⟩ := at_dts hxs hd
    exact ⟨p, xs, n, v, e1, hy.inv_int, s.t, e2, q v H3 (c2.trans c3) hv⟩)
/-- a written place of a tuple -/
theorem ed_at {n : Nat} {j : Nat} {p1 pos : Pos} (ha : EvD T X a σ H (.tuple ds)) (hd : ds[n]? = some d) : EvD T X (.Subscript a (.Constant (.int (n : Int)) j p1) pos) σ H d := ed_ix ha ed_int (atI_nat hd)
theorem ed_at0 {j : Nat} {p1 pos : Pos} (ha : EvD T X a σ H (.tuple ds)) (hd : ds[0]? = some d := by rfl) : EvD T X (.Subscript a (.Constant (.int 0) j p1) pos) σ H d := ed_at (n := 0) ha hd
theorem ed_at1 {j : Nat} {p1 pos : Pos} (ha : EvD T X a σ H (.tuple ds)) (hd : ds[1]? = some d := by rfl) : EvD T X (.Subscript a (.Constant (.int 1) j p1) pos) σ H d := ed_at (n := 1) ha hd
theorem ed_at2 {j : Nat} {p1 pos : Pos} (ha : EvD T X a σ H (.tuple ds)) (hd : ds[2]? = some d := by rfl) : EvD T X (.Subscript a (.Constant (.int 2) j p1) pos) σ H d := ed_at (n := 2) ha hd
theorem ed_at3 {j : Nat} {p1 pos : Pos} (ha : EvD T X a σ H (.tuple ds)) (hd : ds[3]? = some d := by rfl) : EvD T X (.Subscript a (.Constant (.int 3) j p1) pos) σ H d := ed_at (n := 3) ha hd
theorem ed_add {i j : Int} {pos : Pos} (ha : EvD T X a σ H (.int i)) (hb : EvD T X b σ H (.int j)) : EvD T X (.BinOp a .Add b pos) σ H (.int (i + j)) := fun H1 c Q q =>
  wE.of (pe_op op_add peW peW) (ha H1 c _ fun x H2 c2 hx => hb H2 (c.trans c2) _ fun y H3 c3 hy => ⟨i, j, hx.inv_int, hy.inv_int, q _ H3 (c2.trans c3) (.int _)⟩)
theorem ed_sub {i j : Int} {pos : Pos} (ha : EvD T X a σ H (.int i)) (hb : EvD T X b σ H (.int j)) : EvD T X (.BinOp a .Sub b pos) σ H (.int (i - j)) := fun H1 c Q q =>
  wE.of (pe_op op_sub peW peW) (ha H1 c _ fun x H2 c2 hx => hb H2 (c.trans c2) _ fun y H3 c3 hy => ⟨i, j, hx.inv_int, hy.inv_int, q _ H3 (c2.trans c3) (.int _)⟩)
theorem ed_mul {i j : Int} {pos : Pos} (ha : EvD T X a σ H (.int i)) (hb : EvD T X b σ H (.int j)) (hc : CMul i j) : EvD T X (.BinOp a .Mult b pos) σ H (.int (i * j)) := fun H1 c Q q =>
  wE.of (pe_op op_mul peW peW) (ha H1 c _ fun x H2 c2 hx => hb H2 (c.trans c2) _ fun y H3 c3 hy => ⟨i, j, hx.inv_int, hy.inv_int, hc, q _ H3 (c2.trans c3) (.int _)⟩)

/-! ### comparisons -/
/-- two pieces of data, then a rule -/
theorem ec_of {op : CmpOp} {d1 d2 : PyData} {k : Bool} {r : R2} (ha : EvD T X a σ H d1) (hb : EvD T X b σ H d2) (ho : OpR X (compareOp op) r) (hr : ∀ H1 x y (Q : VK), DT X.K H1 x d1 → DT X.K H1 y d2 → Q (.bl k) H1 → r x y H1 Q) : EvC T X op a b σ H k :=
  fun H1 c Q q => ha H1 c _ fun x H2 c2 hx => hb H2 (c.trans c2) _ fun y H3 c3 hy => ⟨r, ho, hr H3 x y Q (c3.dt hx) hy (q H3 (c2.trans c3))⟩
theorem ec_eqS {x y : Str} (ha : EvD T X a σ H (.str x)) (hb : EvD T X b σ H (.str y)) : EvC T X .Eq a b σ H (decide (x = y)) := ec_of ha hb op_eq fun H1 u w Q hx hy q => by
  rw [hx.inv_str, hy.inv_str]
  refine ⟨rfl, ?_⟩
  have : decide (V.str x = V.str y) = decide (x = y) := by
    by_cases h : x = y
    · rw [h]; simp
    · rw [decide_eq_false h, decide_eq_false (fun z => h (by injection z))]
  rw [this]; exact q
theorem ec_neS {x y : Str} (ha : EvD T X a σ H (.str x)) (hb : EvD T X b σ H (.str y)) : EvC T X .NotEq a b σ H (!decide (x = y)) := ec_of ha hb op_ne fun H1 u w Q hx hy q => by
  rw [hx.inv_str, hy.inv_str]
  refine ⟨rfl, ?_⟩
  have : decide (V.str x = V.str y) = decide (x = y) := by
    by_cases h : x = y
    · rw [h]; simp
    · rw [decide_eq_false h, decide_eq_false (fun z => h (by injection z))]
  rw [this]; exact q
theorem ec_eqI {x y : Int} (ha : EvD T X a σ H (.int x)) (hb : EvD T X b σ H (.int y)) : EvC T X .Eq a b σ H (decide (x = y)) := ec_of ha hb op_eq fun H1 u w Q hx hy q => by
  rw [hx.inv_int, hy.inv_int]
  refine ⟨rfl, ?_⟩
  have : decide (V.int x = V.int y) = decide (x = y) := by
    by_cases h : x = y
    · rw [h]; simp
    · rw [decide_eq_false h, decide_eq_false (fun z => h (by injection z))]
  rw [this]; exact q
theorem ec_neI {x y : Int} (ha : EvD T X a σ H (.int x)) (hb : EvD T X b σ H (.int y)) : EvC T X .NotEq a b σ H (!decide (x = y)) := ec_of ha hb op_ne fun H1 u w Q hx hy q => by
  rw [hx.inv_int, hy.inv_int]
  refine ⟨rfl, ?_⟩
  have : decide (V.int x = V.int y) = decide (x = y) := by
    by_cases h : x = y
    · rw [h]; simp
    · rw [decide_eq_false h, decide_eq_false (fun z => h (by injection z))]
  rw [this]; exact q
theorem ec_lt {x y : Int} (ha : EvD T X a σ H (.int x)) (hb : EvD T X b σ H (.int y)) : EvC T X .Lt a b σ H (decide (x < y)) := ec_of ha hb op_lt fun H1 u w Q hx hy q => ⟨x, y, hx.inv_int, hy.inv_int, q⟩
theorem ec_le {x y : Int} (ha : EvD T X a σ H (.int x)) (hb : EvD T X b σ H (.int y)) : EvC T X .LtE a b σ H (decide (x ≤ y)) := ec_of ha hb op_le fun H1 u w Q hx hy q => ⟨x, y, hx.inv_int, hy.inv_int, q⟩
theorem ec_gt {x y : Int} (ha : EvD T X a σ H (.int x)) (hb : EvD T X b σ H (.int y)) : EvC T X .Gt a b σ H (decide (y < x)) := ec_of ha hb op_gt fun H1 u w Q hx hy q => ⟨x, y, hx.inv_int, hy.inv_int, q⟩
theorem ec_ge {x y : Int} (ha : EvD T X a σ H (.int x)) (hb : EvD T X b σ H (.int y)) : EvC T X .GtE a b σ H (decide (y ≤ x)) := ec_of ha hb op_ge fun H1 u w Q hx hy q => ⟨x, y, hx.inv_int, hy.inv_int, q⟩
theorem ec_eqD {k : Nat} {d1 d2 : PyData} (c : Cok k X) (ha : EvD T X a σ H d1) (hb : EvD T X b σ H d2) (s1 : SeqAt.shaped d1 = true) (s2 : SeqAt.shaped d2 = true) : EvC T X .Eq a b σ H (PyData.eqv d1 d2) :=
  ec_of ha hb (op_eqD c.hu64) fun H1 u w Q hx hy q => ⟨d1, d2, hx.dp, hy.dp, s1, s2, q⟩
theorem ec_neD {k : Nat} {d1 d2 : PyData} (c : Cok k X) (ha : EvD T X a σ H d1) (hb : EvD T X b σ H d2) (s1 : SeqAt.shaped d1 = true) (s2 : SeqAt.shaped d2 = true) : EvC T X .NotEq a b σ H (!PyData.eqv d1 d2) :=
  ec_of ha hb (op_neD c.hu64) fun H1 u w Q hx hy q => ⟨d1, d2, hx.dp, hy.dp, s1, s2, q⟩
def isNon : PyData → Bool
  | .none => true
  | _ => false
theorem DT.isNon {K : PySem.W.Frag} (h : DT K H v d) : decide (v = .non) = isNon d := by cases h <;> rfl
theorem ec_isN {j pos} (ha : EvD T X a σ H d) : EvC T X .Is a (.Constant .none j pos) σ H (isNon d) := ec_of ha ed_non op_isN fun H1 u w Q hx hy q => by
  rw [hy.inv_non]
  exact ⟨rfl, by rw [hx.isNon]; exact q⟩
theorem ec_notN {j pos} (ha : EvD T X a σ H d) : EvC T X .IsNot a (.Constant .none j pos) σ H (!isNon d) := ec_of ha ed_non op_notN fun H1 u w Q hx hy q => by
  rw [hy.inv_non]
  exact ⟨rfl, by rw [hx.isNon]; exact q⟩
theorem ed_cmp {op : CmpOp} {k : Bool} {pos : Pos} (h : EvC T X op a b σ H k) (hm : behindInMarks op b = false := by first | exact nobehind _ (by decide) (by decide) | rfl) : EvD T X (.Compare a [op] [b] pos) σ H (.bool k) := fun H1 c Q q =>
  wE.of (pe_cmpR (anyR_ok _) peW peW hm) (h H1 c _ fun H2 c2 => q _ H2 c2 (.bl k))
theorem et_cmp {op : CmpOp} {k : Bool} {pos : Pos} (h : EvC T X op a b σ H k) (hm : behindInMarks op b = false := by first | exact nobehind _ (by decide) (by decide) | rfl) : EvT T X (.Compare a [op] [b] pos) σ H k := fun H1 c Q q =>
  wT.of (pt_cmpR (anyR_ok _) peW peW hm) (h H1 c _ fun H2 c2 => ⟨k, rfl, q H2 c2⟩)
/-! ### tests -/
theorem et_val {k : Bool} (h : EvD T X e σ H (.bool k)) (he : ∀ whole, isTrue e X.env whole = (do let v ← whole; standAt e.pos; holding [v] (truthy v)) := by intro _; rfl) : EvT T X e σ H k := fun H1 c Q q =>
  wT.of (pt_val peW he) (h H1 c _ fun v H2 c2 hv => by rw [hv.inv_bl]; exact ⟨k, rfl, q H2 c2⟩)
theorem et_not {k : Bool} {pos : Pos} (h : EvT T X e σ H k) : EvT T X (.UnaryOp .Not e pos) σ H (!k) := fun H1 c Q q => wT.of (pt_not ptW) (h H1 c _ fun H2 c2 => q H2 c2)
theorem et_w {k : Bool} (h : EvW T X e σ H k) : EvT T X e σ H k := fun H1 c Q q pins s I => h H1 c Q q _ pins s I
variable {rest : List Expr} {pos : Pos} {k k2 : Bool}
theorem ew_and1 (h : EvT T X a σ H k) : EvW T X (.BoolOp .And [a] pos) σ H k := fun H1 c Q q wh pins s I => (pw_and1 ptW).run wh pins s σ H1 Q I (h H1 c Q q)
theorem ew_or1 (h : EvT T X a σ H k) : EvW T X (.BoolOp .Or [a] pos) σ H k := fun H1 c Q q wh pins s I => (pw_or1 ptW).run wh pins s σ H1 Q I (h H1 c Q q)
theorem pwW : PW X e (wW X e) := ⟨fun wh pins s _ _ _ I h => h wh pins s I⟩
theorem ew_and (h : EvT T X a σ H k) (h2 : k = true → EvW T X (.BoolOp .And (b :: rest) pos) σ H k2) : EvW T X (.BoolOp .And (a :: b :: rest) pos) σ H (k && k2) := fun H1 c Q q wh pins s I => by
  refine (pw_and ptW pwW).run wh pins s σ H1 Q I (h H1 c _ fun H2 c2 => ?_)
  cases k with
  | true => exact h2 rfl H2 (c.trans c2) Q fun H3 c3 => q H3 (c2.trans c3)
  | false => exact q H2 c2
theorem ew_or (h : EvT T X a σ H k) (h2 : k = false → EvW T X (.BoolOp .Or (b :: rest) pos) σ H k2) : EvW T X (.BoolOp .Or (a :: b :: rest) pos) σ H (k || k2) := fun H1 c Q q wh pins s I => by
  refine (pw_or ptW pwW).run wh pins s σ H1 Q I (h H1 c _ fun H2 c2 => ?_)
  cases k with
  | false => exact h2 rfl H2 (c.trans c2) Q fun H3 c3 => q H3 (c2.trans c3)
  | true => exact q H2 c2
theorem et_and (h : EvT T X a σ H k) (h2 : k = true → EvT T X b σ H k2) : EvT T X (.BoolOp .And [a, b] pos) σ H (k && k2) := et_w (ew_and h fun z => ew_and1 (h2 z))
theorem et_or (h : EvT T X a σ H k) (h2 : k = false → EvT T X b σ H k2) : EvT T X (.BoolOp .Or [a, b] pos) σ H (k || k2) := et_w (ew_or h fun z => ew_or1 (h2 z))
/-! .. as values -/
theorem ed_one {op} (h : EvD T X a σ H d) : EvD T X (.BoolOp op [a] pos) σ H d := fun H1 c Q q => wE.of (pe_one peW) (h H1 c Q q)
theorem ed_andB (h : EvD T X a σ H (.bool k)) (h2 : k = true → EvD T X (.BoolOp .And (b :: rest) pos) σ H (.bool k2)) : EvD T X (.BoolOp .And (a :: b :: rest) pos) σ H (.bool (k && k2)) := fun H1 c Q q =>
  wE.of (pe_and peW peW) (h H1 c _ fun v H2 c2 hv => by
    rw [hv.inv_bl]
    refine ⟨k, rfl, ?_⟩
    cases k with
    | true => exact h2 rfl H2 (c.trans c2) Q fun v H3 c3 => q v H3 (c2.trans c3)
    | false => exact q _ H2 c2 (.bl false))
theorem ed_and (h : EvD T X a σ H (.bool k)) (h2 : k = true → EvD T X b σ H (.bool k2)) : EvD T X (.BoolOp .And [a, b] pos) σ H (.bool (k && k2)) := ed_andB h fun z => ed_one (h2 z)
theorem ed_not (h : EvD T X a σ H (.bool k)) : EvD T X (.UnaryOp .Not a pos) σ H (.bool (!k)) := fun H1 c Q q =>
  wE.of (pe_not peW) (h H1 c _ fun v H2 c2 hv => by rw [hv.inv_bl]; exact ⟨k, rfl, q _ H2 c2 (.bl _)⟩)
theorem ed_if {c0 : Expr} (h : EvT T X c0 σ H k) (h1 : k = true → EvD T X a σ H d) (h2 : k = false → EvD T X b σ H d) : EvD T X (.IfExp c0 a b pos) σ H d := fun H1 c Q q =>
  wE.of (pe_ifExp ptW peW peW) (h H1 c _ fun H2 c2 => by
    cases k with
    | true => exact h1 rfl H2 (c.trans c2) Q fun v H3 c3 => q v H3 (c2.trans c3)
    | false => exact h2 rfl H2 (c.trans c2) Q fun v H3 c3 => q v H3 (c2.trans c3))
theorem er_if {c0 : Expr} {R : PyData → Prop} (h : EvT T X c0 σ H k) (h1 : k = true → EvR T X a σ H R) (h2 : k = false → EvR T X b σ H R) : EvR T X (.IfExp c0 a b pos) σ H R := fun H1 c Q q =>
  wE.of (pe_ifExp ptW peW peW) (h H1 c _ fun H2 c2 => by
    cases k with
    | true => exact h1 rfl H2 (c.trans c2) Q fun v H3 d c3 => q v H3 d (c2.trans c3)
    | false => exact h2 rfl H2 (c.trans c2) Q fun v H3 d c3 => q v H3 d (c2.trans c3))

/-! ### calls of defs over data -/
/-- from data to data -/
def spD (K : PySem.W.Frag) (T : List (Addr × Str)) (R : List PyData → PyData → Prop) : Sp' := fun vs H Q => ∃ ds, DTs K H vs ds ∧ (∃ d, R ds d) ∧ ∀ v H' d, Ex T H H' → R ds d → DT K H' v d → Q v H'
theorem er_call {j n : Nat} {x : Str} {R : List PyData → PyData → Prop} {p : Pos} (G : GDef X.prog X.w X.K X.mg X.base j x (spD X.K T R)) (c : Cok n X) (hk : j ≤ n) (hg : Gl X x) (ha : EvA T X (e :: es) σ H ds) (hp : ∃ d, R ds d)
    (hdb : (x == ("__debug__" : Str)) = false := by decide) (he : starEach (e :: es) X.env = (false, eval e X.env) :: starEach es X.env := by rfl) (hpl : (backTo pos (starEach es X.env)).any (·.1) = false := by rfl) :
    EvR T X (.Call (.Name x p) (e :: es) [] pos) σ H (R ds) := fun H1 c1 Q q =>
  wE_call G c hk hg (ha H1 c1 _ fun vs H2 c2 hv => ⟨ds, hv, hp, fun v H3 d c3 hr hd => q v H3 d (c2.trans c3) hr hd⟩) hdb he hpl
theorem EvR.dat {R : PyData → Prop} (h : EvR T X e σ H R) (k : ∀ d', R d' → d' = d) : EvD T X e σ H d := fun H1 c Q q => h H1 c Q fun v H2 d' c2 hr hd => q v H2 c2 (k d' hr ▸ hd)
theorem EvR.imp {R R' : PyData → Prop} (h : EvR T X e σ H R) (k : ∀ d', R d' → R' d') : EvR T X e σ H R' := fun H1 c Q q => h H1 c Q fun v H2 d' c2 hr hd => q v H2 d' c2 (k d' hr) hd
end

/-! ### statements -/
section
variable {T : List (Addr × Str)} {X : Cx} {σ : L2.St} {H : Hp} {e : Expr} {d : PyData} {v : V} {D : Ends} {rest : List Stmt} {pos : Pos} {n : Nat}
theorem ws_asg (i : Nat) {x : Str} {px : Pos} (c : Cok n X) (h : EvD T X e σ H d) (q : ∀ v H1, Ex T H H1 → DT X.K H1 v d → wS X rest D (σ.set i (some v)) H1) (hi : X.N[i]? = some x := by rfl) (hx : Loc X.env.scope x := by first | exact Or.inl rfl | exact Or.inr rfl)
    (hs : swapsWith e (some (.Name x px)) pos.line X.env = pure false := by rfl) (hf : X.fn x = true ∨ X.env.scope.names.lookup x = some .local := by first | exact .inl rfl | exact .inr rfl) : wS X (.Assign [.Name x px] e pos :: rest) D σ H :=
  wS_cons (ps_set c.nd hi hx peW hs hf) (h H .refl _ fun v H1 c1 hv => q v H1 c1 hv)
theorem ws_asgR (i : Nat) {x : Str} {px : Pos} {R : PyData → Prop} (c : Cok n X) (h : EvR T X e σ H R) (q : ∀ v H1 d, Ex T H H1 → R d → DT X.K H1 v d → wS X rest D (σ.set i (some v)) H1) (hi : X.N[i]? = some x := by rfl) (hx : Loc X.env.scope x := by first | exact Or.inl rfl | exact Or.inr rfl)
    (hs : swapsWith e (some (.Name x px)) pos.line X.env = pure false := by rfl) (hf : X.fn x = true ∨ X.env.scope.names.lookup x = some .local := by first | exact .inl rfl | exact .inr rfl) : wS X (.Assign [.Name x px] e pos :: rest) D σ H :=
  wS_cons (ps_set c.nd hi hx peW hs hf) (h H .refl _ fun v H1 d c1 hr hv => q v H1 d c1 hr hv)
theorem ws_set (i : Nat) {x : Str} {px : Pos} (c : Cok n X) (h : wE X e σ H fun v H1 => wS X rest D (σ.set i (some v)) H1) (hi : X.N[i]? = some x := by rfl) (hx : Loc X.env.scope x := by first | exact Or.inl rfl | exact Or.inr rfl)
    (hs : swapsWith e (some (.Name x px)) pos.line X.env = pure false := by rfl) (hf : X.fn x = true ∨ X.env.scope.names.lookup x = some .local := by first | exact .inl rfl | exact .inr rfl) : wS X (.Assign [.Name x px] e pos :: rest) D σ H :=
  wS_cons (ps_set c.nd hi hx peW hs hf) h
theorem ws_ret (h : EvD T X e σ H d) (q : ∀ v H1, Ex T H H1 → DT X.K H1 v d → D.rt v H1) : wS X (.Return (some e) pos :: rest) D σ H := wS_cons (ps_ret peW) (h H .refl _ fun v H1 c1 hv => q v H1 c1 hv)
theorem ws_retR {R : PyData → Prop} (h : EvR T X e σ H R) (q : ∀ v H1 d, Ex T H H1 → R d → DT X.K H1 v d → D.rt v H1) : wS X (.Return (some e) pos :: rest) D σ H := wS_cons (ps_ret peW) (h H .refl _ fun v H1 d c1 hr hv => q v H1 d c1 hr hv)
theorem ws_retV (h : EvV T X e σ H v) (q : ∀ H1, Ex T H H1 → D.rt v H1) : wS X (.Return (some e) pos :: rest) D σ H := wS_cons (ps_ret peW) (h H .refl _ fun H1 c1 => q H1 c1)
theorem ws_return (h : wE X e σ H D.rt) : wS X (.Return (some e) pos :: rest) D σ H := wS_cons (ps_ret peW) h
theorem ws_drop (h : wE X e σ H fun _ H1 => wS X rest D σ H1) (hs : swapsWith e none pos.line X.env = pure false := by rfl) : wS X (.Expr e pos :: rest) D σ H := wS_cons (ps_expr peW hs) h
theorem ws_if {c0 : Expr} {a b : List Stmt} {k : Bool} (h : EvT T X c0 σ H k) (h1 : k = true → ∀ H1, Ex T H H1 → wS X a { D with nx := wS X rest D } σ H1) (h2 : k = false → ∀ H1, Ex T H H1 → wS X b { D with nx := wS X rest D } σ H1) : wS X (.If c0 a b pos :: rest) D σ H :=
  wS_cons (ps_if ptW pssW pssW) (h H .refl _ fun H1 c1 => by
    cases k with
    | true => exact h1 rfl H1 c1
    | false => exact h2 rfl H1 c1)
/-- an if without else -/
theorem ws_when {c0 : Expr} {a : List Stmt} {k : Bool} (h : EvT T X c0 σ H k) (h1 : k = true → ∀ H1, Ex T H H1 → wS X a { D with nx := wS X rest D } σ H1) (h2 : k = false → ∀ H1, Ex T H H1 → wS X rest D σ H1) : wS X (.If c0 a [] pos :: rest) D σ H :=
  ws_if h h1 fun z H1 c1 => wS_nil (h2 z H1 c1)
end
end K7
/-! ## K7M -/
set_option Elab.async false
set_option linter.all false
set_option maxRecDepth 100000
set_option maxHeartbeats 2000000
/-! The code, its places, its ways, as plain data types; how they are written as Python data. -/
namespace K7
open PySem PySem.Spec PyProof.Rows L2

inductive Opd where
  | num (i : Int) | nm (x : Str)
structure Adr where
  objs : List Str
  pick : Opd
  ix : Opd
inductive Op where
  | load (x : Str) (a : Adr) | store (a : Adr) (o : Opd) | touch (a : Adr) | set (x w : Str) (o1 o2 : Opd) | tell (o : Opd) | need (o : Opd) | call (r : Str)
  | go (b : Nat) | iff (o : Opd) (b1 b2 : Nat) | back
abbrev Blk := List Op × Op
structure Code where
  objs : List (Str × Nat)
  rts : List (Str × List Blk)
structure Plc where
  r : Str
  b : Nat
  k : Nat
  deriving DecidableEq
abbrev Cell := Str × Nat
inductive Chc where
  | non | cell (c : Cell) | blk (b : Nat)
  deriving DecidableEq
abbrev Stp := Plc × Chc

/-! ### as data -/
def Opd.d : Opd → PyData
  | .num i => .int i
  | .nm x => .str x
def Adr.d (a : Adr) : PyData := .tuple [.tuple (a.objs.map .str), a.pick.d, a.ix.d]
def Op.word : Op → Str
  | .load _ _ => "load" | .store _ _ => "store" | .touch _ => "touch" | .set _ _ _ _ => "set" | .tell _ => "tell" | .need _ => "need" | .call _ => "call" | .go _ => "go" | .iff _ _ _ => "if" | .back => "back"
def Op.more : Op → List PyData
  | .load x a => [.str x, a.d]
  | .store a o => [a.d, o.d]
  | .touch a => [a.d]
  | .set x w o1 o2 => [.str x, .str w, o1.d, o2.d]
  | .tell o => [o.d]
  | .need o => [o.d]
  | .call r => [.str r]
  | .go b => [.int b]
  | .iff o b1 b2 => [o.d, .int b1, .int b2]
  | .back => []
def Op.d (o : Op) : PyData := .tuple (.str o.word :: o.more)
def Blk.d (b : Blk) : PyData := .tuple [.tuple (b.1.map Op.d), b.2.d]
def rtD (r : Str × List Blk) : PyData := .tuple [.str r.1, .tuple (r.2.map Blk.d)]
def obD (p : Str × Nat) : PyData := .tuple [.str p.1, .int p.2]
def Code.d (c : Code) : PyData := .tuple [.tuple (c.objs.map obD), .tuple (c.rts.map rtD)]
def Plc.d (p : Plc) : PyData := .tuple [.str p.r, .int p.b, .int p.k]
def Cell.d (c : Cell) : PyData := .tuple [.str c.1, .int c.2]
def Chc.d : Chc → PyData
  | .non => .none
  | .cell c => Cell.d c
  | .blk b => .int b
def Stp.d (s : Stp) : PyData := .tuple [s.1.d, s.2.d]
def optD : Option Plc → PyData
  | none => .none
  | some p => p.d
def plcsD (l : List Plc) : PyData := .tuple (l.map Plc.d)
def wayD (l : List Stp) : PyData := .tuple (l.map Stp.d)

/-! ### what the code means -/
def Code.blks (c : Code) (r : Str) : Option (List Blk) := (c.rts.find? fun p => decide (p.1 = r)).map (·.2)
def Code.size (c : Code) (w : Str) : Option Nat := (c.objs.find? fun p => decide (p.1 = w)).map (·.2)
def Code.blk (c : Code) (p : Plc) : Option Blk := (c.blks p.r).bind fun bs => bs[p.b]?
def Code.row (c : Code) (p : Plc) : Option Op := (c.blk p).bind fun b => if p.k < b.1.length then b.1[p.k]? else some b.2
/-- it is a place of the code -/
def Code.has (c : Code) (p : Plc) : Prop := ∃ b, c.blk p = some b ∧ p.k ≤ b.1.length
def Plc.next (p : Plc) : Plc := ⟨p.r, p.b, p.k + 1⟩
def main : Plc := ⟨"main", 0, 0⟩
/-- the cells that an address may be -/
def Code.face (c : Code) (a : Adr) : List Cell :=
  (match a.pick with
    | .num i => (a.objs[i.toNat]?).toList
    | .nm _ => a.objs).flatMap fun w => ((List.range ((c.size w).getD 0)).filter fun (at_ : Nat) => match a.ix with
      | .num i => decide ((at_ : Int) = i)
      | .nm _ => true).map fun at_ => (w, at_)
def Code.chs (c : Code) : Op → List Chc
  | .load _ a => (c.face a).map .cell
  | .store a _ => (c.face a).map .cell
  | .touch a => (c.face a).map .cell
  | .iff _ b1 b2 => if b1 = b2 then [.blk b1] else [.blk b1, .blk b2]
  | _ => [.non]
def led (p : Plc) (ch : Chc) (calls : List Plc) : Op → Option Plc × List Plc
  | .call r => (some ⟨r, 0, 0⟩, calls ++ [p.next])
  | .back => match calls.getLast? with
    | none => (none, [])
    | some q => (some q, calls.dropLast)
  | .go b => (some ⟨p.r, b, 0⟩, calls)
  | .iff _ _ _ => (match ch with
    | .blk b => some ⟨p.r, b, 0⟩
    | _ => none, calls)
  | _ => (some p.next, calls)

/-! ### code that the law makes -/
def words5 : List Str := ["a", "ab", "b", "zz", "abcdefgh"]
def names4 : List Str := ["i", "j", "x", "xx"]
def OkOpd : Opd → Prop
  | .num _ => True
  | .nm x => x ∈ names4
structure OkAdr (c : Code) (a : Adr) : Prop where
  ne : a.objs ≠ []
  len : a.objs.length ≤ 3
  there : ∀ w ∈ a.objs, ∃ n, c.size w = some n
  pick : match a.pick with
    | .num i => 0 ≤ i ∧ i < a.objs.length
    | .nm x => x ∈ names4
  ix : match a.ix with
    | .num i => 0 ≤ i ∧ ∀ w ∈ a.objs, ∀ n, c.size w = some n → i < n
    | .nm x => x ∈ names4
def OkRow (c : Code) : Op → Prop
  | .load x a => x ∈ names4 ∧ OkAdr c a
  | .store a o => OkAdr c a ∧ OkOpd o
  | .touch a => OkAdr c a
  | .set x w o1 o2 => x ∈ names4 ∧ w ∈ (["+", "-", "<", "*"] : List Str) ∧ OkOpd o1 ∧ OkOpd o2 ∧ (w = "*" → ∃ i : Int, o2 = .num i ∧ -4 < i ∧ i < 4)
  | .tell o => OkOpd o
  | .need o => OkOpd o
  | .call r => ∃ bs, c.blks r = some bs
  | .go _ => False
  | .iff _ _ _ => False
  | .back => False
def OkEnd (n : Nat) : Op → Prop
  | .go b => b < n
  | .iff o b1 b2 => OkOpd o ∧ b1 < n ∧ b2 < n
  | .back => True
  | _ => False
structure OkBlk (c : Code) (n : Nat) (b : Blk) : Prop where
  len : b.1.length ≤ 3
  rows : ∀ o ∈ b.1, OkRow c o
  fin : OkEnd n b.2
structure OkCode (c : Code) : Prop where
  ne : c.objs ≠ []
  len : c.objs.length ≤ 3
  nd : (c.objs.map (·.1)).Nodup
  ws : ∀ p ∈ c.objs, p.1 ∈ words5 ∧ 1 ≤ p.2 ∧ p.2 ≤ 3
  rn : c.rts.map (·.1) = (["main"] : List Str) ∨ c.rts.map (·.1) = (["f", "main"] : List Str) ∨ c.rts.map (·.1) = (["f", "ff", "main"] : List Str)
  bs : ∀ r ∈ c.rts, 1 ≤ r.2.length ∧ r.2.length ≤ 3 ∧ ∀ b ∈ r.2, OkBlk c r.2.length b
end K7
/-! ## K7P0 -/
set_option Elab.async false
set_option linter.all false
set_option maxRecDepth 100000
set_option maxHeartbeats 4000000
namespace K7
open PySem PySem.Spec PyProof.Rows L2
/-- the program's top, by places -/
def top (i : Nat) : Stmt := PySem.Challenge.pw_storeways_k27_whole_trail_is_a_way.main.body.getD i (.Pass ⟨0, 0, 0, 0⟩)
/-- from typed data to data -/
def spF (K : PySem.W.Frag) (T : List (Addr × Str)) {A : Type} (enc : A → List PyData) (pre : A → Prop) (R : A → PyData → Prop) : Sp' := fun vs H Q => ∃ a, pre a ∧ DTs K H vs (enc a) ∧ ∀ v H' d, Ex T H H' → R a d → DT K H' v d → Q v H'
section
variable {T : List (Addr × Str)} {X : Cx} {σ : L2.St} {H : Hp} {e : Expr} {es : List Expr}
theorem er_callF {A : Type} {enc : A → List PyData} {pre : A → Prop} {R : A → PyData → Prop} {j n : Nat} {x : Str} {p pos : Pos} (G : GDef X.prog X.w X.K X.mg X.base j x (spF X.K T enc pre R)) (c : Cok n X) (hk : j ≤ n) (hg : Gl X x) (a : A) (ha : EvA T X (e :: es) σ H (enc a)) (hp : pre a)
    (hdb : (x == ("__debug__" : Str)) = false := by decide) (he : starEach (e :: es) X.env = (false, eval e X.env) :: starEach es X.env := by rfl) (hpl : (backTo pos (starEach es X.env)).any (·.1) = false := by rfl) :
    EvR T X (.Call (.Name x p) (e :: es) [] pos) σ H (R a) := fun H1 c1 Q q =>
  wE_call G c hk hg (ha H1 c1 _ fun vs H2 c2 hv => ⟨a, hp, hv, fun v H3 d c3 hr hd => q v H3 d (c2.trans c3) hr hd⟩) hdb he hpl
/-- where one answer alone is told -/
theorem ed_callF {A : Type} {enc : A → List PyData} {pre : A → Prop} {f : A → PyData} {j n : Nat} {x : Str} {p pos : Pos} (G : GDef X.prog X.w X.K X.mg X.base j x (spF X.K T enc pre fun a d => d = f a)) (c : Cok n X) (hk : j ≤ n) (hg : Gl X x) (a : A) (ha : EvA T X (e :: es) σ H (enc a)) (hp : pre a)
    (hdb : (x == ("__debug__" : Str)) = false := by decide) (he : starEach (e :: es) X.env = (false, eval e X.env) :: starEach es X.env := by rfl) (hpl : (backTo pos (starEach es X.env)).any (·.1) = false := by rfl) :
    EvD T X (.Call (.Name x p) (e :: es) [] pos) σ H (f a) := (er_callF G c hk hg a ha hp hdb he hpl).dat fun _ h => h
end
section
variable {P : Program} {w : World} {K : PySem.W.Frag} {mg : Str → Option Value} {base : Heap} {T : List (Addr × Str)}
/-- a def of the text where it stands behind the top -/
structure At (K : PySem.W.Frag) (mg : Str → Option Value) (x : Str) (i : Nat) : Prop where
  ex : ∃ (f : Addr) (oc : Value) (od : Option Addr) (kV doc pm : Value) (an : Option Addr) (cdv ct : Value) (osl : Array (Option Value)),
    K.lookup f = some ⟨oc, od, .func (PySem.W.fnOf x x (defArgs (top i)) (defBody (top i)) (defScope (top i)) .none kV doc pm an cdv ct), osl⟩ ∧ PySem.W.codeIn K cdv x = true ∧ mg x = some (.ref f) ∧ PySem.W.keepIn K (.ref f) = true
/-- THE RULE for a def -/
theorem At.ok {x : Str} {i k : Nat} {N ps : List Str} {sp : Sp'} (F : At K mg x i) (S : FnScope N ps (defScope (top i)))
    (hb : ∀ (kV doc pm : Value) (an : Option Addr) (cdv ct : Value) (us : List Value), us.length = ps.length → bindArgs (PySem.W.fnOf x x (defArgs (top i)) (defBody (top i)) (defScope (top i)) .none kV doc pm an cdv ct) ⟨us, []⟩ = pure (ps.zip us))
    (len : ∀ vs H Q, sp vs H Q → vs.length = ps.length)
    (body : ∀ (f : Addr) (cdv : Value) (A : Around) (outer : List Env) (s : Shared) (H : Hp) (vs : List V) (Q : VK), Cok k (bcx P w K mg base N x (top i) f cdv A outer s H) → sp vs H Q →
      wS (bcx P w K mg base N x (top i) f cdv A outer s H) (defBody (top i)) { nx := fun _ H' => Q .non H', rt := Q } (L2.start N vs) H) : GDef P w K mg base (k + 1) x sp := by
  obtain ⟨f, oc, od, kV, doc, pm, an, cdv, ct, osl, h1, h2, h3, h4⟩ := F.ex
  exact GDef.of h1 h2 h3 h4 S (hb kV doc pm an cdv ct) len (body f cdv)
theorem At.okF {x : Str} {i k : Nat} {N ps : List Str} {A : Type} {enc : A → List PyData} {pre : A → Prop} {R : A → PyData → Prop} (F : At K mg x i) (S : FnScope N ps (defScope (top i)))
    (hb : ∀ (kV doc pm : Value) (an : Option Addr) (cdv ct : Value) (us : List Value), us.length = ps.length → bindArgs (PySem.W.fnOf x x (defArgs (top i)) (defBody (top i)) (defScope (top i)) .none kV doc pm an cdv ct) ⟨us, []⟩ = pure (ps.zip us))
    (len : ∀ a, (enc a).length = ps.length)
    (body : ∀ (f : Addr) (cdv : Value) (Ar : Around) (outer : List Env) (s : Shared) (H : Hp) (vs : List V) (Q : VK) (a : A), Cok k (bcx P w K mg base N x (top i) f cdv Ar outer s H) → pre a → DTs K H vs (enc a) → (∀ v H' d, Ex T H H' → R a d → DT K H' v d → Q v H') →
      wS (bcx P w K mg base N x (top i) f cdv Ar outer s H) (defBody (top i)) { nx := fun _ H' => Q .non H', rt := Q } (L2.start N vs) H) : GDef P w K mg base (k + 1) x (spF K T enc pre R) :=
  F.ok S hb (fun vs H Q ⟨a, _, hv, _⟩ => by rw [hv.len]; exact len a) fun f cdv A outer s H vs Q c ⟨a, hp, hv, q⟩ => body f cdv A outer s H vs Q a c hp hv q
end

/-! ### names of the built-in world that the module does not hide -/
structure Blt (mg : Str → Option Value) : Prop where
  isinstance : mg "isinstance" = none
  int : mg "int" = none
  bool : mg "bool" = none
  str : mg "str" = none
  tuple : mg "tuple" = none
  len : mg "len" = none
  all : mg "all" = none
  dict : mg "dict" = none
  range : mg "range" = none
  sorted : mg "sorted" = none
  set : mg "set" = none
  list : mg "list" = none
  min : mg "min" = none
  repr : mg "repr" = none
  enumerate : mg "enumerate" = none

/-! ### isinstance -/
def pyTy : PyData → String
  | .none => "NoneType"
  | .bool _ => "bool"
  | .int _ => "int"
  | .str _ => "str"
  | .tuple _ => "tuple"
  | .list _ => "list"
  | .dict _ => "dict"
theorem DT.ty {K : PySem.W.Frag} {H : Hp} {v : V} {d : PyData} (h : DT K H v d) : TyX K H v (.type (pyTy d)) := by
  cases h with
  | non => exact .base .non
  | bl b => exact .base (.bl b)
  | int b => exact .base (.int b)
  | str b => exact .base (.str b)
  | tup h1 h2 =>
    rcases h1 with ⟨o, h1, _⟩ | ⟨o, its, n, h1, h3, _⟩
    · exact .fTuple h1
    · exact .kTuple h1 h3
section
variable {T : List (Addr × Str)} {X : Cx} {σ : L2.St} {H : Hp} {a : Expr} {d : PyData}
theorem ed_isi {ts ty : String} {k : Bool} {p p2 pos : Pos} (hm : X.mg "isinstance" = none) (hmt : X.mg (Str.ofString ts) = none) (ha : EvD T X a σ H d) (hty : pyTy d = ty) (hk : kitB ty ts = some k) (hg : Gl X "isinstance" := by rfl) (hgt : Gl X (Str.ofString ts) := by rfl) (hv : bootBuiltins (Str.ofString ts) = some (.type ts) := by decide +kernel)
    (hn : (Str.ofString ts) ≠ "__name__" := by decide) (hdb : (Str.ofString ts == ("__debug__" : Str)) = false := by decide) (h1 : starEach [a, .Name (Str.ofString ts) p2] X.env = (false, eval a X.env) :: starEach [.Name (Str.ofString ts) p2] X.env := by rfl) (h2 : starEach [.Name (Str.ofString ts) p2] X.env = (false, eval (.Name (Str.ofString ts) p2) X.env) :: starEach [] X.env := by rfl)
    (h3 : (backTo pos (starEach [.Name (Str.ofString ts) p2] X.env)).any (·.1) = false := by rfl) : EvD T X (.Call (.Name "isinstance" p) [a, .Name (Str.ofString ts) p2] [] pos) σ H (.bool k) := fun H1 c Q q =>
  wE.of (pe_callB call_isi hg hm (by decide +kernel) (pa_cons peW (pa_cons (pe_bltn hgt hmt hv (v := .ty ts) rfl hn hdb) pa_nil h2) h1) (by decide) (by decide) h1 h3)
    (ha H1 c _ fun v H2 c2 hd => ⟨v, .ty ts, _, _, k, rfl, .ty ts, hd.ty, by rw [hty]; exact kit_ty hk, q _ H2 c2 (.bl k)⟩)
end
section
variable {P : Program} {w : World} {K : PySem.W.Frag} {mg : Str → Option Value} {base : Heap} {T : List (Addr × Str)}
theorem sc_is_number : FnScope ["thing"] ["thing"] (defScope (top 3)) := ⟨rfl, rfl, rfl, by decide +kernel, rfl, by decide +kernel, by decide +kernel⟩
/-- int or str -/
def isNum : PyData → Bool
  | .int _ => true
  | _ => false
theorem g_is_number (F : At K mg "is_number" 3) (B : Blt mg) : GDef P w K mg base 1 "is_number" (spF K T (fun d : PyData => [d]) (fun d => (∃ i, d = .int i) ∨ ∃ x, d = .str x) fun a d => d = .bool (isNum a)) := by
  refine F.okF sc_is_number (fun _ _ _ _ _ _ us hl => match us, hl with | [_], _ => rfl) (fun _ => rfl) fun f cdv Ar outer s H vs Q a c hp hv q => ?_
  obtain ⟨v, rfl, h1⟩ := hv.inv1
  refine ws_ret (T := T) (d := .bool (isNum a)) ?_ fun v H1 c1 hd => q v H1 _ c1 rfl hd
  rcases hp with ⟨i, rfl⟩ | ⟨x, rfl⟩
  · exact ed_and (k := true) (k2 := true) (ed_isi (ty := "int") B.isinstance B.int (ed_name 0 h1) rfl (by decide +kernel)) fun _ => ed_not (k := false) (ed_isi (ty := "int") B.isinstance B.bool (ed_name 0 h1) rfl (by decide +kernel))
  · exact ed_and (k := false) (k2 := true) (ed_isi (ty := "str") B.isinstance B.int (ed_name 0 h1) rfl (by decide +kernel)) fun z => by cases z
end
end K7
/-! ## K7R -/
set_option Elab.async false
set_option linter.all false
set_option maxRecDepth 100000
set_option maxHeartbeats 4000000
/-! Rules: loops and comprehensions by turns, new lists, tuples, all. -/
namespace K7
open PySem PySem.Spec PyProof.Rows L2

/-! ### loops by turns: n turns, whatever is walked -/
theorem for_turns {J : It} {n : Nat} {g : TG} {tb : TS} {D : Ends} {σ : L2.St} {H : Hp} (Pv : Nat → L2.St → Hp → Prop) (h0 : Pv 0 σ H) (hgo : ∀ i σ H, i < n → Pv i σ H → J.go i H) (hst : ∀ σ H, Pv n σ H → J.stop n H)
    (hs : ∀ i σ H x H', i < n → Pv i σ H → J.yld i H x H' → g x σ H' fun σ2 H2 => tb { D with nx := Pv (i + 1), ct := Pv (i + 1), bk := D.nx } σ2 H2) (hd : ∀ σ H, Pv n σ H → D.nx σ H) :
    ∃ W : Nat → Nat → L2.St → Hp → Prop, (∃ m, W 0 m σ H) ∧ ∀ i m σ H, W i m σ H →
      (J.stop i H ∧ D.nx σ H) ∨ (J.go i H ∧ ∃ N : L2.St → Hp → Prop, (∀ σ' H', N σ' H' → ∃ m', m' < m ∧ W (i + 1) m' σ' H') ∧ ∀ x H', J.yld i H x H' → g x σ H' fun σ2 H2 => tb { D with nx := N, ct := N, bk := D.nx } σ2 H2) := by
  refine ⟨fun i m σ H => m = n - i ∧ i ≤ n ∧ Pv i σ H, ⟨n, rfl, Nat.zero_le _, h0⟩, ?_⟩
  intro i m σ H hW
  obtain ⟨hm, hi, p⟩ := hW
  by_cases hlt : i < n
  · exact .inr ⟨hgo i σ H hlt p, Pv (i + 1), fun σ' H' p' => ⟨n - (i + 1), by omega, rfl, hlt, p'⟩, fun x H' y => hs i σ H x H' hlt p y⟩
  · have e : i = n := by omega
    rw [e] at p ⊢
    exact .inl ⟨hst σ H p, hd σ H p⟩
theorem lc_turns {J : It} {n : Nat} {g : TG} {tt : TT} {te : TE} {vs : List Nat} {σ : L2.St} {H1 : Hp} {D : Addr} {Qd : Hp → Prop} (Pv : Nat → Hp → Prop) (h0 : Pv 0 (upd H1 D (.lst []))) (hgo : ∀ i H, i < n → Pv i H → J.go i H) (hst : ∀ H, Pv n H → J.stop n H)
    (hs : ∀ i H x H', i < n → Pv i H → J.yld i H x H' → g x (wipe σ vs) H' fun σ2 H2 => wipe σ2 vs = wipe σ vs ∧ tt σ2 H2 fun b H3 =>
      if b = true then te σ2 H3 fun y H4 => ∃ acc, H4 D = some (.lst acc) ∧ acc.length < sizeLine ∧ Pv (i + 1) (upd H4 D (.lst (acc ++ [y]))) else Pv (i + 1) H3) (hd : ∀ H, Pv n H → Qd H) :
    ∃ W : Nat → Nat → Hp → Prop, (∃ m, W 0 m (upd H1 D (.lst []))) ∧ ∀ i m H, W i m H →
      (J.stop i H ∧ Qd H) ∨ (J.go i H ∧ ∃ Nx : Hp → Prop, (∀ H', Nx H' → ∃ m', m' < m ∧ W (i + 1) m' H') ∧ ∀ x H', J.yld i H x H' → g x (wipe σ vs) H' fun σ2 H2 => wipe σ2 vs = wipe σ vs ∧ tt σ2 H2 fun b H3 =>
        if b = true then te σ2 H3 fun y H4 => ∃ acc, H4 D = some (.lst acc) ∧ acc.length < sizeLine ∧ Nx (upd H4 D (.lst (acc ++ [y]))) else Nx H3) := by
  refine ⟨fun i m H => m = n - i ∧ i ≤ n ∧ Pv i H, ⟨n, rfl, Nat.zero_le _, h0⟩, ?_⟩
  intro i m H hW
  obtain ⟨hm, hi, p⟩ := hW
  by_cases hlt : i < n
  · exact .inr ⟨hgo i H hlt p, Pv (i + 1), fun H' p' => ⟨n - (i + 1), by omega, rfl, hlt, p'⟩, fun x H' y => hs i H x H' hlt p y⟩
  · have e : i = n := by omega
    rw [e] at p ⊢
    exact .inl ⟨hst H p, hd H p⟩

/-! ### new lists -/
section
variable {T : List (Addr × Str)} {X : Cx} {σ : L2.St} {H H' : Hp} {e a b : Expr} {es : List Expr} {v : V} {d : PyData} {ds : List PyData}
/-- a new list of data -/
def EvL (T : List (Addr × Str)) (X : Cx) (e : Expr) (σ : L2.St) (H : Hp) (R : List PyData → Prop) : Prop :=
  ∀ H1, Ex T H H1 → ∀ Q : VK, (∀ p H2 vs ds, H1 p = none → Ex T H1 H2 → H2 p = some (.lst vs) → R ds → DTs X.K H2 vs ds → vs.length ≤ 100000 → Q (.ref p) H2) → wE X e σ H1 Q
theorem EvL.mono {R : List PyData → Prop} (h : EvL T X e σ H R) (c : Ex T H H') : EvL T X e σ H' R := fun H1 a Q q => h H1 (c.trans a) Q q
theorem EvL.imp {R R' : List PyData → Prop} (h : EvL T X e σ H R) (k : ∀ ds, R ds → R' ds) : EvL T X e σ H R' := fun H1 c Q q => h H1 c Q fun p H2 vs ds n c2 h2 r hv hz => q p H2 vs ds n c2 h2 (k ds r) hv hz
theorem small5 {n : Nat} (h : n ≤ 100000) : n < sizeLine := Nat.lt_of_le_of_lt h (by decide)
/-- [x, y, ..] -/
theorem el_lst {pos : Pos} (h : EvA T X es σ H ds) (hz : ds.length ≤ 1000 := by simp) : EvL T X (.List es pos) σ H (fun l => l = ds) := fun H1 c Q q =>
  wE.of (pe_lst paW) (h H1 c _ fun vs H2 c2 hv => ⟨by rw [hv.len]; exact Nat.le_of_lt (small1000 hz), fun p hp => q p _ vs ds (c2.back p hp) (c2.trans (.new hp)) upd_same rfl (Chg.dts (T := T) (S := []) (.new hp) hv) (by rw [hv.len]; omega)⟩)
/-- tuple(a new list) -/
theorem er_tuple {R : List PyData → Prop} {p pos : Pos} (hm : X.mg "tuple" = none) (h : EvL T X a σ H R) (hg : Gl X "tuple" := by rfl) (h1 : starEach [a] X.env = (false, eval a X.env) :: starEach [] X.env := by rfl) : EvR T X (.Call (.Name "tuple" p) [a] [] pos) σ H (fun d => ∃ ds, R ds ∧ d = .tuple ds) := fun H1 c Q q =>
  wE.of (pe_callTy call_tupleP hg hm (by decide +kernel) (pa_cons peW pa_nil h1) (by decide) (by decide) h1 (by rfl)) (h H1 c _ fun l H2 vs ds hl c2 h2 hr hv hz => ⟨l, vs, rfl, SqL.of h2, fun t o ht ho => q _ _ _ (c2.trans (.new ht)) ⟨ds, hr, rfl⟩ (.new ht ho hv)⟩)
/-- len(a new list), len(a tuple) -/
theorem ed_lenT {p pos : Pos} (hm : X.mg "len" = none) (h : EvD T X a σ H (.tuple ds)) (hg : Gl X "len" := by rfl) (h1 : starEach [a] X.env = (false, eval a X.env) :: starEach [] X.env := by rfl) : EvD T X (.Call (.Name "len" p) [a] [] pos) σ H (.int ds.length) := fun H1 c Q q =>
  wE.of (pe_callB call_len_seq hg hm PySem.boot_len (pa_cons peW pa_nil h1) (by decide) (by decide) h1 (by rfl)) (h H1 c _ fun v H2 c2 hv => by
    obtain ⟨p, xs, rfl, hs, hx⟩ := hv.inv_tup
    exact ⟨p, xs, rfl, .inr hs.t, by rw [hx.len]; exact q _ H2 c2 (.int _)⟩)
/-- a list at a name: len -/
theorem ed_lenL {l : Addr} {xs : List V} {p pos : Pos} (hm : X.mg "len" = none) (h : EvV T X a σ H (.ref l)) (hl : H l = some (.lst xs)) (hg : Gl X "len" := by rfl) (h1 : starEach [a] X.env = (false, eval a X.env) :: starEach [] X.env := by rfl) : EvD T X (.Call (.Name "len" p) [a] [] pos) σ H (.int xs.length) := fun H1 c Q q =>
  wE.of (pe_callB call_len_seq hg hm PySem.boot_len (pa_cons peW pa_nil h1) (by decide) (by decide) h1 (by rfl)) (h H1 c _ fun H2 c2 => ⟨l, xs, rfl, .inl (SqL.of ((c.trans c2).get hl)), q _ H2 c2 (.int _)⟩)
/-- len of a text -/
theorem ed_lenS {x : Str} {p pos : Pos} (hm : X.mg "len" = none) (h : EvD T X a σ H (.str x)) (hz : x.length ≤ 1000) (hg : Gl X "len" := by rfl) (h1 : starEach [a] X.env = (false, eval a X.env) :: starEach [] X.env := by rfl) : EvD T X (.Call (.Name "len" p) [a] [] pos) σ H (.int x.length) := fun H1 c Q q =>
  wE.of (pe_callB call_len_str hg hm PySem.boot_len (pa_cons peW pa_nil h1) (by decide) (by decide) h1 (by rfl)) (h H1 c _ fun v H2 c2 hv => ⟨x, by rw [hv.inv_str], Nat.le_of_lt (small1000 hz), q _ H2 c2 (.int _)⟩)
/-- all(a new list of truths) -/
theorem ed_all {bs : List Bool} {n : Nat} {p pos : Pos} (k : Cok n X) (hm : X.mg "all" = none) (h : EvL T X a σ H (fun ds => ds = bs.map .bool)) (hg : Gl X "all" := by rfl) (h1 : starEach [a] X.env = (false, eval a X.env) :: starEach [] X.env := by rfl) : EvD T X (.Call (.Name "all" p) [a] [] pos) σ H (.bool (bs.all id)) := fun H1 c Q q =>
  wE.of (pe_callB (cr_all k.calm) hg hm (by decide +kernel) (pa_cons peW pa_nil h1) (by decide) (by decide) h1 (by rfl)) (h H1 c _ fun l H2 vs ds hl c2 h2 hr hv hz => by
    subst hr
    have ev : vs = bs.map V.bl := by
      clear h2 hz hl q c2 h
      induction bs generalizing vs with
      | nil => cases hv; rfl
      | cons b r ih =>
        rw [List.map_cons] at hv
        cases hv with
        | cons h1 h2 => rw [h1.inv_bl, List.map_cons, ih _ h2]
    subst ev
    exact ⟨l, bs, rfl, SqL.of h2, q _ H2 c2 (.bl _)⟩)

/-! ### comprehensions over data -/
/-- an element of a comprehension, in whatever block -/
def bE (X : Cx) (scope : Scope) (elt : Expr) : TE := fun σ H Q => ∀ (s : Shared) (Hs : Hp) (C : Addr) (cl : List (Str × Addr)) (fp : List Addr), wE (X.blk s Hs scope (compEnvC scope cl C X.env) fp) elt σ H Q
theorem peB {scope : Scope} {elt : Expr} (s : Shared) (Hs : Hp) (C : Addr) (cl : List (Str × Addr)) (fp : List Addr) : PE (X.blk s Hs scope (compEnvC scope cl C X.env) fp) elt (bE X scope elt) := ⟨fun pins s' σ' H' Q' I h => h s Hs C cl fp pins s' I⟩
theorem blkC_ok {n : Nat} {s : Shared} {Hs : Hp} {scope : Scope} {C : Addr} {cl : List (Str × Addr)} {fp : List Addr} (c : Cok n X) : Cok n (X.blk s Hs scope (compEnvC scope cl C X.env) fp) := ⟨c.room, c.gd, c.calm, c.nd⟩
/-- over a tuple of data, each element data: the block's names are own, the target's slot j -/
theorem el_lcT {elt iter : Expr} {scope : Scope} {own : List (Str × Nat)} {pos pt : Pos} {x : Str} {n : Nat} {R : PyData → Prop} (j : Nat) (Rr : List PyData → List PyData → Prop) (c : Cok n X) (ok : BlkOk X.N X.env.scope scope own) (hi : EvR T X iter σ H (fun d => ∃ ss, d = .tuple ss ∧ ss.length ≤ 1000 ∧ R d))
    (hr0 : ∀ ss, Rr ss [])
    (hx : X.N[j]? = some x) (hown : j ∈ own.map (·.2)) (hlx : (relS scope X.env.scope).names.lookup x = some .local)
    (he : ∀ (s : Shared) (Hs : Hp) (C : Addr) (cl : List (Str × Addr)) (fp : List Addr) (ss : List PyData) (i : Nat) (src : PyData) (done : List PyData) (v : V) (H1 : Hp), R (.tuple ss) → ss[i]? = some src → done.length = i → Rr ss done → Ex T H H1 → DT X.K H1 v src →
      EvR T (X.blk s Hs scope (compEnvC scope cl C X.env) fp) elt ((wipe σ (own.map (·.2))).set j (some v)) H1 (fun d => Rr ss (done ++ [d])))
    (hw : ∀ v, wipe ((wipe σ (own.map (·.2))).set j v) (own.map (·.2)) = wipe σ (own.map (·.2)))
    (hs : ∀ x, foldedSetIterable iter X.env x = pure x := by intro _; rfl) :
    EvL T X (.ListComp elt [⟨.Name x pt, iter, [], 0⟩] scope pos) σ H (fun ds => ∃ ss, R (.tuple ss) ∧ ds.length = ss.length ∧ Rr ss ds) := by
  intro H0 c0 Q q
  refine wE.of (pe_lc (tt := tYes) (g := gName j) (te := bE X scope elt) c.calm c.nd (pi_tup peW) ok (fun s Hs C cl fp => pg_name c.nd hx (.inl hlx) (.inr hlx)) (fun _ _ _ _ _ => pts_nil) peB hs) ?_
  refine hi H0 c0 _ fun v H1 d c1 ⟨ss, e, hz, hR⟩ hd => ?_
  subst e
  obtain ⟨a, xs, rfl, hq, hx⟩ := hd.inv_tup
  refine ⟨a, rfl, ⟨xs, hq.t⟩, fun D hD => ?_⟩
  have hlen := hx.len
  refine lc_tup (K := X.K) (a := a) (xs := xs) (g := gName j) (tt := tYes) (te := bE X scope elt) (vs := own.map (·.2)) (σ := σ) (Qd := fun H => Q (.ref D) H) (fun i H' => ∃ vs ds, Ex T H1 H' ∧ H' D = some (.lst vs) ∧ DTs X.K H' vs ds ∧ ds.length = i ∧ Rr ss ds) ⟨[], [], .new hD, upd_same, .nil, rfl, hr0 ss⟩ (fun i H' _ ⟨_, _, c2, _⟩ => c2.sq hq.t) (fun i y H' hy ⟨vs, ds, c2, hl, hv, hn, hrr⟩ => ?_) fun H' ⟨vs, ds, c2, hl, hv, hn, hrr⟩ => ?_
  · obtain ⟨src, hsrc, hdt⟩ := hx.atV hy
    refine ⟨hw _, ?_⟩
    show bE X scope elt _ H' _
    intro s Hs C cl fp
    have hi' : i < xs.length := (List.getElem?_eq_some_iff.mp hy).1
    refine he s Hs C cl fp ss i src ds y H' hR hsrc hn hrr ((c0.trans c1).trans c2) (c2.dt hdt) H' .refl _ fun z H2 dz c3 hz' hdz => ⟨vs, c3.get hl, small5 (by rw [hv.len]; omega), vs ++ [z], ds ++ [dz], ?_, upd_same, ?_, by rw [List.length_append, hn]; rfl, hz'⟩
    · exact Chg.fresh (S := [D]) (c2.trans c3) (.set (c3.get hl) wr_lst (by simp)) (fun x hx => by rw [List.mem_singleton.mp hx]; exact hD)
    · exact Chg.dts (T := T) (S := [D]) (.set (c3.get hl) wr_lst (by simp)) ((c3.dts hv).app (.one hdz))
  · exact q D H' vs ds (c1.back D hD) (c1.trans c2) hl ⟨ss, hR, by rw [hn, hlen], hrr⟩ hv (by rw [hv.len]; omega)
end
end K7
/-! ## K7D -/
set_option Elab.async false
set_option linter.all false
set_option maxRecDepth 100000
set_option maxHeartbeats 4000000
/-! Dicts whose keys are tuples, tracked or of the module's own: TD. -/
namespace K7
open PySem PySem.Spec PyProof.Rows L2

abbrev XK := List Key × Addr × V
abbrev YK := List Key × Addr × Value
abbrev XR : List XK → List YK → Prop := Paired fun x y => x.1 = y.1 ∧ x.2.1 = y.2.1 ∧ RelV x.2.2 y.2.2
def view (xs : List XK) : List (List Key × V) := xs.map fun x => (x.1, x.2.2)
def putX (xs : List XK) (k : List Key) (b : Addr) (v : V) : List XK := if (valV (view xs) k).isSome then xs.map (fun x => if x.1 = k then (x.1, x.2.1, v) else x) else xs ++ [(k, b, v)]
def dropX (xs : List XK) (k : List Key) : List XK := xs.filter fun x => decide (x.1 ≠ k)
theorem XR.val {xs : List XK} {ys : List YK} (r : XR xs ys) (k : List Key) : RelO (valV (view xs) k) ((atKey ys k).map (·.2)) := by
  induction r with
  | nil => exact True.intro
  | @cons p q ps qs h t ih =>
    obtain ⟨h1, _, h2⟩ := h
    show RelO (valV ((p.1, p.2.2) :: view ps) k) _
    by_cases e : p.1 = k
    · have e' : q.1 = k := h1.symm.trans e
      have b : atKey (q :: qs) k = some q.2 := by simp [atKey, List.find?_cons, e']
      rw [valV_pos (p := (p.1, p.2.2)) e, b]
      exact h2
    · have e' : ¬ q.1 = k := fun z => e (h1.trans z)
      have b : atKey (q :: qs) k = atKey qs k := by simp [atKey, List.find?_cons, e']
      rw [valV_neg (p := (p.1, p.2.2)) e, b]
      exact ih
theorem XR.put {xs : List XK} {ys : List YK} (r : XR xs ys) (k : List Key) {b : Addr} {v : V} {u : Value} (rv : RelV v u) : XR (putX xs k b v) (storedH ys k b u) := by
  have e : (valV (view xs) k).isSome = (atKey ys k).isSome := by rw [(r.val k).isSome_eq, Option.isSome_map]
  unfold putX storedH
  rw [e]
  by_cases q : (atKey ys k).isSome = true
  · rw [if_pos q, if_pos q]
    clear e q
    induction r with
    | nil => exact .nil
    | @cons p q ps qs h t ih =>
      rw [List.map_cons, List.map_cons]
      refine .cons ?_ ih
      unfold putAt
      by_cases ek : p.1 = k
      · rw [if_pos ek, if_pos (h.1.symm.trans ek)]; exact ⟨h.1, h.2.1, rv⟩
      · rw [if_neg ek, if_neg (fun z => ek (h.1.trans z))]; exact h
  · rw [if_neg q, if_neg q]
    exact Paired.snoc r ⟨rfl, rfl, rv⟩
theorem XR.drop {xs : List XK} {ys : List YK} (k : List Key) (r : XR xs ys) : XR (dropX xs k) (withoutH ys k) := by
  induction r with
  | nil => exact .nil
  | @cons p q ps qs h t ih =>
    by_cases e : p.1 = k
    · have e2 : q.1 = k := h.1.symm.trans e
      have z1 : dropX (p :: ps) k = dropX ps k := List.filter_cons_of_neg (by simp [e])
      have z2 : withoutH (q :: qs) k = withoutH qs k := List.filter_cons_of_neg (by simp [e2])
      rw [z1, z2]; exact ih
    · have e2 : ¬ q.1 = k := fun z => e (h.1.trans z)
      have z1 : dropX (p :: ps) k = p :: dropX ps k := List.filter_cons_of_pos (by simp [e])
      have z2 : withoutH (q :: qs) k = q :: withoutH qs k := List.filter_cons_of_pos (by simp [e2])
      rw [z1, z2]; exact .cons h ih
theorem any_view (xs : List XK) (k : List Key) : ((view xs).any fun kv => decide (kv.1 = k)) = (valV (view xs) k).isSome := valV_any k _
theorem view_put (xs : List XK) (k : List Key) (b : Addr) (v : V) : view (putX xs k b v) = putK (view xs) k v := by
  unfold putX putK
  rw [any_view]
  by_cases q : (valV (view xs) k).isSome = true
  · rw [if_pos q, if_pos q]
    unfold view
    rw [List.map_map, List.map_map]
    refine List.map_congr_left fun x _ => ?_
    by_cases h : x.1 = k <;> simp [h]
  · rw [if_neg q, if_neg q]
    unfold view
    rw [List.map_append]
    rfl
theorem view_drop (xs : List XK) (k : List Key) : view (dropX xs k) = dropK (view xs) k := by
  induction xs with
  | nil => rfl
  | cons p ps ih =>
    by_cases e : p.1 = k
    · have z1 : dropX (p :: ps) k = dropX ps k := List.filter_cons_of_neg (by simp [e])
      have z2 : dropK (view (p :: ps)) k = dropK (view ps) k := List.filter_cons_of_neg (by simp [e])
      rw [z1, z2]; exact ih
    · have z1 : dropX (p :: ps) k = p :: dropX ps k := List.filter_cons_of_pos (by simp [e])
      have z2 : dropK (view (p :: ps)) k = (p.1, p.2.2) :: dropK (view ps) k := List.filter_cons_of_pos (by simp [e])
      rw [z1, z2, ← ih]; rfl
theorem mem_putX {xs : List XK} {k : List Key} {b : Addr} {v : V} {x : XK} (h : x ∈ putX xs k b v) : (∃ y ∈ xs, x.1 = y.1 ∧ x.2.1 = y.2.1) ∨ (x.1 = k ∧ x.2.1 = b) := by
  unfold putX at h
  split at h
  · obtain ⟨y, hy, e⟩ := List.mem_map.mp h
    refine .inl ⟨y, hy, ?_⟩
    by_cases q : y.1 = k
    · rw [if_pos q] at e; rw [← e]; exact ⟨rfl, rfl⟩
    · rw [if_neg q] at e; rw [← e]; exact ⟨rfl, rfl⟩
  · rcases List.mem_append.mp h with h | h
    · exact .inl ⟨x, h, rfl, rfl⟩
    · rw [List.mem_singleton.mp h]; exact .inr ⟨rfl, rfl⟩

/-- the dict's own object -/
def rawD (P : Program) (w : World) (a : Addr) (xs : List XK) : HO := .ext fun h => (a == sysModules) = false ∧ ∃ ys : List YK, XR xs ys ∧ (ys.map (·.1)).Nodup ∧ ∃ o es ep, h.get? a = some o ∧ o.ExactDict ∧ o.data = .dict es ep ∧ es.toList = ys.map (entryOfKey (tupleKind (mixKind P w)))
theorem rawD_ok {P : Program} {w : World} {H : Hp} {h : Heap} {a : Addr} {xs : List XK} {ys : List YK} {o : Obj} {es : Array DictEntry} {ep : Nat} (hd : (a == sysModules) = false) (r : XR xs ys) (nd : (ys.map (·.1)).Nodup) (ho : h.get? a = some o) (hx : o.ExactDict) (hdat : o.data = .dict es ep) (he : es.toList = ys.map (entryOfKey (tupleKind (mixKind P w)))) :
    ObjOk P w H h a (rawD P w a xs) := by
  refine ⟨⟨hd, ys, r, nd, o, es, ep, ho, hx, hdat, he⟩, ⟨o, ho⟩, fun h1 h2 p k => ?_⟩
  obtain ⟨hd, ys, r, nd, o, es, ep, ho, q⟩ := p
  exact ⟨hd, ys, r, nd, o, es, ep, k o ho, q⟩
/-- a dict with tuple keys: what it holds, in the order of insertion -/
structure TD (P : Program) (w : World) (K : PySem.W.Frag) (H : Hp) (a : Addr) (kvs : List (List Key × V)) : Prop where
  ex : ∃ xs : List XK, H a = some (rawD P w a xs) ∧ view xs = kvs ∧ ∀ x ∈ xs, SqP K H x.2.1 (x.1.map kV)
  sz : kvs.length ≤ 100000
theorem view_len (xs : List XK) : (view xs).length = xs.length := List.length_map ..
section
variable {X : Cx} {pins : List (Addr × Obj)} {σ : L2.St} {H : Hp} {s : Shared} {a b : Addr} {k : List Key} {kvs : List (List Key × V)} {A : Around} {E : Value → Shared → Prop}
theorem keyT (I : Inv X pins σ H s) (h : SqT X.K H b (k.map kV)) : (tupleKind (mixKind X.prog X.w)).is s.heap k b := by
  obtain ⟨its, r, ⟨o, h1, h2, n, h3⟩, _⟩ := I.tuple h
  exact ⟨o, its.toArray, n, h1, h2, h3, by simpa using items_are r⟩
theorem tdDict {xs : List XK} (I : Inv X pins σ H s) (h : H a = some (rawD X.prog X.w a xs)) (hk : ∀ x ∈ xs, SqP X.K H x.2.1 (x.1.map kV)) : (a == sysModules) = false ∧ ∃ ys, XR xs ys ∧ s.heap.DictOfH (tupleKind (mixKind X.prog X.w)) a ys := by
  obtain ⟨⟨hd, ys, r, nd, o, es, ep, ho, hx, hdat, he⟩, hzz⟩ := I.hok a _ h
  refine ⟨hd, ys, r, o, es, ep, ho, hx, hdat, he, fun y hy => ?_, nd⟩
  clear he nd h hzz
  induction r with
  | nil => cases hy
  | @cons p q ps qs h1 t ih =>
    rcases List.mem_cons.mp hy with e | hy
    · rw [e, ← h1.1, ← h1.2.1]
      exact keyT I (hk p (List.mem_cons_self ..)).t
    · exact ih (fun x hx => hk x (List.mem_cons_of_mem _ hx)) hy
/-- it is no code object -/
theorem rawD_code {xs : List XK} (I : Inv X pins σ H s) (h : H a = some (rawD X.prog X.w a xs)) : ∀ q, H a ≠ some (LamX.CodeO a q) := fun q z => by
  obtain ⟨⟨hd, ys, r, nd, o, es, ep, ho, hx, hdat, he⟩, _⟩ := I.hok a _ h
  obtain ⟨⟨oc, vs, t, ho2, hd2, _⟩, _⟩ := I.hok a _ z
  rw [ho] at ho2
  cases ho2
  rw [hdat] at hd2
  cases hd2
theorem td_set {T : List (Addr × Str)} {S : List Addr} {xs : List XK} {o : HO} (I : Inv X pins σ H s) (h : H a = some (rawD X.prog X.w a xs)) (hS : a ∈ S) : Chg T S H (upd H a o) := by
  refine ⟨fun b v hb e _ => ?_, fun b e => ?_, ⟨fun b xs e => ?_, fun b v xs e => by rw [upd_ne (fun z => by rw [z, h] at e; unfold rawD at e; cases e)]; exact e⟩, fun t => tab_upd (fun ps z => ?_) (rawD_code I h) t⟩
  · rw [upd_ne (fun z => hb (by rw [z]; exact hS))]; exact e
  · by_cases q : b = a
    · rw [q, upd_same] at e; cases e
    · rw [upd_ne q] at e; exact e
  · have nb : b ≠ a := fun z => by
      rw [z] at e
      rcases e with e | ⟨v, e⟩
      · rw [h] at e; unfold rawD at e; cases e
      · rw [h] at e; unfold rawD at e; cases e
    rcases e with e | ⟨v, e⟩
    · exact .inl (by rw [upd_ne nb]; exact e)
    · exact .inr ⟨v, by rw [upd_ne nb]; exact e⟩
  · rw [h] at z; unfold rawD at z; cases z
theorem TD.keep {P : Program} {w : World} {K : PySem.W.Frag} {T : List (Addr × Str)} {S : List Addr} {H' : Hp} (t : TD P w K H a kvs) (c : Chg T S H H') (ha : a ∉ S) : TD P w K H' a kvs := by
  obtain ⟨⟨xs, h1, h2, h3⟩, sz⟩ := t
  exact ⟨⟨xs, c.keep a _ ha h1 (fun ps z => by unfold rawD at z; cases z), h2, fun x hx => c.sp (h3 x hx)⟩, sz⟩
/-! ### operations -/
theorem td_getItem {v : V} {Q : Value → Shared → Prop} (hu : A.units + 1 < cLine) (I : Inv X pins σ H s) (t : TD X.prog X.w X.K H a kvs) (hk : SqT X.K H b (k.map kV)) (hv : valV kvs k = some v) (h : ∀ w' s', Inv X pins σ H s' → RelV v w' → Q w' s') :
    wpAny (model X.prog X.w) A (getItem (.ref a) (.ref b)) Q E s := by
  obtain ⟨⟨xs, h1, h2, h3⟩, sz⟩ := t
  obtain ⟨hd, ys, r, dd⟩ := tdDict I h1 h3
  obtain ⟨w', hw, rw'⟩ := RelO.some_of (v := v) (o := (atKey ys k).map (·.2)) (by rw [← hv, ← h2]; exact r.val k)
  obtain ⟨p, hp, hp2⟩ := Option.map_eq_some_iff.mp hw
  refine wpAny_getItem_heap (tupleKind_room_in1 hu) (keyT I hk) dd hp ?_
  rw [hp2]
  exact h w' _ (I.tok _) rw'
theorem td_in {Q : Value → Shared → Prop} (hu : A.units + 1 < cLine) (I : Inv X pins σ H s) (t : TD X.prog X.w X.K H a kvs) (hk : SqT X.K H b (k.map kV)) (h : ∀ s', Inv X pins σ H s' → Q (.bool (valV kvs k).isSome) s') :
    wpAny (model X.prog X.w) A (compareOp .In (.ref b) (.ref a)) Q E s := by
  obtain ⟨⟨xs, h1, h2, h3⟩, sz⟩ := t
  obtain ⟨hd, ys, r, dd⟩ := tdDict I h1 h3
  refine wpAny_in_heap (tupleKind_room_in1 hu) (keyT I hk) hd dd ?_
  have q := (r.val k).isSome_eq
  rw [Option.isSome_map, h2] at q
  rw [← q]
  exact h _ (I.tok _)
theorem td_notIn {Q : Value → Shared → Prop} (hu : A.units + 1 < cLine) (I : Inv X pins σ H s) (t : TD X.prog X.w X.K H a kvs) (hk : SqT X.K H b (k.map kV)) (h : ∀ s', Inv X pins σ H s' → Q (.bool (!(valV kvs k).isSome)) s') :
    wpAny (model X.prog X.w) A (compareOp .NotIn (.ref b) (.ref a)) Q E s := by
  obtain ⟨⟨xs, h1, h2, h3⟩, sz⟩ := t
  obtain ⟨hd, ys, r, dd⟩ := tdDict I h1 h3
  refine wpAny_notIn_heap (tupleKind_room_in1 hu) (keyT I hk) hd dd ?_
  have q := (r.val k).isSome_eq
  rw [Option.isSome_map, h2] at q
  rw [← q]
  exact h _ (I.tok _)
theorem td_get {Q : Value → Shared → Prop} (hu : A.units + 1 < cLine) (I : Inv X pins σ H s) (t : TD X.prog X.w X.K H a kvs) (hk : SqT X.K H b (k.map kV)) (h : ∀ w' s', Inv X pins σ H s' → RelV ((valV kvs k).getD .non) w' → Q w' s') :
    wpAny (model X.prog X.w) A (call (.builtin "dict.get") [.ref a, .ref b]) Q E s := by
  obtain ⟨⟨xs, h1, h2, h3⟩, sz⟩ := t
  obtain ⟨hd, ys, r, dd⟩ := tdDict I h1 h3
  refine call_meetsIn PySem.F.slot_dict_get dd.typeIs PySem.F.entry_dict_get (PySem.F.args_dict_get_2 _ _) (meetsH_dict_get (tupleKind (mixKind X.prog X.w)) a b hd) ⟨tupleKind_room_in1 hu, k, ys, keyT I hk, dd, h _ _ (I.tok _) ?_⟩
  rw [← h2]
  exact (r.val k).getD rfl
theorem td_upd {T : List (Addr × Str)} {xs xs' : List XK} {ys' : List YK} {h' : Heap} {t' : Nat} (I : Inv X pins σ H s) (h1 : H a = some (rawD X.prog X.w a xs)) (r : XR xs' ys') (dd : h'.DictOfH (tupleKind (mixKind X.prog X.w)) a ys') (hs : Heap.SameBut a s.heap h')
    (hk : ∀ x ∈ xs', SqP X.K H x.2.1 (x.1.map kV)) (hz : (view xs').length ≤ 100000) :
    ∃ H', Inv X pins σ H' { s with heap := h', toks := t' } ∧ Chg T [a] H H' ∧ TD X.prog X.w X.K H' a (view xs') := by
  obtain ⟨⟨hd, _⟩, _⟩ := I.hok a _ h1
  obtain ⟨q, es, ep, hq, h2, h3, h4, _, h5⟩ := dd
  have c : Chg T [a] H (upd H a (rawD X.prog X.w a xs')) := td_set I h1 (by simp)
  exact ⟨_, d_write I (by rw [h1]; exact True.intro) hs ⟨q, hq⟩ (rawD_ok hd r h5 hq h2 h3 h4), c, ⟨xs', upd_same, rfl, fun x hx => c.sp (hk x hx)⟩, hz⟩
theorem td_setItem {T : List (Addr × Str)} {v : V} {u : Value} {Q : Unit → Shared → Prop} (hu : A.units + 1 < cLine) (I : Inv X pins σ H s) (t : TD X.prog X.w X.K H a kvs) (hk : SqP X.K H b (k.map kV)) (rv : RelV v u) (hz : kvs.length < 100000)
    (h : ∀ H' s', Inv X pins σ H' s' → Chg T [a] H H' → TD X.prog X.w X.K H' a (putK kvs k v) → Q () s') : wpAny (model X.prog X.w) A (setItem (.ref a) (.ref b) u) Q E s := by
  obtain ⟨⟨xs, h1, h2, h3⟩, sz⟩ := t
  obtain ⟨hd, ys, r, dd⟩ := tdDict I h1 h3
  have hl : ys.length = kvs.length := by rw [← h2, view_len]; exact (Paired.length r).symm
  refine wpAny_setItem_heap (hsz := by rw [hl]; exact Nat.le_of_lt (small5 sz)) (tupleKind_room_in1 hu) (keyT I hk.t) dd fun h' dd' hs => ?_
  obtain ⟨H', I', c, t'⟩ := td_upd (T := T) (t' := s.toks + (tupleKind (mixKind X.prog X.w)).draws k) I h1 (r.put k (b := b) rv) dd' hs (fun x hx => by
    rcases mem_putX hx with ⟨y, hy, e1, e2⟩ | ⟨e1, e2⟩
    · rw [e1, e2]; exact h3 y hy
    · rw [e1, e2]; exact hk) (by rw [view_put, h2]; have := length_putK kvs k v; omega)
  rw [view_put, h2] at t'
  exact h H' _ I' c t'
theorem td_pop {T : List (Addr × Str)} {v : V} {Q : Value → Shared → Prop} (hu : A.units + 1 < cLine) (I : Inv X pins σ H s) (t : TD X.prog X.w X.K H a kvs) (hk : SqT X.K H b (k.map kV)) (hv : valV kvs k = some v)
    (h : ∀ u H' s', RelV v u → Inv X pins σ H' s' → Chg T [a] H H' → TD X.prog X.w X.K H' a (dropK kvs k) → Q u s') : wpAny (model X.prog X.w) A (call (.builtin "dict.pop") [.ref a, .ref b]) Q E s := by
  obtain ⟨⟨xs, h1, h2, h3⟩, sz⟩ := t
  obtain ⟨hd, ys, r, dd⟩ := tdDict I h1 h3
  have hl : ys.length = kvs.length := by rw [← h2, view_len]; exact (Paired.length r).symm
  obtain ⟨w', hw, rw'⟩ := RelO.some_of (v := v) (o := (atKey ys k).map (·.2)) (by rw [← hv, ← h2]; exact r.val k)
  obtain ⟨p, hp, hp2⟩ := Option.map_eq_some_iff.mp hw
  refine call_pop_heap (more := []) (hsz := by rw [hl]; exact Nat.le_of_lt (small5 sz)) (.inl rfl) (F.args_dict_pop_2 _ _) (tupleKind_room_in1 hu) (keyT I hk) hd dd hp fun h' dd' hs => ?_
  obtain ⟨H', I', c, t'⟩ := td_upd (T := T) (t' := s.toks + (tupleKind (mixKind X.prog X.w)).draws k) I h1 (r.drop k) dd' hs (fun x hx => h3 x (List.mem_filter.mp hx).1) (by rw [view_drop, h2]; have := dropK_le kvs k; omega)
  rw [view_drop, h2] at t'
  rw [hp2]
  exact h w' H' _ rw' I' c t'
theorem td_new {T : List (Addr × Str)} {Q : Value → Shared → Prop} (I : Inv X pins σ H s) (h : ∀ p H' s', H p = none → Inv X pins σ H' s' → Ex T H H' → TD X.prog X.w X.K H' p [] → Q (.ref p) s') :
    Q (.ref s.heap.objs.size) { s with heap := s.heap.push { cls := .type "dict", data := .dict #[] } } := by
  have hb : (s.heap.objs.size == sysModules) = false := beq_eq_false_iff_ne.mpr (Ne.symm (Nat.ne_of_lt I.big))
  have hn : H s.heap.objs.size = none := I.hok.fresh (Nat.le_refl _)
  exact h s.heap.objs.size (upd H s.heap.objs.size (rawD X.prog X.w s.heap.objs.size [])) _ hn (I.laid (t' := s.toks) (fun _ _ q => Heap.get?_push_of_some _ q) (Nat.le_refl _) (rawD_ok hb .nil List.nodup_nil (Heap.get?_push_size _ rfl) ⟨rfl, rfl, rfl⟩ rfl rfl)) (.new hn)
    ⟨⟨[], upd_same, rfl, fun x hx => nomatch hx⟩, Nat.zero_le _⟩
end
end K7
/-! ## K7E -/
set_option Elab.async false
set_option linter.all false
set_option maxRecDepth 100000
set_option maxHeartbeats 4000000
/-! Dicts in expressions: made from tuples of pairs, asked, stored to. -/
namespace K7
open PySem PySem.Spec PyProof.Rows L2

def kD : Key → PyData
  | .inl i => .int i
  | .inr x => .str x
def keyDs (ks : List Key) : PyData := .tuple (ks.map kD)
theorem dts_key {K : PySem.W.Frag} {H : Hp} : ∀ {ks : List Key} {xs : List V}, DTs K H xs (ks.map kD) → xs = ks.map kV
  | [], _, h => by cases h; rfl
  | k :: ks, _, h => by
    rw [List.map_cons] at h
    cases h with
    | cons h1 h2 =>
      rw [dts_key h2, List.map_cons]
      cases k with
      | inl i => rw [h1.inv_int]; rfl
      | inr x => rw [h1.inv_str]; rfl
theorem dt_key {K : PySem.W.Frag} {H : Hp} {ks : List Key} {v : V} (h : DT K H v (keyDs ks)) : ∃ b, v = .ref b ∧ SqP K H b (ks.map kV) := by
  obtain ⟨a, xs, e, s, hx⟩ := h.inv_tup
  rw [dts_key hx] at s
  exact ⟨a, e, s⟩
/-- a dict's values stand for data -/
abbrev SD {κ : Type} (K : PySem.W.Frag) (H : Hp) : List (κ × V) → List (κ × PyData) → Prop := Paired fun kv e => kv.1 = e.1 ∧ DT K H kv.2 e.2
section
variable {κ : Type} [DecidableEq κ]
def lookD (l : List (κ × PyData)) (k : κ) : Option PyData := (l.find? fun e => decide (e.1 = k)).map (·.2)
theorem SD.tk {K : PySem.W.Frag} {H H' : Hp} {kvs : List (κ × V)} {l : List (κ × PyData)} (s : SD K H kvs l) (t : Tk H H') : SD K H' kvs l := Paired.mapP s fun _ _ h => ⟨h.1, h.2.tk t⟩
theorem SD.val {K : PySem.W.Frag} {H : Hp} {kvs : List (κ × V)} {l : List (κ × PyData)} (s : SD K H kvs l) (k : κ) : match lookD l k with
    | some d => ∃ v, valV kvs k = some v ∧ DT K H v d
    | none => valV kvs k = none := by
  induction s with
  | nil => exact rfl
  | @cons p q ps qs h t ih =>
    by_cases e : p.1 = k
    · have e2 : q.1 = k := h.1.symm.trans e
      have b : lookD (q :: qs) k = some q.2 := by simp [lookD, List.find?_cons, e2]
      rw [b, valV_pos e]
      exact ⟨p.2, rfl, h.2⟩
    · have e2 : ¬ q.1 = k := fun z => e (h.1.trans z)
      have b : lookD (q :: qs) k = lookD qs k := by simp [lookD, List.find?_cons, e2]
      rw [b, valV_neg e]
      exact ih
theorem SD.some {K : PySem.W.Frag} {H : Hp} {kvs : List (κ × V)} {l : List (κ × PyData)} (s : SD K H kvs l) {k : κ} {d : PyData} (h : lookD l k = some d) : ∃ v, valV kvs k = some v ∧ DT K H v d := by
  have := s.val k
  rw [h] at this
  exact this
theorem SD.none {K : PySem.W.Frag} {H : Hp} {kvs : List (κ × V)} {l : List (κ × PyData)} (s : SD K H kvs l) {k : κ} (h : lookD l k = none) : valV kvs k = none := by
  have := s.val k
  rw [h] at this
  exact this
theorem SD.isSome {K : PySem.W.Frag} {H : Hp} {kvs : List (κ × V)} {l : List (κ × PyData)} (s : SD K H kvs l) (k : κ) : (valV kvs k).isSome = (lookD l k).isSome := by
  cases h : lookD l k with
  | none => rw [s.none h]; rfl
  | some d => obtain ⟨v, e, _⟩ := s.some h; rw [e]; rfl
theorem SD.keys {K : PySem.W.Frag} {H : Hp} {kvs : List (κ × V)} {l : List (κ × PyData)} (s : SD K H kvs l) : kvs.map (·.1) = l.map (·.1) := by
  induction s with
  | nil => rfl
  | cons h t ih => rw [List.map_cons, List.map_cons, ih, h.1]
end
theorem valV_none {κ : Type} [DecidableEq κ] {kvs : List (κ × V)} {k : κ} (h : k ∉ kvs.map (·.1)) : valV kvs k = none := by
  induction kvs with
  | nil => rfl
  | cons p ps ih =>
    rw [valV_neg (fun e => h (by rw [List.map_cons, e]; exact List.mem_cons_self ..))]
    exact ih fun z => h (List.mem_cons_of_mem _ z)
theorem mergeK_nd : ∀ (more acc : List (Key × V)), ((acc ++ more).map (·.1)).Nodup → mergeK acc more = acc ++ more
  | [], acc, _ => (List.append_nil acc).symm
  | p :: more, acc, h => by
    show mergeK (putK acc p.1 p.2) more = _
    have hn : valV acc p.1 = none := valV_none fun z => by
      rw [List.map_append, List.map_cons] at h
      exact (List.nodup_append.mp h).2.2 p.1 z p.1 (List.mem_cons_self ..) rfl
    rw [putK_new _ hn, mergeK_nd more (acc ++ [(p.1, p.2)]) (by rw [List.append_assoc]; exact h), List.append_assoc]
    rfl
theorem storedAll_nd : ∀ (more acc : List YK), ((acc ++ more).map (·.1)).Nodup → storedAllH acc more = acc ++ more
  | [], acc, _ => (List.append_nil acc).symm
  | p :: more, acc, h => by
    show storedAllH (storedH acc p.1 p.2.1 p.2.2) more = _
    have hn : atKey acc p.1 = none := by
      unfold atKey
      rw [Option.map_eq_none_iff, List.find?_eq_none]
      intro y hy z
      rw [List.map_append, List.map_cons] at h
      exact (List.nodup_append.mp h).2.2 y.1 (List.mem_map.mpr ⟨y, hy, rfl⟩) p.1 (List.mem_cons_self ..) (of_decide_eq_true z)
    have e : storedH acc p.1 p.2.1 p.2.2 = acc ++ [p] := by
      unfold storedH
      rw [hn]
      rfl
    rw [e, storedAll_nd more (acc ++ [p]) (by rw [List.append_assoc]; exact h), List.append_assoc]
    rfl

/-! ### dict(a tuple of pairs) -/
section
variable {X : Cx} {pins : List (Addr × Obj)} {σ : L2.St} {H : Hp} {s : Shared}
theorem prsK {l : List (Key × PyData)} (I : Inv X pins σ H s) : ∀ {xs : List V} {us : List Value}, DTs X.K H xs (l.map fun e => .tuple [kD e.1, e.2]) → Vals xs us →
    ∃ (kvs : List (Key × V)) (prs : List (Key × Value)) (Ts : List Addr) (ks : List Value), SD X.K H kvs l ∧ KV kvs prs ∧ Ts.length = l.length ∧ ks.length = l.length ∧ prs.length = l.length ∧ us = Ts.map Value.ref ∧
      ∀ (j : Nat) (t : Addr) (u : Value) (q : Key × Value), Ts[j]? = some t → ks[j]? = some u → prs[j]? = some q → PairAt s.heap t u q.2 ∧ keyIs q.1 u = true := by
  induction l with
  | nil =>
    intro xs us h r
    cases h
    cases r
    exact ⟨[], [], [], [], .nil, .nil, rfl, rfl, rfl, rfl, fun j t u q e => by simp at e⟩
  | cons e l ih =>
    intro xs us h r
    rw [List.map_cons] at h
    cases h with
    | cons h1 h2 =>
      cases r with
      | cons r1 r2 =>
        obtain ⟨kvs, prs, Ts, ks, i1, i2, i3, i4, i5, i6, i7⟩ := ih h2 r2
        obtain ⟨a, ys, ea, sq, hy⟩ := h1.inv_tup
        obtain ⟨k, v, ey, hk, hv⟩ := hy.inv2
        subst ea
        subst ey
        have ek : k = kV e.1 := by
          cases hh : e.1 with
          | inl i => rw [hh] at hk; exact hk.inv_int
          | inr x => rw [hh] at hk; exact hk.inv_str
        obtain ⟨its, rv, ht, _⟩ := I.tuple sq.t
        obtain ⟨u, y, ei, ru, ry⟩ := vals2 rv
        subst ei
        cases r1
        refine ⟨(e.1, v) :: kvs, (e.1, y) :: prs, a :: Ts, u :: ks, .cons ⟨rfl, hv⟩ i1, .cons ⟨rfl, ry⟩ i2, by simp [i3], by simp [i4], by simp [i5], by rw [List.map_cons, i6], fun j t u' q e1 e2 e3 => ?_⟩
        cases j with
        | zero =>
          simp only [List.getElem?_cons_zero, Option.some.injEq] at e1 e2 e3
          subst e1 e2 e3
          exact ⟨.inl ht, kV_is (P := X.prog) (w := X.w) (ek ▸ ru)⟩
        | succ j => exact i7 j t u' q (by simpa using e1) (by simpa using e2) (by simpa using e3)
theorem frz_plain {a : Addr} {xs : List V} (I : Inv X pins σ H s) (h : SqP X.K H a xs) : ∃ its : List Value, Vals xs its ∧ PlainSeq "tuple" s.heap a its.toArray ∧ xs.length ≤ sizeLine := by
  rcases h with ⟨o, h, hd⟩ | ⟨o, its, n, h1, h2, h3, h4, h5, h6⟩
  · obtain ⟨e, z, its, r, o', e', c, n, d⟩ := I.hok a _ h
    rw [e] at e'
    cases e'
    exact ⟨its, r, ⟨o, n, e, c, hd, d⟩, z⟩
  · refine ⟨its.toList, h6, ⟨o, n, I.kIn a o h1, h2, h3, by simpa using h4⟩, ?_⟩
    have := h6.length
    simp only [Array.length_toList] at this
    omega
theorem getD_of {α : Type} {l : List α} {j : Nat} {x d : α} (h : l[j]? = some x) : l.getD j d = x := by rw [List.getD_eq_getElem?_getD, h]; rfl
/-- dict(t): keys ints and texts -/
theorem call_dictK (hc : X.calm = true) : CallR X (.type "dict") (fun xs H Q => ∃ (v : V) (l : List (Key × PyData)), xs = [v] ∧ DT X.K H v (.tuple (l.map fun e => .tuple [kD e.1, e.2])) ∧ (l.map (·.1)).Nodup ∧ l.length ≤ 1000 ∧
    ∀ p kvs, H p = none → SD X.K H kvs l → Q (.ref p) (upd H p (.dK kvs))) := by
  intro pins s σ H xs us Q I r h
  obtain ⟨v, l, e, hd, nd, hz, q⟩ := h
  subst e
  obtain ⟨u, e, rx⟩ := vals1 r
  subst e
  obtain ⟨a, ys, ea, sq, hy⟩ := hd.inv_tup
  subst ea
  cases rx
  obtain ⟨its, rv, pl, _⟩ := frz_plain I sq
  obtain ⟨kvs, prs, Ts, ks, i1, i2, i3, i4, i5, i6, i7⟩ := prsK I hy rv
  subst i6
  let ps : List (Value × Value) := (List.range l.length).map fun j => (ks.getD j .none, (prs.getD j (.inl 0, .none)).2)
  have hps : ps.length = l.length := by simp [ps]
  have psj : ∀ j k' v', ps[j]? = some (k', v') → ∃ (t : Addr) (q : Key × Value), Ts[j]? = some t ∧ ks[j]? = some k' ∧ prs[j]? = some q ∧ q.2 = v' := fun j k' v' ej => by
    have hj : j < l.length := by have := (List.getElem?_eq_some_iff.mp ej).1; omega
    have e1 : Ts[j]? = some (Ts[j]'(by omega)) := List.getElem?_eq_getElem (by omega)
    have e2 : ks[j]? = some (ks[j]'(by omega)) := List.getElem?_eq_getElem (by omega)
    have e3 : prs[j]? = some (prs[j]'(by omega)) := List.getElem?_eq_getElem (by omega)
    simp only [ps, List.getElem?_map, List.getElem?_range hj, Option.map_some, Option.some.injEq, Prod.mk.injEq] at ej
    rw [getD_of e2, getD_of e3] at ej
    exact ⟨_, _, e1, by rw [e2, ej.1], e3, ej.2⟩
  refine call_dict_pairs (knd := mixKind X.prog X.w) (kvs := prs) (PairArg.tuple a (Ts.map Value.ref).toArray (fun j => Ts.getD j 0) ps) (I.ok.hd hc) ⟨pl, by simp [hps, i3], fun j k' v' ej => ?_⟩ ⟨by rw [i5, hps], fun j k' v' ej => ?_⟩ (by rw [hps]; exact Nat.le_of_lt (small1000 hz)) fun h' tk hd' hk => ?_
  · obtain ⟨t, q, e1, e2, e3, e4⟩ := psj j k' v' ej
    show (List.map Value.ref Ts).toArray[j]? = some (Value.ref (Ts.getD j 0)) ∧ PairAt s.heap (Ts.getD j 0) k' v'
    rw [getD_of e1]
    refine ⟨by simp [e1], ?_⟩
    rw [← e4]
    exact (i7 j t k' q e1 e2 e3).1
  · obtain ⟨t, q, e1, e2, e3, e4⟩ := psj j k' v' ej
    exact ⟨q.1, by rw [e3, ← e4], (i7 j t k' q e1 e2 e3).2⟩
  · have hm : (s.heap.objs.size == sysModules) = false := beq_eq_false_iff_ne.mpr (Nat.ne_of_gt I.big)
    have hl : kvs.length = l.length := Paired.length i1
    have e0 : mergeK [] kvs = kvs := mergeK_nd kvs [] (by rw [List.nil_append, i1.keys]; exact nd)
    have hn := I.hok.fresh (Nat.le_refl s.heap.objs.size)
    have rel := KV.merge i2 (.nil : KV [] ([] : List (Key × Value)))
    rw [e0] at rel
    exact ⟨.ref s.heap.objs.size, upd H s.heap.objs.size (.dK kvs), I.laid (t' := tk) (fun b o e => hk b o (by simp) e) (Nat.le_refl _) (show ObjOk X.prog X.w _ _ _ (.dK kvs) from ⟨by rw [hl]; exact Nat.le_of_lt (small1000 hz), hm, merged [] prs, rel, hd'⟩), rfl, q _ kvs hn i1⟩
/-- keys are tuples -/
theorem prsT {l : List (List Key × PyData)} (I : Inv X pins σ H s) : ∀ {xs : List V} {us : List Value}, DTs X.K H xs (l.map fun e => .tuple [keyDs e.1, e.2]) → Vals xs us →
    ∃ (xk : List XK) (yk : List YK) (Ts : List Addr), SD X.K H (view xk) l ∧ XR xk yk ∧ Ts.length = l.length ∧ yk.length = l.length ∧ us = Ts.map Value.ref ∧ (∀ x ∈ xk, SqP X.K H x.2.1 (x.1.map kV)) ∧
      ∀ (j : Nat) (t : Addr) (q : YK), Ts[j]? = some t → yk[j]? = some q → PairAt s.heap t (.ref q.2.1) q.2.2 := by
  induction l with
  | nil =>
    intro xs us h r
    cases h
    cases r
    exact ⟨[], [], [], .nil, .nil, rfl, rfl, rfl, fun x hx => (nomatch hx), fun j t q e => by simp at e⟩
  | cons e l ih =>
    intro xs us h r
    rw [List.map_cons] at h
    cases h with
    | cons h1 h2 =>
      cases r with
      | cons r1 r2 =>
        obtain ⟨xk, yk, Ts, i1, i2, i3, i5, i6, ik, i7⟩ := ih h2 r2
        obtain ⟨a, ys, ea, sq, hy⟩ := h1.inv_tup
        obtain ⟨k, v, ey, hk, hv⟩ := hy.inv2
        subst ea
        subst ey
        obtain ⟨b, eb, sb⟩ := dt_key hk
        subst eb
        obtain ⟨its, rv, ht, _⟩ := I.tuple sq.t
        obtain ⟨u, y, ei, ru, ry⟩ := vals2 rv
        subst ei
        cases r1
        cases ru
        refine ⟨(e.1, b, v) :: xk, (e.1, b, y) :: yk, a :: Ts, .cons ⟨rfl, hv⟩ i1, .cons ⟨rfl, rfl, ry⟩ i2, by simp [i3], by simp [i5], by rw [List.map_cons, i6], fun x hx => ?_, fun j t q e1 e3 => ?_⟩
        · rcases List.mem_cons.mp hx with e | hx
          · rw [e]; exact sb
          · exact ik x hx
        · cases j with
          | zero =>
            simp only [List.getElem?_cons_zero, Option.some.injEq] at e1 e3
            subst e1 e3
            exact .inl ht
          | succ j => exact i7 j t q (by simpa using e1) (by simpa using e3)
theorem call_dictTD {T : List (Addr × Str)} (hc : X.calm = true) (hu : X.A.units + 2 < cLine) : CallR X (.type "dict") (fun xs H Q => ∃ (v : V) (l : List (List Key × PyData)), xs = [v] ∧ DT X.K H v (.tuple (l.map fun e => .tuple [keyDs e.1, e.2])) ∧ (l.map (·.1)).Nodup ∧ l.length ≤ 1000 ∧
    ∀ p H' kvs, H p = none → Ex T H H' → TD X.prog X.w X.K H' p kvs → SD X.K H' kvs l → Q (.ref p) H') := by
  intro pins s σ H xs us Q I r h
  obtain ⟨v, l, e, hd, nd, hz, q⟩ := h
  subst e
  obtain ⟨u, e, rx⟩ := vals1 r
  subst e
  obtain ⟨a, ys, ea, sq, hy⟩ := hd.inv_tup
  subst ea
  cases rx
  obtain ⟨its, rv, pl, _⟩ := frz_plain I sq
  obtain ⟨xk, yk, Ts, i1, i2, i3, i5, i6, ik, i7⟩ := prsT I hy rv
  subst i6
  let ps : List (Value × Value) := yk.map fun q => (.ref q.2.1, q.2.2)
  have hps : ps.length = l.length := by simp [ps, i5]
  have psj : ∀ j k' v', ps[j]? = some (k', v') → ∃ (t : Addr) (q : YK), Ts[j]? = some t ∧ yk[j]? = some q ∧ k' = Value.ref q.2.1 ∧ q.2.2 = v' := fun j k' v' ej => by
    have hj : j < l.length := by have := (List.getElem?_eq_some_iff.mp ej).1; omega
    have e1 : Ts[j]? = some (Ts[j]'(by omega)) := List.getElem?_eq_getElem (by omega)
    have e3 : yk[j]? = some (yk[j]'(by omega)) := List.getElem?_eq_getElem (by omega)
    simp only [ps, List.getElem?_map, e3, Option.map_some, Option.some.injEq, Prod.mk.injEq] at ej
    exact ⟨_, _, e1, e3, ej.1.symm, ej.2⟩
  have keysIs : ∀ y ∈ yk, (tupleKind (mixKind X.prog X.w)).is s.heap y.1 y.2.1 := by
    clear psj hps i7 ps i5
    induction i2 generalizing l with
    | nil => intro y hy; cases hy
    | @cons p q ps qs h1 t ih2 =>
      intro y hy
      rcases List.mem_cons.mp hy with e | hy
      · rw [e, ← h1.1, ← h1.2.1]
        exact keyT I (ik p (List.mem_cons_self ..)).t
      · have ik' : ∀ x ∈ ps, SqP X.K H x.2.1 (x.1.map kV) := fun x hx => ik x (List.mem_cons_of_mem _ hx)
        have aux : ∀ {ps : List XK} {qs : List YK}, XR ps qs → (∀ x ∈ ps, SqP X.K H x.2.1 (x.1.map kV)) → ∀ y ∈ qs, (tupleKind (mixKind X.prog X.w)).is s.heap y.1 y.2.1 := by
          intro ps qs r
          induction r with
          | nil => intro _ y hy; cases hy
          | @cons p q ps qs h1 t ih3 =>
            intro ik y hy
            rcases List.mem_cons.mp hy with e | hy
            · rw [e, ← h1.1, ← h1.2.1]
              exact keyT I (ik p (List.mem_cons_self ..)).t
            · exact ih3 (fun x hx => ik x (List.mem_cons_of_mem _ hx)) y hy
        exact aux t ik' y hy
  have hkeys : yk.map (·.1) = l.map (·.1) := by
    have e1 := i1.keys
    rw [← e1]
    clear psj hps i7 ps i5 keysIs i1 e1
    induction i2 with
    | nil => rfl
    | cons h t ih2 =>
      rw [List.map_cons, ih2 (fun x hx => ik x (List.mem_cons_of_mem _ hx)), ← h.1]
      rfl
  refine call_dict_pairsH (knd := tupleKind (mixKind X.prog X.w)) (ps := yk) (PairArg.tuple a (Ts.map Value.ref).toArray (fun j => Ts.getD j 0) ps) (I.ok.hd hc) (show X.A.units + 1 + 1 < cLine from hu) ⟨pl, by simp [hps, i3], fun j k' v' ej => ?_⟩ ⟨by rw [i5, hps], fun j k' v' ej => ?_⟩ (fun h' hk x hx => ?_) (by rw [hps]; exact Nat.le_of_lt (small1000 hz)) fun h' tk hd' hk => ?_
  · obtain ⟨t, q, e1, e3, e4, e5⟩ := psj j k' v' ej
    show (List.map Value.ref Ts).toArray[j]? = some (Value.ref (Ts.getD j 0)) ∧ PairAt s.heap (Ts.getD j 0) k' v'
    rw [getD_of e1]
    refine ⟨by simp [e1], ?_⟩
    rw [e4, ← e5]
    exact i7 j t q e1 e3
  · obtain ⟨t, q, e1, e3, e4, e5⟩ := psj j k' v' ej
    exact ⟨q.1, q.2.1, by rw [e3, ← e5], e4⟩
  · obtain ⟨o, items, n, h1, h2, h3, h4⟩ := keysIs x hx
    exact ⟨o, items, n, hk _ _ (Nat.ne_of_lt (Heap.lt_size h1)) (by simp) h1, h2, h3, h4⟩
  · have hm : (s.heap.objs.size == sysModules) = false := beq_eq_false_iff_ne.mpr (Nat.ne_of_gt I.big)
    have hn := I.hok.fresh (Nat.le_refl s.heap.objs.size)
    rw [storedAll_nd yk [] (by rw [List.nil_append, hkeys]; exact nd), List.nil_append] at hd'
    obtain ⟨o, es, ep, g1, g2, g3, g4, _, g5⟩ := hd'
    have cg : Ex T H (upd H s.heap.objs.size (rawD X.prog X.w s.heap.objs.size xk)) := .new hn
    have hl : (view xk).length = l.length := Paired.length i1
    exact ⟨.ref s.heap.objs.size, _, I.laid (t' := tk) (fun b o e => hk b o (by simp) e) (Nat.le_refl _) (rawD_ok hm i2 g5 g1 g2 g3 g4), rfl, q _ _ (view xk) hn cg ⟨⟨xk, upd_same, rfl, fun x hx => cg.sp (ik x hx)⟩, by omega⟩ (i1.tk cg.tup)⟩
end
end K7
/-! ## K7F -/
set_option Elab.async false
set_option linter.all false
set_option maxRecDepth 100000
set_option maxHeartbeats 4000000
/-! Dicts and attributes in expressions and statements. -/
namespace K7
open PySem PySem.Spec PyProof.Rows L2
section
variable {T : List (Addr × Str)} {X : Cx} {σ : L2.St} {H H' : Hp} {e a b o i : Expr} {v : V} {d : PyData} {dd : Addr} {n : Nat} {kvs : List (Key × V)} {kvt : List (List Key × V)} {x : Str} {ks : List Key} {pos : Pos}
/-! ### in -/
def rInT (P : Program) (w : World) (K : PySem.W.Frag) (neg : Bool) : R2 := fun x y H Q => ∃ b kvt ks dd, x = .ref b ∧ y = .ref dd ∧ TD P w K H dd kvt ∧ SqT K H b (ks.map kV) ∧ Q (.bl (if neg then !(valV kvt ks).isSome else (valV kvt ks).isSome)) H
theorem op_inT (c : Cok n X) : OpR X (compareOp .In) (rInT X.prog X.w X.K false) := by
  intro pins s σ H x y v u Q I rx ry h
  obtain ⟨b, kvt, ks, dd, e1, e2, t, sq, q⟩ := h
  subst e1
  subst e2
  cases rx
  cases ry
  exact td_in c.hu I t sq fun s' I' => ⟨.bl _, H, I', rfl, q⟩
theorem op_notInT (c : Cok n X) : OpR X (compareOp .NotIn) (rInT X.prog X.w X.K true) := by
  intro pins s σ H x y v u Q I rx ry h
  obtain ⟨b, kvt, ks, dd, e1, e2, t, sq, q⟩ := h
  subst e1
  subst e2
  cases rx
  cases ry
  exact td_notIn c.hu I t sq fun s' I' => ⟨.bl _, H, I', rfl, q⟩
theorem ec_inT (c : Cok n X) (ha : EvD T X a σ H (keyDs ks)) (hb : EvV T X b σ H (.ref dd)) (t : TD X.prog X.w X.K H dd kvt) : EvC T X .In a b σ H (valV kvt ks).isSome := fun H1 c1 Q q =>
  ha H1 c1 _ fun u H2 c2 hu => hb H2 (c1.trans c2) _ fun H3 c3 => by
    obtain ⟨p, e, sq⟩ := dt_key hu
    exact ⟨_, op_inT c, p, kvt, ks, dd, e, rfl, t.keep ((c1.trans c2).trans c3) (by simp), c3.sq sq.t, q H3 (c2.trans c3)⟩
theorem ec_notInT (c : Cok n X) (ha : EvD T X a σ H (keyDs ks)) (hb : EvV T X b σ H (.ref dd)) (t : TD X.prog X.w X.K H dd kvt) : EvC T X .NotIn a b σ H (!(valV kvt ks).isSome) := fun H1 c1 Q q =>
  ha H1 c1 _ fun u H2 c2 hu => hb H2 (c1.trans c2) _ fun H3 c3 => by
    obtain ⟨p, e, sq⟩ := dt_key hu
    exact ⟨_, op_notInT c, p, kvt, ks, dd, e, rfl, t.keep ((c1.trans c2).trans c3) (by simp), c3.sq sq.t, q H3 (c2.trans c3)⟩
def rInK (neg : Bool) : R2 := fun x y H Q => ∃ dd o, y = .ref dd ∧ DGet H dd x o ∧ Q (.bl (if neg then !o.isSome else o.isSome)) H
theorem op_inK (c : Cok n X) : OpR X (compareOp .In) (rInK false) := by
  intro pins s σ H x y v u Q I rx ry h
  obtain ⟨dd, o, e2, g, q⟩ := h
  subst e2
  cases ry
  exact d_in c.hu I g rx fun s' I' => ⟨.bl _, H, I', rfl, q⟩
theorem op_notInK (c : Cok n X) : OpR X (compareOp .NotIn) (rInK true) := by
  intro pins s σ H x y v u Q I rx ry h
  obtain ⟨dd, o, e2, g, q⟩ := h
  subst e2
  cases ry
  exact d_notIn c.hu I g rx fun s' I' => ⟨.bl _, H, I', rfl, q⟩
theorem ec_inK (c : Cok n X) (ha : EvD T X a σ H (.str x)) (hb : EvV T X b σ H (.ref dd)) (t : H dd = some (.dK kvs)) : EvC T X .In a b σ H (valV kvs (.inr x)).isSome := fun H1 c1 Q q =>
  ha H1 c1 _ fun u H2 c2 hu => hb H2 (c1.trans c2) _ fun H3 c3 => by
    rw [hu.inv_str]
    exact ⟨_, op_inK c, dd, _, rfl, DGet.k (k := .inr x) (((c1.trans c2).trans c3).get t), q H3 (c2.trans c3)⟩
theorem ec_notInK (c : Cok n X) (ha : EvD T X a σ H (.str x)) (hb : EvV T X b σ H (.ref dd)) (t : H dd = some (.dK kvs)) : EvC T X .NotIn a b σ H (!(valV kvs (.inr x)).isSome) := fun H1 c1 Q q =>
  ha H1 c1 _ fun u H2 c2 hu => hb H2 (c1.trans c2) _ fun H3 c3 => by
    rw [hu.inv_str]
    exact ⟨_, op_notInK c, dd, _, rfl, DGet.k (k := .inr x) (((c1.trans c2).trans c3).get t), q H3 (c2.trans c3)⟩
/-! ### d[k], d.get(k) -/
theorem ev_getK (c : Cok n X) (ho : EvV T X o σ H (.ref dd)) (hi : EvD T X i σ H (.str x)) (t : H dd = some (.dK kvs)) (hv : valV kvs (.inr x) = some v) (hs : NoSl i := by exact fun _ _ => rfl) : EvV T X (.Subscript o i pos) σ H v := fun H1 c1 Q q =>
  wE.of (pe_dget c.hu peW peW hs) (ho H1 c1 _ fun H2 c2 => hi H2 (c1.trans c2) _ fun u H3 c3 hu => ⟨dd, v, rfl, by
    rw [hu.inv_str, ← hv]
    exact DGet.k (k := .inr x) (((c1.trans c2).trans c3).get t), q H3 (c2.trans c3)⟩)
/-- a dict that was just made -/
theorem ed_getK (c : Cok n X) (l : List (Key × PyData)) (ho : ∀ H1, Ex T H H1 → ∀ Q : VK, (∀ p H2 kvs, Ex T H1 H2 → H2 p = some (.dK kvs) → SD X.K H2 kvs l → Q (.ref p) H2) → wE X o σ H1 Q) (hi : EvD T X i σ H (.str x)) (hl : lookD l (.inr x) = some d) (hs : NoSl i := by exact fun _ _ => rfl) :
    EvD T X (.Subscript o i pos) σ H d := fun H1 c1 Q q =>
  wE.of (pe_dget c.hu peW peW hs) (ho H1 c1 _ fun p H2 kvs c2 hp hk => hi H2 (c1.trans c2) _ fun u H3 c3 hu => by
    obtain ⟨v, e, hv⟩ := hk.some hl
    refine ⟨p, v, rfl, ?_, q v H3 (c2.trans c3) (c3.dt hv)⟩
    rw [hu.inv_str, ← e]
    exact DGet.k (k := .inr x) (c3.get hp))
theorem wE_getT {Q : VK} (c : Cok n X) (hs : NoSl i := by exact fun _ _ => rfl) (h : wE X o σ H fun x H1 => wE X i σ H1 fun y H2 => ∃ dd kvt ks b v, x = .ref dd ∧ y = .ref b ∧ TD X.prog X.w X.K H2 dd kvt ∧ SqT X.K H2 b (ks.map kV) ∧ valV kvt ks = some v ∧ Q v H2) : wE X (.Subscript o i pos) σ H Q := fun pins s I => by
  refine subD_of PySem.F.slot_dict_getitem.lookup hs (thn (h pins s I) fun u s1 ⟨x, H1, I1, rx, q1⟩ => thn (q1 pins s1 I1) fun iv s2 ⟨y, H2, I2, ry, dd, kvt, ks, b, v, e1, e2, t, sq, hv, q2⟩ => ?_)
  subst e1
  subst e2
  cases rx
  cases ry
  obtain ⟨⟨xs, h1, h2, h3⟩, sz⟩ := id t
  obtain ⟨hd, ys, r, dc⟩ := tdDict I2 h1 h3
  exact ⟨dc.typeIs, td_getItem c.hu I2 t sq hv fun w' s3 I3 rw' => ⟨v, H2, I3, rw', q2⟩⟩
theorem ev_getT (c : Cok n X) (ho : EvV T X o σ H (.ref dd)) (hi : EvD T X i σ H (keyDs ks)) (t : TD X.prog X.w X.K H dd kvt) (hv : valV kvt ks = some v) (hs : NoSl i := by exact fun _ _ => rfl) : EvV T X (.Subscript o i pos) σ H v := fun H1 c1 Q q =>
  wE_getT c hs (ho H1 c1 _ fun H2 c2 => hi H2 (c1.trans c2) _ fun u H3 c3 hu => by
    obtain ⟨p, e, sq⟩ := dt_key hu
    exact ⟨dd, kvt, ks, p, v, rfl, e, t.keep ((c1.trans c2).trans c3) (by simp), sq.t, hv, q H3 (c2.trans c3)⟩)
/-- o.m(e), o a dict with tuple keys -/
theorem wE_methT {Q : VK} {m : Str} {idS : String} {apos cpos : Pos} (slot : Slot "dict" m idS) (hty : typeOf (.builtin idS) = pure (.type "method_descriptor")) (h : wE X o σ H fun x H1 => ∃ dd kvt, x = .ref dd ∧ TD X.prog X.w X.K H1 dd kvt ∧ wE X e σ H1 fun y H2 => ∀ pins s u, Inv X pins σ H2 s → RelV y u → wpAny (model X.prog X.w) X.A (call (.builtin idS) [.ref dd, u]) (EP X pins σ Q) X.xe s)
    (mm : M1 X o m apos e cpos := by exact ⟨rfl, rfl, rfl, rfl⟩) : wE X (.Call (.Attribute o m apos) [e] [] cpos) σ H Q := fun pins s I => by
  refine wpAny_Call_method mm.base mm.few mm.line PySem.F.plainAttrs_dict slot hty (thn (h pins s I) fun u s1 ⟨x, H1, I1, rx, dd, kvt, ex, t, q1⟩ => ?_)
  subst ex
  cases rx
  obtain ⟨⟨xs, h1, h2, h3⟩, sz⟩ := id t
  obtain ⟨hd, ys, r, dc⟩ := tdDict I1 h1 h3
  obtain ⟨od, es, ep, g1, g2, _⟩ := id dc
  refine ⟨dc.typeIs, fun b q => ?_, ?_⟩
  · cases q
    exact ⟨od, g1, g2.2.1⟩
  rw [mm.trees]
  exact Calls.callWith_builtin rfl (Calls.evalArgs_plain (Calls.spliced_cons (thn (q1 pins s1 I1) fun iv s2 ⟨y, H2, I2, ry, q2⟩ => Calls.spliced_nil (q2 pins s2 iv I2 ry))))
theorem ev_get1T {apos cpos : Pos} (c : Cok n X) (ho : EvV T X o σ H (.ref dd)) (hi : EvD T X i σ H (keyDs ks)) (t : TD X.prog X.w X.K H dd kvt) (mm : M1 X o "get" apos i cpos := by exact ⟨rfl, rfl, rfl, rfl⟩) : EvV T X (.Call (.Attribute o "get" apos) [i] [] cpos) σ H ((valV kvt ks).getD .non) := fun H1 c1 Q q =>
  wE_methT PySem.F.slot_dict_get PySem.F.type_dict_get (ho H1 c1 _ fun H2 c2 => ⟨dd, kvt, rfl, t.keep (c1.trans c2) (by simp), hi H2 (c1.trans c2) _ fun y H3 c3 hy pins s u I ry => by
    obtain ⟨p, e, sq⟩ := dt_key hy
    subst e
    cases ry
    exact td_get c.hu I (t.keep ((c1.trans c2).trans c3) (by simp)) sq.t fun w' s' I' r => ⟨_, H3, I', r, q H3 (c2.trans c3)⟩⟩) mm
/-! ### {}, dict(t) -/
theorem wE_newT {Q : VK} (q : ∀ p H', H p = none → Ex T H H' → TD X.prog X.w X.K H' p [] → Q (.ref p) H') : wE X (.Dict [] [] pos) σ H Q := fun pins s I =>
  wpAny_Dict_empty (td_new (T := T) (Q := fun u s' => EP X pins σ Q u s') I fun p H' s' hp I' c t => ⟨.ref p, H', I', rfl, q p H' hp c t⟩)
theorem wE_newK {Q : VK} (q : ∀ p H', H p = none → Ex T H H' → H' p = some (.dK []) → Q (.ref p) H') : wE X (.Dict [] [] pos) σ H Q := wE.of pe_dnewK fun p hp => q p _ hp (.new hp) upd_same
theorem wE_dictK {Q : VK} {p : Pos} {l : List (Key × PyData)} (c : Cok n X) (hm : X.mg "dict" = none) (ha : EvD T X a σ H (.tuple (l.map fun e => .tuple [kD e.1, e.2]))) (nd : (l.map (·.1)).Nodup) (hz : l.length ≤ 1000)
    (q : ∀ r H' kvs, H r = none → Ex T H H' → H' r = some (.dK kvs) → SD X.K H' kvs l → Q (.ref r) H') (hg : Gl X "dict" := by rfl) (h1 : starEach [a] X.env = (false, eval a X.env) :: starEach [] X.env := by rfl) : wE X (.Call (.Name "dict" p) [a] [] pos) σ H Q :=
  wE.of (pe_callTy (call_dictK c.calm) hg hm (by decide +kernel) (pa_cons peW pa_nil h1) (by decide) (by decide) h1 (by rfl)) (ha H .refl _ fun v H2 c2 hv => ⟨v, l, rfl, hv, nd, hz, fun r kvs hr hk => q r _ kvs (c2.back r hr) (c2.trans (.new hr)) upd_same (hk.tk (Chg.new (T := T) (S := []) hr).tup)⟩)
theorem wE_dictT {Q : VK} {p : Pos} {l : List (List Key × PyData)} (c : Cok n X) (hm : X.mg "dict" = none) (ha : EvD T X a σ H (.tuple (l.map fun e => .tuple [keyDs e.1, e.2]))) (nd : (l.map (·.1)).Nodup) (hz : l.length ≤ 1000)
    (q : ∀ r H' kvs, H r = none → Ex T H H' → TD X.prog X.w X.K H' r kvs → SD X.K H' kvs l → Q (.ref r) H') (hg : Gl X "dict" := by rfl) (h1 : starEach [a] X.env = (false, eval a X.env) :: starEach [] X.env := by rfl) : wE X (.Call (.Name "dict" p) [a] [] pos) σ H Q :=
  wE.of (pe_callTy (call_dictTD (T := T) c.calm (by have := c.hu64; omega)) hg hm (by decide +kernel) (pa_cons peW pa_nil h1) (by decide) (by decide) h1 (by rfl)) (ha H .refl _ fun v H2 c2 hv => ⟨v, l, rfl, hv, nd, hz, fun r H3 kvs hr c3 ht hk => q r _ kvs (c2.back r hr) (c2.trans c3) ht hk⟩)
/-! ### stores -/
variable {D : Ends} {rest : List Stmt} {value : Expr} {p' : Pos}
theorem ws_putK (c : Cok n X) (hv : EvV T X value σ H v) (ho : EvV T X o σ H (.ref dd)) (hi : EvD T X i σ H (.str x)) (t : H dd = some (.dK kvs)) (hz : kvs.length ≤ 1000)
    (q : ∀ H1, Ex T H H1 → H1 dd = some (.dK kvs) → wS X rest D σ (upd H1 dd (.dK (putK kvs (.inr x) v)))) (hs : swapsWith value (some (.Subscript o i p')) pos.line X.env = pure false := by rfl) : wS X (.Assign [.Subscript o i p'] value pos :: rest) D σ H :=
  wS_cons (ps_dput c.hu peW peW peW hs) (hv H .refl _ fun H1 c1 => ho H1 c1 _ fun H2 c2 => hi H2 (c1.trans c2) _ fun y H3 c3 hy => by
    have c4 := (c1.trans c2).trans c3
    rw [hy.inv_str]
    exact ⟨dd, _, rfl, DPut.k (k := .inr x) (c4.get t) (small1000 hz), q H3 c4 (c4.get t)⟩)
theorem ps_putT (c : Cok n X) (hs : swapsWith value (some (.Subscript o i p')) pos.line X.env = pure false) : PS X (.Assign [.Subscript o i p'] value pos) (fun D σ H => wE X value σ H fun v H1 => wE X o σ H1 fun x H2 => wE X i σ H2 fun y H3 =>
    ∃ dd kvt ks b, x = .ref dd ∧ y = .ref b ∧ TD X.prog X.w X.K H3 dd kvt ∧ SqP X.K H3 b (ks.map kV) ∧ kvt.length < 100000 ∧ ∀ H', Chg T [dd] H3 H' → TD X.prog X.w X.K H' dd (putK kvt ks v) → D.nx σ H') := by
  refine ⟨fun pins s σ H D I h => ?_⟩
  refine wpAny_Assign_Subscript (thn (h pins s I) fun r s1 ⟨v, H1, I1, rv, q1⟩ => thn (q1 pins s1 I1) fun u s2 ⟨x, H2, I2, rx, q2⟩ => thn (q2 pins s2 I2) fun iv s3 ⟨y, H3, I3, ry, dd, kvt, ks, b, e1, e2, t, sq, hz, q3⟩ => ?_) hs
  subst e1
  subst e2
  cases rx
  cases ry
  exact td_setItem (T := T) c.hu I3 t sq rv hz fun H' s4 I4 cg t' => ⟨σ, H', I4, q3 H' cg t'⟩
theorem ws_putT (c : Cok n X) (hv : EvV T X value σ H v) (ho : EvV T X o σ H (.ref dd)) (hi : EvD T X i σ H (keyDs ks)) (t : TD X.prog X.w X.K H dd kvt) (hz : kvt.length < 100000)
    (q : ∀ H', Chg T [dd] H H' → TD X.prog X.w X.K H' dd (putK kvt ks v) → wS X rest D σ H') (hs : swapsWith value (some (.Subscript o i p')) pos.line X.env = pure false := by rfl) : wS X (.Assign [.Subscript o i p'] value pos :: rest) D σ H :=
  wS_cons (ps_putT (T := T) c hs) (hv H .refl _ fun H1 c1 => ho H1 c1 _ fun H2 c2 => hi H2 (c1.trans c2) _ fun y H3 c3 hy => by
    obtain ⟨p, e, sq⟩ := dt_key hy
    have c4 := (c1.trans c2).trans c3
    exact ⟨dd, kvt, ks, p, rfl, e, t.keep c4 (by simp), sq, hz, fun H' cg t' => q H' (c4.then_ cg) t'⟩)
/-- the value data -/
theorem ws_putTD (c : Cok n X) (hv : EvD T X value σ H d) (ho : EvV T X o σ H (.ref dd)) (hi : EvD T X i σ H (keyDs ks)) (t : TD X.prog X.w X.K H dd kvt) (hz : kvt.length < 100000)
    (q : ∀ v H', Chg T [dd] H H' → DT X.K H' v d → TD X.prog X.w X.K H' dd (putK kvt ks v) → wS X rest D σ H') (hs : swapsWith value (some (.Subscript o i p')) pos.line X.env = pure false := by rfl) : wS X (.Assign [.Subscript o i p'] value pos :: rest) D σ H :=
  wS_cons (ps_putT (T := T) c hs) (hv H .refl _ fun v H1 c1 hvd => ho H1 c1 _ fun H2 c2 => hi H2 (c1.trans c2) _ fun y H3 c3 hy => by
    obtain ⟨p, e, sq⟩ := dt_key hy
    have c4 := (c1.trans c2).trans c3
    exact ⟨dd, kvt, ks, p, rfl, e, t.keep c4 (by simp), sq, hz, fun H' cg t' => q v H' (c4.then_ cg) (cg.dt (c3.dt (c2.dt hvd))) t'⟩)
/-! ### attributes -/
theorem ev_fld {C dx : Addr} {fs : List (Str × V)} {f : Str} {m : Addr} (ha : EvV T X a σ H (.ref m)) (hm : H m = some (.ins C dx fs)) (hc : Cls X.K C) (hn : NoAttr X.K C f) (hl : fs.lookup f = some v) (hb : attributeBase a f X.env (eval a X.env) = eval a X.env := by rfl) : EvV T X (.Attribute a f pos) σ H v := fun H1 c1 Q q =>
  wE.of (pe_fld peW hb) (ha H1 c1 _ fun H2 c2 => ⟨m, C, dx, fs, v, rfl, (c1.trans c2).get hm, hc, hn, hl, q H2 c2⟩)
end
end K7
/-! ## K7G -/
set_option Elab.async false
set_option linter.all false
set_option maxRecDepth 100000
set_option maxHeartbeats 4000000
/-! The small defs: kinds, operands, rows, where steps lead. -/
namespace K7
open PySem PySem.Spec PyProof.Rows L2
section
variable {T : List (Addr × Str)} {X : Cx} {σ : L2.St} {H : Hp} {e : Expr} {D : Ends} {rest : List Stmt} {pos : Pos} {n : Nat}
/-- a, b = e -/
theorem ws_unp2 (i j : Nat) {x y : Str} {p1 p2 pt : Pos} {kt : Nat} {d1 d2 : PyData} (c : Cok n X) (h : EvD T X e σ H (.tuple [d1, d2])) (q : ∀ v1 v2 H1, Ex T H H1 → DT X.K H1 v1 d1 → DT X.K H1 v2 d2 → wS X rest D ((σ.set i (some v1)).set j (some v2)) H1)
    (hi : X.N[i]? = some x := by rfl) (hj : X.N[j]? = some y := by rfl) (hx : Loc X.env.scope x := by first | exact Or.inl rfl | exact Or.inr rfl) (hy : Loc X.env.scope y := by first | exact Or.inl rfl | exact Or.inr rfl)
    (hfx : X.fn x = true ∨ X.env.scope.names.lookup x = some .local := by first | exact .inl rfl | exact .inr rfl) (hfy : X.fn y = true ∨ X.env.scope.names.lookup y = some .local := by first | exact .inl rfl | exact .inr rfl)
    (hs : swapsWithSole [.Tuple [.Name x p1, .Name y p2] kt pt] e pos.line X.env = pure false := by rfl) (hw : swappedStores [.Tuple [.Name x p1, .Name y p2] kt pt] e X.env = pure none := by rfl) :
    wS X (.Assign [.Tuple [.Name x p1, .Name y p2] kt pt] e pos :: rest) D σ H :=
  wS_cons (ps_asg peW (pg_tup (n := 2) c.calm (pgs_cons (pg_name c.nd hi hx hfx) (pgs_cons (pg_name c.nd hj hy hfy) pgs_nil))) hs hw (by rfl)) (h H .refl _ fun v H1 c1 hv => by
    obtain ⟨a, xs, e1, sq, hxs⟩ := hv.inv_tup
    obtain ⟨v1, v2, e2, h1, h2⟩ := hxs.inv2
    subst e1
    subst e2
    exact ⟨a, _, rfl, sq.t, rfl, v1, _, rfl, v2, _, rfl, rfl, q v1 v2 H1 c1 h1 h2⟩)
theorem ws_unp3 (i j k : Nat) {x y z : Str} {p1 p2 p3 pt : Pos} {kt : Nat} {d1 d2 d3 : PyData} (c : Cok n X) (h : EvD T X e σ H (.tuple [d1, d2, d3])) (q : ∀ v1 v2 v3 H1, Ex T H H1 → DT X.K H1 v1 d1 → DT X.K H1 v2 d2 → DT X.K H1 v3 d3 → wS X rest D (((σ.set i (some v1)).set j (some v2)).set k (some v3)) H1)
    (hi : X.N[i]? = some x := by rfl) (hj : X.N[j]? = some y := by rfl) (hk : X.N[k]? = some z := by rfl) (hx : Loc X.env.scope x := by first | exact Or.inl rfl | exact Or.inr rfl) (hy : Loc X.env.scope y := by first | exact Or.inl rfl | exact Or.inr rfl) (hz : Loc X.env.scope z := by first | exact Or.inl rfl | exact Or.inr rfl)
    (hfx : X.fn x = true ∨ X.env.scope.names.lookup x = some .local := by first | exact .inl rfl | exact .inr rfl) (hfy : X.fn y = true ∨ X.env.scope.names.lookup y = some .local := by first | exact .inl rfl | exact .inr rfl) (hfz : X.fn z = true ∨ X.env.scope.names.lookup z = some .local := by first | exact .inl rfl | exact .inr rfl)
    (hs : swapsWithSole [.Tuple [.Name x p1, .Name y p2, .Name z p3] kt pt] e pos.line X.env = pure false := by rfl) (hw : swappedStores [.Tuple [.Name x p1, .Name y p2, .Name z p3] kt pt] e X.env = pure none := by rfl) :
    wS X (.Assign [.Tuple [.Name x p1, .Name y p2, .Name z p3] kt pt] e pos :: rest) D σ H :=
  wS_cons (ps_asg peW (pg_tup (n := 3) c.calm (pgs_cons (pg_name c.nd hi hx hfx) (pgs_cons (pg_name c.nd hj hy hfy) (pgs_cons (pg_name c.nd hk hz hfz) pgs_nil)))) hs hw (by rfl)) (h H .refl _ fun v H1 c1 hv => by
    obtain ⟨a, xs, e1, sq, hxs⟩ := hv.inv_tup
    obtain ⟨v1, v2, v3, e2, h1, h2, h3⟩ := hxs.inv3
    subst e1
    subst e2
    exact ⟨a, _, rfl, sq.t, rfl, v1, _, rfl, v2, _, rfl, v3, _, rfl, rfl, q v1 v2 v3 H1 c1 h1 h2 h3⟩)
end

/-! ### a code's routines and objects as dicts -/
def rtsL (c : Code) : List (Key × PyData) := c.rts.map fun r => (.inr r.1, .tuple (r.2.map Blk.d))
def obsL (c : Code) : List (Key × PyData) := c.objs.map fun p => (.inr p.1, .int p.2)
theorem rtsL_d (c : Code) : (rtsL c).map (fun e => PyData.tuple [kD e.1, e.2]) = c.rts.map rtD := by unfold rtsL rtD; rw [List.map_map]; rfl
theorem obsL_d (c : Code) : (obsL c).map (fun e => PyData.tuple [kD e.1, e.2]) = c.objs.map obD := by unfold obsL obD; rw [List.map_map]; rfl
theorem look_map {α : Type} (f : α → PyData) (k : Str) : ∀ l : List (Str × α), lookD (l.map fun p => ((Sum.inr p.1 : Key), f p.2)) (.inr k) = ((l.find? fun p => decide (p.1 = k)).map (·.2)).map f
  | [] => rfl
  | p :: l => by
    unfold lookD
    rw [List.map_cons, List.find?_cons, List.find?_cons]
    by_cases h : p.1 = k
    · simp [h]
    · have e1 : decide ((Sum.inr p.1 : Key) = .inr k) = false := decide_eq_false (fun z => h (Sum.inr.inj z))
      rw [e1, decide_eq_false h]
      exact look_map f k l
theorem rtsL_look (c : Code) (r : Str) : lookD (rtsL c) (.inr r) = (c.blks r).map fun bs => .tuple (bs.map Blk.d) := look_map (fun bs : List Blk => .tuple (bs.map Blk.d)) r c.rts
theorem obsL_look (c : Code) (w : Str) : lookD (obsL c) (.inr w) = (c.size w).map fun n => .int (n : Int) := look_map (fun n : Nat => .int (n : Int)) w c.objs
theorem nd_inr {l : List Str} (h : l.Nodup) : (l.map fun x => (Sum.inr x : Key)).Nodup := by
  unfold List.Nodup at h ⊢
  rw [List.pairwise_map]
  exact h.imp fun q z => q (Sum.inr.inj z)
theorem OkCode.rnd {c : Code} (o : OkCode c) : (c.rts.map (·.1)).Nodup := by
  rcases o.rn with h | h | h <;> rw [h] <;> decide +kernel
theorem OkCode.rlen {c : Code} (o : OkCode c) : c.rts.length ≤ 3 := by
  have e : (c.rts.map (·.1)).length = c.rts.length := List.length_map ..
  rcases o.rn with h | h | h <;> (rw [← e, h]; decide)
theorem OkCode.rtsN {c : Code} (o : OkCode c) : ((rtsL c).map (·.1)).Nodup := by
  have := nd_inr o.rnd
  unfold rtsL
  rw [List.map_map] at this ⊢
  exact this
theorem OkCode.obsN {c : Code} (o : OkCode c) : ((obsL c).map (·.1)).Nodup := by
  have := nd_inr o.nd
  unfold obsL
  rw [List.map_map] at this ⊢
  exact this
theorem OkCode.rtsZ {c : Code} (o : OkCode c) : (rtsL c).length ≤ 1000 := by unfold rtsL; rw [List.length_map]; have := o.rlen; omega
theorem OkCode.obsZ {c : Code} (o : OkCode c) : (obsL c).length ≤ 1000 := by unfold obsL; rw [List.length_map]; have := o.len; omega
section
variable {T : List (Addr × Str)} {X : Cx} {σ : L2.St} {H : Hp} {e i : Expr} {n : Nat} {p pos pos' : Pos}
/-- dict(code[1])[r] -/
theorem ed_rt {c : Code} {r : Str} {bs : List Blk} (k : Cok n X) (B : Blt X.mg) (oc : OkCode c) (he : EvD T X e σ H (.tuple (c.rts.map rtD))) (hi : EvD T X i σ H (.str r)) (hb : c.blks r = some bs) (hg : Gl X "dict" := by rfl) (h1 : starEach [e] X.env = (false, eval e X.env) :: starEach [] X.env := by rfl) (hs : NoSl i := by exact fun _ _ => rfl) :
    EvD T X (.Subscript (.Call (.Name "dict" p) [e] [] pos) i pos') σ H (.tuple (bs.map Blk.d)) :=
  ed_getK k (rtsL c) (fun H1 c1 Q q => wE_dictK (l := rtsL c) (T := T) k B.dict ((he.mono c1).is (by rw [rtsL_d])) oc.rtsN oc.rtsZ (fun r H2 kvs _ c2 h2 hk => q r H2 kvs c2 h2 hk) hg h1) hi (by rw [rtsL_look, hb]; rfl) hs
/-- dict(code[0])[w] -/
theorem ed_sz {c : Code} {w : Str} {m : Nat} (k : Cok n X) (B : Blt X.mg) (oc : OkCode c) (he : EvD T X e σ H (.tuple (c.objs.map obD))) (hi : EvD T X i σ H (.str w)) (hb : c.size w = some m) (hg : Gl X "dict" := by rfl) (h1 : starEach [e] X.env = (false, eval e X.env) :: starEach [] X.env := by rfl) (hs : NoSl i := by exact fun _ _ => rfl) :
    EvD T X (.Subscript (.Call (.Name "dict" p) [e] [] pos) i pos') σ H (.int m) :=
  ed_getK k (obsL c) (fun H1 c1 Q q => wE_dictK (l := obsL c) (T := T) k B.dict ((he.mono c1).is (by rw [obsL_d])) oc.obsN oc.obsZ (fun r H2 kvs _ c2 h2 hk => q r H2 kvs c2 h2 hk) hg h1) hi (by rw [obsL_look, hb]; rfl) hs
end
section
variable {P : Program} {w : World} {K : PySem.W.Frag} {mg : Str → Option Value} {base : Heap} {T : List (Addr × Str)}
/-! ### row_there -/
theorem sc_row_there : FnScope ["code", "place", "rows", "end"] ["code", "place"] (defScope (top 33)) := ⟨rfl, rfl, rfl, by decide +kernel, rfl, by decide +kernel, by decide +kernel⟩
theorem row_inv {c : Code} {p : Plc} {op : Op} (h : c.row p = some op) : ∃ bs b, c.blks p.r = some bs ∧ bs[p.b]? = some b ∧ (if p.k < b.1.length then b.1[p.k]? else some b.2) = some op := by
  unfold Code.row Code.blk at h
  cases h1 : c.blks p.r with
  | none => rw [h1] at h; cases h
  | some bs =>
    cases h2 : bs[p.b]? with
    | none => rw [h1] at h; simp only [Option.bind_some, h2] at h; cases h
    | some b => rw [h1] at h; simp only [Option.bind_some, h2] at h; exact ⟨bs, b, rfl, h2, h⟩
theorem atI_map {α : Type} {f : α → PyData} {l : List α} {i : Nat} {x : α} (h : l[i]? = some x) : atI (l.map f) (i : Int) = some (f x) := atI_nat (by rw [List.getElem?_map, h]; rfl)
theorem g_row_there (F : At K mg "row_there" 33) (B : Blt mg) : GDef P w K mg base 1 "row_there" (spF K T (fun a : Code × Plc × Op => [a.1.d, a.2.1.d]) (fun a => OkCode a.1 ∧ a.1.row a.2.1 = some a.2.2) fun a d => d = a.2.2.d) := by
  refine F.okF sc_row_there (fun _ _ _ _ _ _ us hl => match us, hl with | [_, _], _ => rfl) (fun _ => rfl) fun f cdv Ar outer s H vs Q a k hp hv q => ?_
  obtain ⟨c, p, op⟩ := a
  obtain ⟨oc, hrow⟩ := hp
  obtain ⟨v1, v2, rfl, h1, h2⟩ := hv.inv2
  obtain ⟨bs, b, e1, e2, e3⟩ := row_inv hrow
  refine ws_unp2 (T := T) 2 3 (d1 := .tuple (b.1.map Op.d)) (d2 := b.2.d) k (ed_ix (ed_rt k B oc (ed_at1 (ed_name 0 h1)) (ed_at0 (ed_name 1 h2)) e1) (ed_at1 (ed_name 1 h2)) (atI_map (f := Blk.d) e2)) fun v3 v4 H1 c1 h3 h4 => ?_
  refine ws_ret (T := T) (d := op.d) (ed_if (k := decide ((p.k : Int) < ((b.1.map Op.d).length : Int))) (et_cmp (ec_lt (ed_at2 (ed_name 1 (c1.dt h2))) (ed_lenT B.len (ed_name 2 h3)))) (fun z => ?_) (fun z => ?_)) fun v H2 c2 hd => q v H2 _ (c1.trans c2) rfl hd
  · have z' : p.k < b.1.length := by have := of_decide_eq_true z; rw [List.length_map] at this; omega
    rw [if_pos z'] at e3
    exact ed_ix (ed_name 2 h3) (ed_at2 (ed_name 1 (c1.dt h2))) (atI_map (f := Op.d) e3)
  · have z' : ¬ p.k < b.1.length := by have := of_decide_eq_false z; rw [List.length_map] at this; omega
    rw [if_neg z'] at e3
    cases e3
    exact ed_name 3 h4
end
end K7
/-! ## K7H -/
set_option Elab.async false
set_option linter.all false
set_option maxRecDepth 100000
set_option maxHeartbeats 4000000
/-! Rules: comprehensions and loops over any walk, repr, in. -/
namespace K7
open PySem PySem.Spec PyProof.Rows L2
section
variable {T : List (Addr × Str)} {X : Cx} {σ : L2.St} {H : Hp} {e a b : Expr} {d : PyData} {D : Ends} {rest : List Stmt} {pos : Pos} {n : Nat} {Q : VK}
/-- an iterable, what it is to give weakened -/
def wiM (wi : TI) (σ : L2.St) (H : Hp) : TI := fun σ0 H0 R => σ0 = σ ∧ H0 = H ∧ ∃ R0 : It → Hp → Prop, wi σ H R0 ∧ ∀ J H1, R0 J H1 → R J H1
theorem piM {tg iter : Expr} {wi : TI} (hi : PI X tg iter wi) : PI X tg iter (wiM wi σ H) := ⟨fun pins s σ0 H0 R I ⟨e1, e2, R0, q, k⟩ => by
  subst e1
  subst e2
  refine thn (hi.run pins s σ0 H0 R0 I q) fun v s1 h1 => thn h1 fun itv s2 h2 => ?_
  obtain ⟨it, fp, tn, J, H2, e, I2, T, st2, f2, w⟩ := h2
  exact ⟨it, fp, tn, J, H2, e, I2, T, st2, f2, k J H2 w⟩⟩
/-- a for over any walk -/
theorem ws_for {tg iter : Expr} {body : List Stmt} {wi : TI} {g : TG} (c : Cok n X) (hi : PI X tg iter wi) (hg : PG X tg g) (h : wi σ H fun J H1 => ∃ (m : Nat) (G : Hp → Prop) (Y : Nat → Hp → V → Hp → Prop), Walk J m G Y ∧ ∃ Pv : Nat → L2.St → Hp → Prop, Pv 0 σ H1 ∧ (∀ i σ2 H2, Pv i σ2 H2 → G H2) ∧
      (∀ i x σ2 H2 H3, i < m → Pv i σ2 H2 → Y i H2 x H3 → g x σ2 H3 fun σ4 H4 => wS X body { D with nx := Pv (i + 1), ct := Pv (i + 1), bk := wS X rest D } σ4 H4) ∧ ∀ σ2 H2, Pv m σ2 H2 → wS X rest D σ2 H2)
    (hp : PassesOwn (model X.prog X.w) X.A X.env X.xe := by exact PassesOwn.never) (hs : ∀ x, foldedSetIterable iter X.env x = pure x := by intro _; rfl) : wS X (.For tg iter body [] pos :: rest) D σ H := by
  refine wS_cons (ps_for hp c.calm (piM hi) hg pssW hs) ⟨rfl, rfl, _, h, fun J H1 ⟨m, G, Y, w, Pv, h0, hG, turn, fin⟩ => ?_⟩
  exact for_it w Pv h0 (fun i σ2 H2 _ p => hG i σ2 H2 p) (fun i x σ2 H2 H3 hi2 p y => turn i x σ2 H2 H3 hi2 p y) fin
/-- a comprehension over any walk: inv by the turn, what has been made, the heap; S: what its turns may change -/
theorem wE_lc {tg iter elt : Expr} {ifs : List Expr} {scope : Scope} {own : List (Str × Nat)} {wi : TI} {g : TG} {tt : TT} (c : Cok n X) (ok : BlkOk X.N X.env.scope scope own) (hi : PI X tg iter wi)
    (hg : ∀ (s : Shared) (Hs : Hp) (C : Addr) (cl : List (Str × Addr)) (fp : List Addr), PG (X.blk s Hs scope (compEnvC scope cl C X.env) fp) tg g)
    (ht : ∀ (s : Shared) (Hs : Hp) (C : Addr) (cl : List (Str × Addr)) (fp : List Addr), PTs (X.blk s Hs scope (compEnvC scope cl C X.env) fp) ifs tt)
    (h : wi σ H fun J H1 => ∃ (m : Nat) (G : Hp → Prop) (Y : Nat → Hp → V → Hp → Prop), Walk J m G Y ∧ ∃ (inv : Nat → List V → Hp → Prop) (S : List Addr), inv 0 [] H1 ∧ (∀ x ∈ S, H1 x ≠ none) ∧
      (∀ D i vs H2 H3, H1 D = none → inv i vs H2 → Chg T [D] H2 H3 → inv i vs H3) ∧ (∀ i vs H2, inv i vs H2 → G H2 ∧ vs.length ≤ 100000) ∧
      (∀ i vs x H2 H3, i < m → inv i vs H2 → Y i H2 x H3 → ∀ (Out : V → Hp → Prop) (Skip : Hp → Prop), (∀ y H6, Chg T S H2 H6 → inv (i + 1) (vs ++ [y]) H6 → Out y H6) → (∀ H5, Chg T S H2 H5 → inv (i + 1) vs H5 → Skip H5) →
        g x (wipe σ (own.map (·.2))) H3 fun σ2 H4 => wipe σ2 (own.map (·.2)) = wipe σ (own.map (·.2)) ∧ tt σ2 H4 fun b H5 => if b = true then bE X scope elt σ2 H5 Out else Skip H5) ∧
      ∀ D vs H2, H1 D = none → Chg T S H1 H2 → H2 D = some (.lst vs) → inv m vs H2 → Q (.ref D) H2)
    (hs : ∀ x, foldedSetIterable iter X.env x = pure x := by intro _; rfl) : wE X (.ListComp elt [⟨tg, iter, ifs, 0⟩] scope pos) σ H Q := by
  refine wE.of (pe_lc (wi := wiM wi σ H) (tt := tt) (g := g) (te := bE X scope elt) c.calm c.nd (piM hi) ok hg ht peB hs) ⟨rfl, rfl, _, h, fun J H1 ⟨m, G, Y, w, inv, S, h0, hS, stab, hG, turn, fin⟩ D hD => ?_⟩
  have nS : D ∉ S := fun z => hS D z hD
  refine lc_it w (Qd := fun H' => Q (.ref D) H') (fun i H' => ∃ vs, Chg T S H1 H' ∧ H' D = some (.lst vs) ∧ inv i vs H') ⟨[], .new hD, upd_same, stab D 0 [] _ _ hD h0 (.new hD)⟩ (fun i H' _ ⟨vs, _, _, hv⟩ => (hG i vs H' hv).1) (fun i x H2 H3 hi2 ⟨vs, c2, hl, hv⟩ y => ?_) fun H' ⟨vs, c2, hl, hv⟩ => fin D vs H' hD c2 hl hv
  refine turn i vs x H2 H3 hi2 hv y (fun y H6 => ∃ acc, H6 D = some (.lst acc) ∧ acc.length < sizeLine ∧ ∃ vs, Chg T S H1 (upd H6 D (.lst (acc ++ [y]))) ∧ (upd H6 D (.lst (acc ++ [y]))) D = some (.lst vs) ∧ inv (i + 1) vs (upd H6 D (.lst (acc ++ [y])))) (fun H' => ∃ vs, Chg T S H1 H' ∧ H' D = some (.lst vs) ∧ inv (i + 1) vs H') (fun y H6 c6 hv6 => ?_) fun H5 c5 hv5 => ⟨vs, c2.trans c5, c5.get hl nS, hv5⟩
  have g6 := c6.get hl nS
  have c7 : Chg T [D] H6 (upd H6 D (.lst (vs ++ [y]))) := .set g6 wr_lst (by simp)
  refine ⟨vs, g6, small5 (hG i vs H2 hv).2, vs ++ [y], ?_, upd_same, stab D _ _ _ _ hD hv6 c7⟩
  refine Chg.fresh' .refl (((c2.trans c6).mono fun b hb => List.mem_cons_of_mem D hb).trans (c7.mono (S' := D :: S) fun b hb => by rw [List.mem_singleton.mp hb]; exact List.mem_cons_self ..)) fun x hx => ?_
  rcases List.mem_cons.mp hx with q | q
  · exact .inr (q ▸ hD)
  · exact .inl q
end
end K7
/-! ## K7I -/
set_option Elab.async false
set_option linter.all false
set_option maxRecDepth 100000
set_option maxHeartbeats 4000000
/-! is_word, amount, met_cell, led, is_spot, is_step, need_way. -/
namespace K7
open PySem PySem.Spec PyProof.Rows L2
section
variable {T : List (Addr × Str)} {X : Cx} {σ : L2.St} {H : Hp} {e a b c : Expr} {d : PyData} {D : Ends} {rest : List Stmt} {pos : Pos} {n : Nat} {Q : VK}
theorem EvD.go {H1 : Hp} (h : EvD T X e σ H d) (c : Ex T H H1) (q : ∀ v H2, Ex T H1 H2 → DT X.K H2 v d → Q v H2) : wE X e σ H1 Q := h H1 c Q q
theorem EvV.go {v : V} {H1 : Hp} (h : EvV T X e σ H v) (c : Ex T H H1) (q : ∀ H2, Ex T H1 H2 → Q v H2) : wE X e σ H1 Q := h H1 c Q q
theorem EvR.go {R : PyData → Prop} {H1 : Hp} (h : EvR T X e σ H R) (c : Ex T H H1) (q : ∀ v H2 d, Ex T H1 H2 → R d → DT X.K H2 v d → Q v H2) : wE X e σ H1 Q := h H1 c Q q
/-! ### globals -/
theorem ed_gi {x : Str} {i : Int} {t : Tok} {p : Pos} (hm : X.mg x = some (.int i t)) (hg : Gl X x := by rfl) (hd : (x == ("__debug__" : Str)) = false := by decide) : EvD T X (.Name x p) σ H (.int i) := ed_glob hg hm (v := .int i) ⟨t, rfl⟩ (.int i) hd
theorem ed_gs {x : Str} {i : Str} {t : Tok} {p : Pos} (hm : X.mg x = some (.str i t)) (hg : Gl X x := by rfl) (hd : (x == ("__debug__" : Str)) = false := by decide) : EvD T X (.Name x p) σ H (.str i) := ed_glob hg hm (v := .str i) ⟨t, rfl⟩ (.str i) hd
theorem ed_gr {x : Str} {r : Addr} {p : Pos} (hm : X.mg x = some (.ref r)) (h : DT X.K H (.ref r) d) (hg : Gl X x := by rfl) (hd : (x == ("__debug__" : Str)) = false := by decide) : EvD T X (.Name x p) σ H d := ed_glob hg hm (v := .ref r) rfl h hd
/-! ### chains -/
theorem et_chainLL {i j k : Int} (ha : EvD T X a σ H (.int i)) (hb : EvD T X b σ H (.int j)) (hc : EvD T X c σ H (.int k)) (hm : lastMarks [.LtE, .LtE] [b, c] = false := by with_unfolding_all rfl) : EvT T X (.Compare a [.LtE, .LtE] [b, c] pos) σ H (decide (i ≤ j) && decide (j ≤ k)) := fun H1 c1 Q q =>
  wT.of (pt_chain op_le op_le peW peW peW hm) (ha H1 c1 _ fun x H2 c2 hx => hb H2 (c1.trans c2) _ fun y H3 c3 hy => by
    rw [hx.inv_int, hy.inv_int]
    refine ⟨i, j, rfl, rfl, _, rfl, ?_⟩
    cases h : decide (i ≤ j) with
    | true => exact hc H3 ((c1.trans c2).trans c3) _ fun z H4 c4 hz => ⟨j, k, rfl, hz.inv_int, _, rfl, by rw [h] at q; exact q H4 ((c2.trans c3).trans c4)⟩
    | false => exact ⟨false, rfl, by rw [h] at q; exact q H3 (c2.trans c3)⟩)
theorem et_chainLt {i j k : Int} (ha : EvD T X a σ H (.int i)) (hb : EvD T X b σ H (.int j)) (hc : decide (i ≤ j) = true → EvD T X c σ H (.int k)) (hm : lastMarks [.LtE, .Lt] [b, c] = false := by with_unfolding_all rfl) : EvT T X (.Compare a [.LtE, .Lt] [b, c] pos) σ H (decide (i ≤ j) && decide (j < k)) := fun H1 c1 Q q =>
  wT.of (pt_chain op_le op_lt peW peW peW hm) (ha H1 c1 _ fun x H2 c2 hx => hb H2 (c1.trans c2) _ fun y H3 c3 hy => by
    rw [hx.inv_int, hy.inv_int]
    refine ⟨i, j, rfl, rfl, _, rfl, ?_⟩
    cases h : decide (i ≤ j) with
    | true => exact hc h H3 ((c1.trans c2).trans c3) _ fun z H4 c4 hz => ⟨j, k, rfl, hz.inv_int, _, rfl, by rw [h] at q; exact q H4 ((c2.trans c3).trans c4)⟩
    | false => exact ⟨false, rfl, by rw [h] at q; exact q H3 (c2.trans c3)⟩)
/-! ### a, b = x, y -/
theorem ws_par2 (i j : Nat) {x y : Str} {p1 p2 pt pt2 : Pos} {kt k2 : Nat} {d1 d2 : PyData} (c0 : Cok n X) (h : EvA T X [a, b] σ H [d1, d2]) (q : ∀ v1 v2 H1, Ex T H H1 → DT X.K H1 v1 d1 → DT X.K H1 v2 d2 → wS X rest D ((σ.set i (some v1)).set j (some v2)) H1)
    (hi : X.N[i]? = some x := by rfl) (hj : X.N[j]? = some y := by rfl) (hij : i ≠ j := by decide) (hx : X.env.scope.names.lookup x = some .local := by rfl) (hy : X.env.scope.names.lookup y = some .local := by rfl)
    (hw : swappedStores [.Tuple [.Name x p1, .Name y p2] kt pt] (.Tuple [a, b] k2 pt2) X.env = pure (some [x, y]) := by rfl) (hs : swapsWithSole [.Tuple [.Name x p1, .Name y p2] kt pt] (.Tuple [a, b] k2 pt2) pos.line X.env = pure false := by rfl) :
    wS X (.Assign [.Tuple [.Name x p1, .Name y p2] kt pt] (.Tuple [a, b] k2 pt2) pos :: rest) D σ H :=
  wS_cons (ps_par c0.calm c0.nd hi hj hij hx hy paW hw hs) (h H .refl _ fun vs H1 c1 hv => by
    obtain ⟨v1, v2, e1, h1, h2⟩ := hv.inv2
    exact ⟨v1, v2, e1, q v1 v2 H1 c1 h1 h2⟩)
end
/-! ### the module's constants -/
def lettersS : Str := "abcdefghijklmnopqrstuvwxyz"
structure Mods (K : PySem.W.Frag) (mg : Str → Option Value) : Prop where
  letters : ∃ t, mg "LETTERS" = some (.str lettersS t)
  longest : ∃ t, mg "LONGEST" = some (.int 8 t)
  main : ∃ a, mg "MAIN" = some (.ref a) ∧ ∀ H : Hp, DT K H (.ref a) main.d
section
variable {P : Program} {w : World} {K : PySem.W.Frag} {mg : Str → Option Value} {base : Heap} {T : List (Addr × Str)}
/-! ### is_word -/
theorem sc_is_word : FnScope ["thing", "sign"] ["thing"] (defScope (top 4)) := ⟨rfl, rfl, rfl, by decide +kernel, rfl, by decide +kernel, by decide +kernel⟩
def plainW (x : Str) : Prop := 1 ≤ x.length ∧ x.length ≤ 8 ∧ ∀ c ∈ x.cps.toList, c ∈ lettersS.cps.toList
def isStr : PyData → Bool
  | .str _ => true
  | _ => false
theorem dts_rep {H : Hp} : ∀ n : Nat, DTs K H (List.replicate n (V.bl true)) (List.replicate n (PyData.bool true))
  | 0 => .nil
  | n + 1 => .cons (.bl true) (dts_rep n)
theorem g_is_word (F : At K mg "is_word" 4) (B : Blt mg) (M : Mods K mg) : GDef P w K mg base 1 "is_word" (spF K T (fun d : PyData => [d]) (fun d => (∃ i, d = .int i) ∨ ∃ x, d = .str x ∧ plainW x) fun a d => d = .bool (isStr a)) := by
  refine F.okF sc_is_word (fun _ _ _ _ _ _ us hl => match us, hl with | [_], _ => rfl) (fun _ => rfl) fun f cdv Ar outer s H vs Q a k hp hv q => ?_
  obtain ⟨v, rfl, h1⟩ := hv.inv1
  obtain ⟨tl, hlet⟩ := M.letters
  obtain ⟨tg, hlong⟩ := M.longest
  rcases hp with ⟨i, rfl⟩ | ⟨x, rfl, p1, p2, p3⟩
  · refine ws_when (T := T) (k := true) (et_or (k := true) (k2 := true) (et_not (k := false) (et_val (ed_isi (ty := "int") B.isinstance B.str (ed_name 0 h1) rfl (by decide +kernel)))) fun z => by cases z) (fun _ H1 c1 => ?_) fun z => by cases z
    exact ws_ret (T := T) (d := .bool false) ed_bl fun v H2 c2 hd => q v H2 _ (c1.trans c2) rfl hd
  · refine ws_when (T := T) (k := false) (et_or (k := false) (k2 := false) (et_not (k := true) (et_val (ed_isi (ty := "str") B.isinstance B.str (ed_name 0 h1) rfl (by decide +kernel)))) fun _ => et_not (k := true) ((et_chainLL ed_int (ed_lenS B.len (ed_name 0 h1) (by omega)) (ed_gi hlong)).is ?_)) (fun z => by cases z) (fun _ H1 c1 => ?_)
    · have e1 : decide ((1 : Int) ≤ (x.length : Int)) = true := decide_eq_true (by omega)
      have e2 : decide ((x.length : Int) ≤ 8) = true := decide_eq_true (by omega)
      rw [e1, e2]; rfl
    · refine ws_ret (T := T) (d := .bool ((List.replicate x.cps.size true).all id)) (ed_all k B.all fun H2 c2 Q2 q2 => ?_) fun v H2 c2 hd => q v H2 _ (c1.trans c2) (by simp [isStr]) hd
      refine wE_lc (T := T) (own := [("sign", 1)]) (tt := tYes) (g := gName 1) k (blkOk_by rfl) (pi_str peW) (fun s Hs C cl fp => pg_name (blkC_ok k).nd rfl (.inl rfl) (.inr rfl)) (fun _ _ _ _ _ => pts_nil) (EvD.go (T := T) (ed_name 0 h1) (c1.trans c2) fun u H3 c3 hu => ⟨x, hu.inv_str, x.cps.size, _, _, walk_str, fun i vs H' => Ex T H2 H' ∧ vs = (List.replicate i (V.bl true)) ∧ i ≤ x.cps.size, [], ⟨c3, rfl, Nat.zero_le _⟩, fun x z => absurd z (by simp), ?_, ?_, ?_, ?_⟩)
      · exact fun D i vs H3 H4 hD ⟨c4, e, hle⟩ c5 => ⟨Chg.fresh (S := [D]) c4 c5 (fun x hx => by rw [List.mem_singleton.mp hx]; exact c3.back D hD), e, hle⟩
      · exact fun i vs H3 ⟨_, e, hle⟩ => ⟨True.intro, by rw [e, List.length_replicate]; exact Nat.le_trans hle (Nat.le_trans p2 (by decide))⟩
      · intro i vs v H3 H4 hi ⟨c4, e, hle⟩ ⟨e4, ch, hch, ev⟩ Out Skip hO hS
        subst e4
        subst ev
        refine ⟨rfl, ?_⟩
        show bE _ _ _ _ H4 Out
        intro s' Hs C cl fp
        have hin : ch ∈ lettersS.cps.toList := p3 ch (by
          have := List.mem_of_getElem? (l := x.cps.toList) (i := i) (a := ch) (by simpa using hch)
          exact this)
        refine wE.of (pe_cmpR op_in_sign peW peW (by rfl)) (EvV.go (T := T) (ev_name 1 rfl rfl (Or.inl rfl)) .refl fun H5 c5 => EvD.go (T := T) (ed_gs hlet) .refl fun v2 H6 c6 hv2 => ⟨ch, lettersS, rfl, hv2.inv_str, hO _ H6 (c5.trans c6) ⟨(c4.trans c5).trans c6, ?_, hi⟩⟩)
        rw [decide_eq_true hin, e, List.replicate_succ']
      · intro D vs H3 hD c4 hl ⟨c5, e, _⟩
        refine q2 D H3 vs ((List.replicate x.cps.size true).map .bool) (c3.back D hD) c5 hl rfl ?_ (by rw [e, List.length_replicate]; exact Nat.le_trans p2 (by decide))
        rw [e, List.map_replicate]
        exact dts_rep _
end
end K7
/-! ## K7J -/
set_option Elab.async false
set_option linter.all false
set_option maxRecDepth 100000
set_option maxHeartbeats 4000000
/-! amount, met_cell; the machine's state. -/
namespace K7
open PySem PySem.Spec PyProof.Rows L2
/-- the machine's names -/
def amt (nm : Str → Option Int) : Opd → Int
  | .num i => i
  | .nm x => (nm x).getD 0
def metCell (c : Code) (nm : Str → Option Int) (a : Adr) : Option Cell :=
  if 0 ≤ amt nm a.pick ∧ amt nm a.pick < (a.objs.length : Int) then
    match a.objs[(amt nm a.pick).toNat]? with
    | some w => match c.size w with
      | some n => if 0 ≤ amt nm a.ix ∧ amt nm a.ix < (n : Int) then some (w, (amt nm a.ix).toNat) else none
      | none => none
    | none => none
  else none
structure NmAt (H : Hp) (dd : Addr) (L : Nat) (nm : Str → Option Int) : Prop where
  ex : ∃ kvs, H dd = some (.dK kvs) ∧ kvs.length ≤ L ∧ ∀ x, valV kvs (.inr x) = (nm x).map V.int
theorem NmAt.keep {T : List (Addr × Str)} {S : List Addr} {H H' : Hp} {dd : Addr} {L : Nat} {nm : Str → Option Int} (h : NmAt H dd L nm) (c : Chg T S H H') (hS : dd ∉ S := by simp) : NmAt H' dd L nm := by
  obtain ⟨kvs, h1, h2⟩ := h.ex
  exact ⟨kvs, c.get h1 hS, h2⟩
def Opd.v : Opd → V
  | .num i => .int i
  | .nm x => .str x
theorem Opd.dt {K : PySem.W.Frag} {H : Hp} (o : Opd) : DT K H o.v o.d := match o with
  | .num i => .int i
  | .nm x => .str x
theorem Opd.dv {K : PySem.W.Frag} {H : Hp} {o : Opd} {v : V} (h : DT K H v o.d) : v = o.v := match o, h with
  | .num i, h => h.inv_int
  | .nm x, h => h.inv_str
section
variable {T : List (Addr × Str)} {X : Cx} {σ : L2.St} {H : Hp} {e a b c : Expr} {d : PyData} {D : Ends} {rest : List Stmt} {pos : Pos} {n : Nat} {Q : VK} {v w : V}
theorem er_cf {A : Type} {enc : A → List PyData} {pre : A → Prop} {R : A → PyData → Prop} {j n : Nat} {x : Str} {p pos : Pos} {es : List Expr} (G : GDef X.prog X.w X.K X.mg X.base j x (spF X.K T enc pre R)) (c : Cok n X) (a : A) (ha : EvA T X (e :: es) σ H (enc a)) (hp : pre a) (hk : j ≤ n := by omega) (hg : Gl X x := by rfl)
    (hdb : (x == ("__debug__" : Str)) = false := by decide) (he : starEach (e :: es) X.env = (false, eval e X.env) :: starEach es X.env := by rfl) (hpl : (backTo pos (starEach es X.env)).any (·.1) = false := by rfl) :
    EvR T X (.Call (.Name x p) (e :: es) [] pos) σ H (R a) := er_callF G c hk hg a ha hp hdb he hpl
theorem ed_cf {A : Type} {enc : A → List PyData} {pre : A → Prop} {R : A → PyData → Prop} {j n : Nat} {x : Str} {p pos : Pos} {es : List Expr} (G : GDef X.prog X.w X.K X.mg X.base j x (spF X.K T enc pre R)) (c : Cok n X) (a : A) (ha : EvA T X (e :: es) σ H (enc a)) (hp : pre a) (hk : j ≤ n := by omega) (hg : Gl X x := by rfl)
    (hdb : (x == ("__debug__" : Str)) = false := by decide) (he : starEach (e :: es) X.env = (false, eval e X.env) :: starEach es X.env := by rfl) (hpl : (backTo pos (starEach es X.env)).any (·.1) = false := by rfl) (hR : ∀ d', R a d' → d' = d := by intro _ h; exact h) :
    EvD T X (.Call (.Name x p) (e :: es) [] pos) σ H d := (er_callF G c hk hg a ha hp hdb he hpl).dat hR
theorem evA2 (h1 : EvV T X a σ H v) (h2 : EvV T X b σ H w) {H1 : Hp} (c1 : Ex T H H1) {Q : List V → Hp → Prop} (q : ∀ H2, Ex T H1 H2 → Q [v, w] H2) (hs : starEach [a, b] X.env = (false, eval a X.env) :: starEach [b] X.env := by rfl) (hs2 : starEach [b] X.env = (false, eval b X.env) :: starEach [] X.env := by rfl) : wA X [a, b] σ H1 Q :=
  wA_cons (h1 H1 c1 _ fun H2 c2 => wA_cons (h2 H2 (c1.trans c2) _ fun H3 c3 => wA_nil (q H3 (c2.trans c3))) hs2) hs
theorem EvD.opd {o : Opd} (h : EvD T X e σ H o.d) : EvV T X e σ H o.v := fun H1 c Q q => h H1 c Q fun v H2 c2 hv => by rw [Opd.dv hv]; exact q H2 c2
theorem ev_get2 {o f : Expr} {apos cpos : Pos} {kvs : List (Key × V)} {x : Str} {dd : Addr} (c : Cok n X) (ho : EvV T X o σ H (.ref dd)) (he : EvD T X e σ H (.str x)) (hf : EvV T X f σ H v) (t : H dd = some (.dK kvs)) (m : M2 X o "get" apos e f cpos := by exact ⟨rfl, rfl, rfl, rfl⟩) :
    EvV T X (.Call (.Attribute o "get" apos) [e, f] [] cpos) σ H ((valV kvs (.inr x)).getD v) := fun H1 c1 Q q =>
  wE.of (pe_dget2 c.hu peW peW peW m) (ho H1 c1 _ fun H2 c2 => ⟨dd, rfl, .inl ⟨_, .inl ((c1.trans c2).get t)⟩, he H2 (c1.trans c2) _ fun y H3 c3 hy => hf H3 ((c1.trans c2).trans c3) _ fun H4 c4 => ⟨_, by
    rw [hy.inv_str]
    exact DGet.k (k := .inr x) ((((c1.trans c2).trans c3).trans c4).get t), q H4 ((c2.trans c3).trans c4)⟩⟩)
end
section
variable {P : Program} {w : World} {K : PySem.W.Frag} {mg : Str → Option Value} {base : Heap} {T : List (Addr × Str)}
/-! ### amount -/
theorem sc_amount : FnScope ["operand", "numbers"] ["operand", "numbers"] (defScope (top 6)) := ⟨rfl, rfl, rfl, by decide +kernel, rfl, by decide +kernel, by decide +kernel⟩
def spAmt (T : List (Addr × Str)) : Sp' := fun vs H Q => ∃ (o : Opd) (dd : Addr) (L : Nat) (nm : Str → Option Int), vs = [o.v, .ref dd] ∧ NmAt H dd L nm ∧ ∀ H', Ex T H H' → Q (.int (amt nm o)) H'
theorem isNum_opd (o : Opd) : (∃ i, o.d = .int i) ∨ ∃ x, o.d = .str x := match o with
  | .num i => .inl ⟨i, rfl⟩
  | .nm x => .inr ⟨x, rfl⟩
theorem g_amount (F : At K mg "amount" 6) (G : GDef P w K mg base 1 "is_number" (spF K T (fun d : PyData => [d]) (fun d => (∃ i, d = .int i) ∨ ∃ x, d = .str x) fun a d => d = .bool (isNum a))) : GDef P w K mg base 2 "amount" (spAmt T) := by
  refine F.ok sc_amount (fun _ _ _ _ _ _ us hl => match us, hl with | [_, _], _ => rfl) (fun vs H Q ⟨o, dd, L, nm, e, _⟩ => by rw [e]; rfl) fun f cdv Ar outer s H vs Q k ⟨o, dd, L, nm, e, h1, q⟩ => ?_
  subst e
  obtain ⟨kvs, hk, _, hv⟩ := h1.ex
  refine ws_retV (T := T) (v := .int (amt nm o)) (EvD.val (ed_if (T := T) (k := isNum o.d) (et_val (ed_cf G k o.d (ea_cons (ed_name 0 o.dt) ea_nil) (isNum_opd o))) (fun z => ?_) fun z => ?_)) q
  · cases o with
    | num i => exact ed_name 0 (.int i)
    | nm x => cases z
  · cases o with
    | num i => cases z
    | nm x =>
      have e : (valV kvs (.inr x)).getD (V.int 0) = .int (amt nm (.nm x)) := by
        rw [hv x]
        show _ = V.int ((nm x).getD 0)
        cases nm x <;> rfl
      exact ((ev_get2 k (ev_name 1) (ed_name 0 (.str x)) (EvD.val ed_int) hk).dat (by rw [e]; exact .int _))
/-- a call of it -/
theorem ed_amt {X : Cx} {σ : L2.St} {H : Hp} {a b : Expr} {n : Nat} {p pos : Pos} (G : GDef X.prog X.w X.K X.mg X.base 2 "amount" (spAmt T)) (c : Cok n X) (hk : 2 ≤ n) {o : Opd} {dd : Addr} {L : Nat} {nm : Str → Option Int} (ha : EvD T X a σ H o.d) (hb : EvV T X b σ H (.ref dd)) (h : NmAt H dd L nm) (hg : Gl X "amount" := by rfl)
    (he : starEach [a, b] X.env = (false, eval a X.env) :: starEach [b] X.env := by rfl) (he2 : starEach [b] X.env = (false, eval b X.env) :: starEach [] X.env := by rfl) (hpl : (backTo pos (starEach [b] X.env)).any (·.1) = false := by rfl) : EvD T X (.Call (.Name "amount" p) [a, b] [] pos) σ H (.int (amt nm o)) := fun H1 c1 Q q =>
  wE_call G c hk hg (evA2 ha.opd hb c1 (fun H2 c2 => ⟨o, dd, L, nm, rfl, h.keep (c1.trans c2), fun H3 c3 => q _ H3 (c2.trans c3) (.int _)⟩) he he2) (by decide) he hpl
/-! ### met_cell -/
theorem sc_met_cell : FnScope ["code", "address", "numbers", "objects", "pick", "index", "place", "at"] ["code", "address", "numbers"] (defScope (top 7)) := ⟨rfl, rfl, rfl, by decide +kernel, rfl, by decide +kernel, by decide +kernel⟩
def cellD : Option Cell → PyData
  | none => .none
  | some c => c.d
def spMet (K : PySem.W.Frag) (T : List (Addr × Str)) : Sp' := fun vs H Q => ∃ (c : Code) (a : Adr) (v1 v2 : V) (dd : Addr) (L : Nat) (nm : Str → Option Int), vs = [v1, v2, .ref dd] ∧ DT K H v1 c.d ∧ DT K H v2 a.d ∧ OkCode c ∧ OkAdr c a ∧ NmAt H dd L nm ∧ ∀ v H', Ex T H H' → DT K H' v (cellD (metCell c nm a)) → Q v H'
theorem g_met_cell (F : At K mg "met_cell" 7) (B : Blt mg) (G : GDef P w K mg base 2 "amount" (spAmt T)) : GDef P w K mg base 3 "met_cell" (spMet K T) := by
  refine F.ok sc_met_cell (fun _ _ _ _ _ _ us hl => match us, hl with | [_, _, _], _ => rfl) (fun vs H Q ⟨c, a, v1, v2, dd, L, nm, e, _⟩ => by rw [e]; rfl) fun f cdv Ar outer s H vs Q k ⟨c, a, v1, v2, dd, L, nm, e, h1, h2, oc, oa, hn, q⟩ => ?_
  subst e
  refine ws_unp3 (T := T) 3 4 5 k (ed_name 1 h2) fun w1 w2 w3 H1 c1 g1 g2 g3 => ?_
  refine ws_par2 (T := T) 6 7 k (ea_cons (ed_amt G k (Nat.le_refl _) (ed_name 4 g2) (ev_name 2) (hn.keep c1)) (ea_cons (ed_amt G k (Nat.le_refl _) (ed_name 5 g3) (ev_name 2) (hn.keep c1)) ea_nil)) fun u1 u2 H2 c2 f1 f2 => ?_
  have d3 : Ex T H H2 := c1.trans c2
  by_cases hp : 0 ≤ amt nm a.pick ∧ amt nm a.pick < (a.objs.length : Int)
  · obtain ⟨w', hw'⟩ : ∃ w', a.objs[(amt nm a.pick).toNat]? = some w' := ⟨_, List.getElem?_eq_getElem (by omega)⟩
    obtain ⟨m, hm⟩ := oa.there w' (List.mem_of_getElem? hw')
    have e1 : (decide (0 ≤ amt nm a.pick) && decide (amt nm a.pick < ((a.objs.map PyData.str).length : Int))) = true := by rw [List.length_map, decide_eq_true hp.1, decide_eq_true hp.2]; rfl
    have hix : atI (a.objs.map PyData.str) (amt nm a.pick) = some (.str w') := by
      have := atI_map (f := PyData.str) hw'
      rw [Int.toNat_of_nonneg hp.1] at this
      exact this
    have emet : metCell c nm a = if 0 ≤ amt nm a.ix ∧ amt nm a.ix < (m : Int) then some (w', (amt nm a.ix).toNat) else none := by
      unfold metCell
      rw [if_pos hp, hw']
      show (match c.size w' with | some n => _ | none => none) = _
      rw [hm]
    refine ws_when (T := T) (k := false || !(decide (0 ≤ amt nm a.ix) && decide (amt nm a.ix < (m : Int)))) (et_or (k := false) ((et_not ((et_chainLt ed_int (ed_name 6 f1) fun _ => ed_lenT B.len (ed_name 3 (c2.dt g1))).is e1)).is rfl) fun z => et_not (et_chainLt ed_int (ed_name 7 f2) fun _ => ed_sz k B oc (ed_at0 (ed_name 0 (d3.dt h1))) (ed_ix (ed_name 3 (c2.dt g1)) (ed_name 6 f1) hix) hm)) (fun z H3 c3 => ?_) fun z H3 c3 => ?_
    · refine ws_ret (T := T) ed_non fun v H4 c4 hd => q v H4 ((d3.trans c3).trans c4) ?_
      rw [emet, if_neg (fun ⟨z1, z2⟩ => by rw [decide_eq_true z1, decide_eq_true z2] at z; cases z)]
      exact hd
    · have z1 : 0 ≤ amt nm a.ix ∧ amt nm a.ix < (m : Int) := by simpa using z
      refine ws_ret (T := T) (d := .tuple [.str w', .int (amt nm a.ix)]) (ed_tup (ea_cons (ed_ix (ed_name 3 (c3.dt (c2.dt g1))) (ed_name 6 (c3.dt f1)) hix) (ea_cons (ed_name 7 (c3.dt f2)) ea_nil))) fun v H4 c4 hd => q v H4 ((d3.trans c3).trans c4) ?_
      rw [emet, if_pos z1]
      show DT K H4 v (.tuple [.str w', .int ((amt nm a.ix).toNat : Int)])
      rw [Int.toNat_of_nonneg z1.1]
      exact hd
  · have e1 : (decide (0 ≤ amt nm a.pick) && decide (amt nm a.pick < ((a.objs.map PyData.str).length : Int))) = false := by
      rw [List.length_map]
      cases h : (decide (0 ≤ amt nm a.pick) && decide (amt nm a.pick < (a.objs.length : Int))) with
      | false => rfl
      | true => exact absurd (by simpa using h) hp
    have emet : metCell c nm a = none := by unfold metCell; rw [if_neg hp]
    refine ws_when (T := T) (k := true || true) (et_or (k := true) ((et_not ((et_chainLt ed_int (ed_name 6 f1) fun _ => ed_lenT B.len (ed_name 3 (c2.dt g1))).is e1)).is rfl) fun z => by cases z) (fun z H3 c3 => ?_) fun z => by cases z
    refine ws_ret (T := T) ed_non fun v H4 c4 hd => q v H4 ((d3.trans c3).trans c4) ?_
    rw [emet]
    exact hd
end
end K7
/-! ## K7K -/
set_option Elab.async false
set_option linter.all false
set_option maxRecDepth 100000
set_option maxHeartbeats 4000000
/-! Slices, concatenation; led, is_spot, is_step, need_way. -/
namespace K7
open PySem PySem.Spec PyProof.Rows L2
section
variable {T : List (Addr × Str)} {X : Cx} {σ : L2.St} {H : Hp} {e a b c : Expr} {d : PyData} {ds es : List PyData} {D : Ends} {rest : List Stmt} {pos p2 : Pos} {n : Nat} {Q : VK} {v w : V}
theorem ed_neg {i : Int} (h : EvD T X a σ H (.int i)) : EvD T X (.UnaryOp .USub a pos) σ H (.int (-i)) := fun H1 c Q q => wE.of (pe_un un_neg peW) (h H1 c _ fun v H2 c2 hv => ⟨i, hv.inv_int, q _ H2 c2 (.int _)⟩)
theorem ed_catT (ha : EvD T X a σ H (.tuple ds)) (hb : EvD T X b σ H (.tuple es)) (hz : ds.length + es.length ≤ 100000) : EvD T X (.BinOp a .Add b pos) σ H (.tuple (ds ++ es)) := fun H1 c Q q =>
  wE.of (pe_op op_catP peW peW) (ha H1 c _ fun x H2 c2 hx => hb H2 (c.trans c2) _ fun y H3 c3 hy => by
    obtain ⟨p, xs, rfl, hs, hxs⟩ := (c3.dt hx).inv_tup
    obtain ⟨p2, ys, rfl, hs2, hys⟩ := hy.inv_tup
    refine ⟨p, p2, xs, ys, rfl, rfl, hs.t, hs2.t, by rw [hxs.len, hys.len]; exact Nat.le_of_lt (small5 hz), fun z => ?_, fun z1 z2 => ?_, fun z1 z2 p' o hp ho => q _ _ ((c2.trans c3).trans (.new hp)) (.new hp ho (hxs.app hys))⟩
    · subst z
      cases hxs
      exact q _ H3 (c2.trans c3) (.tup hs2 hys)
    · subst z2
      cases hys
      rw [List.append_nil] at q
      exact q _ H3 (c2.trans c3) (.tup hs hxs))
/-! ### slices -/
def cutD (ds : List PyData) (lo hi : Option Int) : List PyData := (ds.drop (HT.sIx ds.length 0 lo)).take (HT.sIx ds.length ds.length hi - HT.sIx ds.length 0 lo)
def wO (X : Cx) (e : Option Expr) : TO := fun σ H Q => ∀ (pins : List (Addr × Obj)) (s : Shared), Inv X pins σ H s → wpAny (model X.prog X.w) X.A (evalPart e X.env) (fun u s' => ∃ o H', Inv X pins σ H' s' ∧ IsPart u o ∧ Q o H') X.xe s
theorem poW {e : Option Expr} : PO X e (wO X e) := ⟨fun pins s _ _ _ I h => h pins s I⟩
def EvO (T : List (Addr × Str)) (X : Cx) (e : Option Expr) (σ : L2.St) (H : Hp) (o : Option Int) : Prop := ∀ H1, Ex T H H1 → ∀ Q : Option Int → Hp → Prop, (∀ H2, Ex T H1 H2 → Q o H2) → wO X e σ H1 Q
theorem eo_none : EvO T X none σ H none := fun H1 c Q q pins s I => po_none.run pins s σ H1 Q I (q H1 .refl)
theorem eo_some {i : Int} (h : EvD T X e σ H (.int i)) : EvO T X (some e) σ H (some i) := fun H1 c Q q pins s I => (po_some peW).run pins s σ H1 Q I (h H1 c _ fun v H2 c2 hv => ⟨i, hv.inv_int, q H2 c2⟩)
theorem ed_slT {lo hi : Option Expr} {l u : Option Int} (ha : EvD T X a σ H (.tuple ds)) (hl : EvO T X lo σ H l) (hu : EvO T X hi σ H u) : EvD T X (.Subscript a (.Slice lo hi none p2) pos) σ H (.tuple (cutD ds l u)) := fun H1 c Q q =>
  wE.of (pe_slice sl_tupP peW poW poW) (ha H1 c _ fun x H2 c2 hx => hl H2 (c.trans c2) _ fun H3 c3 => hu H3 ((c.trans c2).trans c3) _ fun H4 c4 => by
    obtain ⟨p, xs, rfl, hs, hxs⟩ := ((c3.trans c4).dt hx).inv_tup
    have hc : DTs X.K H4 (cutV xs l u) (cutD ds l u) := by
      unfold cutV cutD
      rw [hxs.len]
      exact (hxs.drop _).take _
    refine ⟨p, xs, rfl, hs.t, fun ⟨z1, z2⟩ => ?_, fun _ p' o hp ho => q _ _ (((c2.trans c3).trans c4).trans (.new hp)) (.new hp ho hc)⟩
    have e : cutD ds l u = ds := by
      unfold cutD
      rw [← hxs.len, z1, z2, List.drop_zero, Nat.sub_zero, hxs.len, List.take_length]
    rw [e] at q
    exact q _ H4 ((c2.trans c3).trans c4) (.tup hs hxs))
end
section
variable {P : Program} {w : World} {K : PySem.W.Frag} {mg : Str → Option Value} {base : Heap} {T : List (Addr × Str)}
abbrev spRow (K : PySem.W.Frag) (T : List (Addr × Str)) : Sp' := spF K T (fun a : Code × Plc × Op => [a.1.d, a.2.1.d]) (fun a => OkCode a.1 ∧ a.1.row a.2.1 = some a.2.2) fun a d => d = a.2.2.d
/-! ### led -/
theorem sc_led : FnScope ["code", "place", "choice", "calls", "row"] ["code", "place", "choice", "calls"] (defScope (top 35)) := ⟨rfl, rfl, rfl, by decide +kernel, rfl, by decide +kernel, by decide +kernel⟩
def ledD (p : Plc) (ch : Chc) (calls : List Plc) (op : Op) : PyData := .tuple [optD (led p ch calls op).1, plcsD (led p ch calls op).2]
def rn3 : List Str := ["f", "ff", "main"]
structure PreLed (a : Code × Plc × Op × Chc × List Plc) : Prop where
  ok : OkCode a.1
  row : a.1.row a.2.1 = some a.2.2.1
  ch : ∀ o b1 b2, a.2.2.1 = .iff o b1 b2 → ∃ b, a.2.2.2.1 = .blk b
  z : a.2.2.2.2.length ≤ 1000
  rn : ∀ p ∈ a.2.2.2.2, p.r ∈ rn3
theorem w_call {op : Op} (h : op.word = "call") : ∃ r, op = .call r := by
  cases op with
  | call r => exact ⟨r, rfl⟩
  | _ => exfalso; simp only [Op.word] at h; revert h; decide
theorem w_back {op : Op} (h : op.word = "back") : op = .back := by
  cases op with
  | back => rfl
  | _ => exfalso; simp only [Op.word] at h; revert h; decide
theorem w_go {op : Op} (h : op.word = "go") : ∃ r, op = .go r := by
  cases op with
  | go r => exact ⟨r, rfl⟩
  | _ => exfalso; simp only [Op.word] at h; revert h; decide
theorem w_if {op : Op} (h : op.word = "if") : ∃ o b1 b2, op = .iff o b1 b2 := by
  cases op with
  | iff o b1 b2 => exact ⟨o, b1, b2, rfl⟩
  | _ => exfalso; simp only [Op.word] at h; revert h; decide
theorem w_load {op : Op} (h : op.word = "load") : ∃ x a, op = .load x a := by
  cases op with
  | load x a => exact ⟨x, a, rfl⟩
  | _ => exfalso; simp only [Op.word] at h; revert h; decide
theorem w_store {op : Op} (h : op.word = "store") : ∃ a o, op = .store a o := by
  cases op with
  | store a o => exact ⟨a, o, rfl⟩
  | _ => exfalso; simp only [Op.word] at h; revert h; decide
theorem w_touch {op : Op} (h : op.word = "touch") : ∃ a, op = .touch a := by
  cases op with
  | touch a => exact ⟨a, rfl⟩
  | _ => exfalso; simp only [Op.word] at h; revert h; decide
theorem canLay_all : ∀ {ds : List PyData}, (∀ d ∈ ds, d.canLay0 = true) → PyData.canLayAll0 ds = true
  | [], _ => by simp only [PyData.canLayAll0]
  | d :: ds, h => by
    simp only [PyData.canLayAll0, Bool.and_eq_true]
    exact ⟨h d (List.mem_cons_self ..), canLay_all fun e he => h e (List.mem_cons_of_mem _ he)⟩
theorem depth_all {k : Nat} : ∀ {ds : List PyData}, (∀ d ∈ ds, d.depth ≤ k) → PyData.depthAll ds ≤ k
  | [], _ => by simp only [PyData.depthAll]; exact Nat.zero_le _
  | d :: ds, h => by
    simp only [PyData.depthAll]
    exact Nat.max_le.mpr ⟨h d (List.mem_cons_self ..), depth_all fun e he => h e (List.mem_cons_of_mem _ he)⟩
theorem shaped_tup {ds : List PyData} (h : ∀ d ∈ ds, d.canLay0 = true) (h2 : ∀ d ∈ ds, d.depth ≤ 63) : SeqAt.shaped (.tuple ds) = true := by
  unfold SeqAt.shaped
  rw [Bool.and_eq_true]
  refine ⟨by simp only [PyData.canLay0]; exact canLay_all h, decide_eq_true ?_⟩
  simp only [PyData.depth]
  have := depth_all h2
  omega
theorem plc_lay {p : Plc} (h : p.r ∈ rn3) : p.d.canLay0 = true ∧ p.d.depth ≤ 1 := by
  have e : PyData.strOk p.r = true := by
    have : ∀ x ∈ rn3, PyData.strOk x = true := by decide +kernel
    exact this _ h
  unfold Plc.d
  constructor
  · simp only [PyData.canLay0, PyData.canLayAll0, e]; rfl
  · simp [PyData.depth, PyData.depthAll]
theorem plc_shaped {p : Plc} (h : p.r ∈ rn3) : SeqAt.shaped p.d = true := by
  unfold SeqAt.shaped
  rw [Bool.and_eq_true]
  exact ⟨(plc_lay h).1, decide_eq_true (Nat.le_trans (plc_lay h).2 (by decide))⟩
theorem shaped_plcs {l : List Plc} (h : ∀ p ∈ l, p.r ∈ rn3) : SeqAt.shaped (plcsD l) = true := by
  refine shaped_tup (fun d hd => ?_) fun d hd => ?_
  · obtain ⟨p, hp, rfl⟩ := List.mem_map.mp hd
    exact (plc_lay (h p hp)).1
  · obtain ⟨p, hp, rfl⟩ := List.mem_map.mp hd
    exact Nat.le_trans (plc_lay (h p hp)).2 (by decide)
theorem eqv_nil (l : List PyData) : PyData.eqv (.tuple l) (.tuple []) = l.isEmpty := by cases l <;> simp [PyData.eqv, PyData.eqvAll]
theorem cut_init (l : List PyData) : cutD l none (some (-1)) = l.dropLast := by
  have e : HT.sIx l.length l.length (some (-1)) = l.length - 1 := by
    unfold HT.sIx
    simp only [show (-1 : Int) < 0 from by decide, if_true]
    omega
  unfold cutD
  rw [HT.sIx_none, List.drop_zero, Nat.sub_zero, List.dropLast_eq_take, e]
theorem plcs_dropLast (l : List Plc) : (l.map Plc.d).dropLast = l.dropLast.map Plc.d := List.map_dropLast.symm
theorem g_led (F : At K mg "led" 35) (G : GDef P w K mg base 1 "row_there" (spRow K T)) : GDef P w K mg base 2 "led" (spF K T (fun a : Code × Plc × Op × Chc × List Plc => [a.1.d, a.2.1.d, a.2.2.2.1.d, plcsD a.2.2.2.2]) PreLed fun a d => d = ledD a.2.1 a.2.2.2.1 a.2.2.2.2 a.2.2.1) := by
  refine F.okF sc_led (fun _ _ _ _ _ _ us hl => match us, hl with | [_, _, _, _], _ => rfl) (fun _ => rfl) fun f cdv Ar outer s H vs Q ⟨c, p, op, ch, calls⟩ k hp hv q => ?_
  obtain ⟨oc, hrow, hch, hz, hrn⟩ := hp
  have hz : calls.length ≤ 1000 := hz
  cases hv with
  | cons h1 hv =>
  obtain ⟨v2, v3, v4, rfl, h2, h3, h4⟩ := hv.inv3
  refine ws_asg (T := T) 4 k (ed_cf G k (c, p, op) (ea_cons (ed_name 0 h1) (ea_cons (ed_name 1 h2) ea_nil)) ⟨oc, hrow⟩) fun v5 H1 c1 h5 => ?_
  refine ws_when (T := T) (k := decide (op.word = "call")) (et_cmp (ec_eqS (ed_at0 (ed_name 4 h5)) ed_str)) (fun z H2 c2 => ?_) fun z H2 c2 => ?_
  · obtain ⟨r, rfl⟩ := w_call (of_decide_eq_true z)
    exact ws_ret (T := T) (d := .tuple [.tuple [.str r, .int 0, .int 0], .tuple (calls.map Plc.d ++ [.tuple [.str p.r, .int p.b, .int (p.k + 1)]])]) (ed_tup (ea_cons (ed_tup (ea_cons (ed_at1 (ed_name 4 (c2.dt h5))) (ea_cons ed_int (ea_cons ed_int ea_nil)))) (ea_cons (ed_catT (ed_name 3 ((c1.trans c2).dt h4)) (ed_tup (ea_cons (ed_tup (ea_cons (ed_at0 (ed_name 1 ((c1.trans c2).dt h2))) (ea_cons (ed_at1 (ed_name 1 ((c1.trans c2).dt h2))) (ea_cons (ed_add (ed_at2 (ed_name 1 ((c1.trans c2).dt h2))) ed_int) ea_nil)))) ea_nil)) (by rw [List.length_map]; simp only [List.length_cons, List.length_nil]; omega)) ea_nil))) fun v H4 c4 hd => q v H4 _ ((c1.trans c2).trans c4) rfl (by
      have : ledD p ch calls (.call r) = .tuple [.tuple [.str r, .int 0, .int 0], .tuple (calls.map Plc.d ++ [.tuple [.str p.r, .int p.b, .int (p.k + 1)]])] := by
        unfold ledD led plcsD optD
        simp only [List.map_append, List.map_cons, List.map_nil]
        rfl
      rw [this]; exact hd)
  refine ws_when (T := T) (k := decide (op.word = "back")) (et_cmp (ec_eqS (ed_at0 (ed_name 4 (c2.dt h5))) ed_str)) (fun z3 H3 c3 => ?_) fun z3 H3 c3 => ?_
  · obtain rfl := w_back (of_decide_eq_true z3)
    have d3 := (c1.trans c2).trans c3
    refine ws_ret (T := T) (d := ledD p ch calls .back) (ed_if (k := calls.isEmpty) (et_cmp ((ec_eqD k (ed_name 3 (d3.dt h4)) (ed_tup ea_nil) (shaped_plcs hrn) (by decide)).is (by rw [plcsD, eqv_nil]; cases calls <;> rfl))) (fun e => ?_) fun e => ?_) fun v H4 c4 hd => q v H4 _ (d3.trans c4) rfl hd
    · cases calls with
      | nil => exact ed_tup (ds := [.none, .tuple []]) (ea_cons ed_non (ea_cons (ed_tup ea_nil) ea_nil))
      | cons x r => cases e
    · obtain ⟨init, l, rfl⟩ : ∃ init l, calls = init ++ [l] := by
        rcases List.eq_nil_or_concat calls with z | ⟨init, l, z⟩
        · rw [z] at e; cases e
        · exact ⟨init, l, by rw [z]; try simp⟩
      have eD : ledD p ch (init ++ [l]) .back = .tuple [l.d, .tuple (cutD ((init ++ [l]).map Plc.d) none (some (-1)))] := by
        unfold ledD led
        rw [List.getLast?_concat, cut_init, plcs_dropLast]
        rfl
      rw [eD]
      refine ed_tup (ea_cons (ed_ix (ed_name 3 (d3.dt h4)) (ed_neg ed_int) ?_) (ea_cons (ed_slT (ed_name 3 (d3.dt h4)) eo_none (eo_some (ed_neg ed_int))) ea_nil))
      rw [List.map_append]
      exact atI_last _ _
  have d3 := (c1.trans c2).trans c3
  refine ws_when (T := T) (k := decide (op.word = "go")) (et_cmp (ec_eqS (ed_at0 (ed_name 4 ((c2.trans c3).dt h5))) ed_str)) (fun z4 H4 c4 => ?_) fun z4 H4 c4 => ?_
  · obtain ⟨b, rfl⟩ := w_go (of_decide_eq_true z4)
    exact ws_ret (T := T) (d := ledD p ch calls (.go b)) (ed_tup (ea_cons (ed_tup (ea_cons (ed_at0 (ed_name 1 ((d3.trans c4).dt h2))) (ea_cons (ed_at1 (ed_name 4 (((c2.trans c3).trans c4).dt h5))) (ea_cons ed_int ea_nil)))) (ea_cons (ed_name 3 ((d3.trans c4).dt h4)) ea_nil))) fun v H5 c5 hd => q v H5 _ ((d3.trans c4).trans c5) rfl hd
  have d4 := d3.trans c4
  refine ws_when (T := T) (k := decide (op.word = "if")) (et_cmp (ec_eqS (ed_at0 (ed_name 4 (((c2.trans c3).trans c4).dt h5))) ed_str)) (fun z5 H5 c5 => ?_) fun z5 H5 c5 => ?_
  · obtain ⟨o5, b1, b2, rfl⟩ := w_if (of_decide_eq_true z5)
    obtain ⟨b, rfl⟩ := hch _ _ _ rfl
    exact ws_ret (T := T) (ed_tup (ea_cons (ed_tup (ea_cons (ed_at0 (ed_name 1 ((d4.trans c5).dt h2))) (ea_cons (ed_name 2 ((d4.trans c5).dt h3)) (ea_cons ed_int ea_nil)))) (ea_cons (ed_name 3 ((d4.trans c5).dt h4)) ea_nil))) fun v H6 c6 hd => q v H6 _ ((d4.trans c5).trans c6) rfl hd
  · have d5 := d4.trans c5
    refine ws_ret (T := T) (d := .tuple [.tuple [.str p.r, .int p.b, .int (p.k + 1)], plcsD calls]) (ed_tup (ea_cons (ed_tup (ea_cons (ed_at0 (ed_name 1 (d5.dt h2))) (ea_cons (ed_at1 (ed_name 1 (d5.dt h2))) (ea_cons (ed_add (ed_at2 (ed_name 1 (d5.dt h2))) ed_int) ea_nil)))) (ea_cons (ed_name 3 (d5.dt h4)) ea_nil))) fun v H6 c6 hd => q v H6 _ (d5.trans c6) rfl ?_
    cases op <;> first | exact hd | (exfalso; first | exact of_decide_eq_false z rfl | exact of_decide_eq_false z3 rfl | exact of_decide_eq_false z4 rfl | exact of_decide_eq_false z5 rfl)
end
end K7
/-! ## K7L -/
set_option Elab.async false
set_option linter.all false
set_option maxRecDepth 100000
set_option maxHeartbeats 4000000
/-! sorted over lists of data; append, extend; face, choices. -/
namespace K7
open PySem PySem.Spec PyProof.Rows L2
section
variable {T : List (Addr × Str)} {X : Cx} {σ : L2.St} {H : Hp} {e a b c o : Expr} {d : PyData} {ds es : List PyData} {D : Ends} {rest : List Stmt} {pos p2 : Pos} {n : Nat} {Q : VK} {v w : V}
theorem perm_map_inv {α β : Type} (f : α → β) {xs ys : List β} (h : xs.Perm ys) : ∀ L : List α, ys = L.map f → ∃ l : List α, xs = l.map f ∧ l.Perm L := by
  induction h with
  | nil => intro L e; cases L with
    | nil => exact ⟨[], rfl, .refl _⟩
    | cons a L => cases e
  | cons x h ih => intro L e; cases L with
    | nil => cases e
    | cons a L =>
      rw [List.map_cons] at e
      injection e with e1 e2
      obtain ⟨l, h1, h2⟩ := ih L e2
      exact ⟨a :: l, by rw [List.map_cons, ← h1, e1], h2.cons a⟩
  | swap x y l => intro L e; cases L with
    | nil => cases e
    | cons a L => cases L with
      | nil => rw [List.map_cons] at e; injection e with _ e2; cases e2
      | cons b L =>
        rw [List.map_cons, List.map_cons] at e
        injection e with e1 e2
        injection e2 with e2 e3
        exact ⟨b :: a :: L, by rw [List.map_cons, List.map_cons, ← e1, ← e2, ← e3], List.Perm.swap a b L⟩
  | trans h1 h2 ih1 ih2 =>
    intro L e
    obtain ⟨l, a1, a2⟩ := ih2 L e
    obtain ⟨l2, b1, b2⟩ := ih1 l a1
    exact ⟨l2, b1, b2.trans a2⟩
/-! ### sorted -/
theorem each_zip {pins : List (Addr × Obj)} {s : Shared} (I : Inv X pins σ H s) : ∀ {xs : List V} {us : List Value} {ds : List PyData}, DTs X.K H xs ds → Vals xs us →
    PySem.W.EachIs (fun u (b : V × PyData) => RelV b.1 u ∧ DT X.K H b.1 b.2) us (xs.zip ds) ∧ PySem.W.EachIs (fun u (b : V × PyData) => ∃ as, Reads s.heap u b.2 as) us (xs.zip ds)
  | _, _, _, .nil, r => by
    cases r
    exact ⟨.nil, .nil⟩
  | _, _, _, .cons h hs, r => by
    cases r with
    | cons r1 r2 =>
      obtain ⟨i1, i2⟩ := each_zip I hs r2
      exact ⟨.cons ⟨r1, h⟩ i1, .cons (h.dp.reads I _ _ _ r1) i2⟩
theorem each_back {K : PySem.W.Frag} : ∀ {us : List Value} {bs : List (V × PyData)}, PySem.W.EachIs (fun u (b : V × PyData) => RelV b.1 u ∧ DT K H b.1 b.2) us bs → Vals (bs.map (·.1)) us ∧ DTs K H (bs.map (·.1)) (bs.map (·.2))
  | _, _, .nil => ⟨.nil, .nil⟩
  | _, _, .cons h hs => by
    obtain ⟨i1, i2⟩ := each_back hs
    exact ⟨.cons h.1 i1, .cons h.2 i2⟩
theorem zip_snd {α β : Type} : ∀ {xs : List α} {ds : List β}, xs.length = ds.length → (xs.zip ds).map (·.2) = ds
  | [], [], _ => rfl
  | x :: xs, d :: ds, h => by
    rw [List.zip_cons_cons, List.map_cons, zip_snd (Nat.succ.inj h)]
theorem call_sortedD : CallR X (.builtin "sorted") (fun xs H Q => ∃ (l : Addr) (vs : List V) (ds : List PyData), xs = [.ref l] ∧ SqL X.K H l vs ∧ DTs X.K H vs ds ∧ PySem.W.AllAlike ds ∧ PySem.W.Sortable ds ∧ ds.length ≤ 100000 ∧ (∀ d ∈ ds, X.A.units + 2 + d.depth < cLine) ∧
    ∀ p vs' ds', H p = none → ds'.Perm ds → DTs X.K H vs' ds' → Q (.ref p) (upd H p (.lst vs'))) := by
  intro pins s σ H xs us Q I r h
  obtain ⟨l, vs, ds, e, hq, hd, al, so, hz, hu, q⟩ := h
  subst e
  obtain ⟨u, e, rx⟩ := vals1 r
  subst e
  cases rx
  obtain ⟨its, r', pl, _⟩ := I.list hq
  obtain ⟨e1, e2⟩ := each_zip I hd r'
  have hl : (vs.zip ds).map (·.2) = ds := zip_snd hd.len
  have hlen : (vs.zip ds).length = ds.length := by rw [← hl, List.length_map, hl]
  refine PySem.W.sorted_data (bs := vs.zip ds) (enc := (·.2)) pl.isList e1 e2 (by rw [hl]; exact al) (by rw [hl]; exact so) (by rw [hlen]; exact Nat.le_of_lt (small5 hz)) (fun b hb => hu _ (by rw [← hl]; exact List.mem_map.mpr ⟨b, hb, rfl⟩)) fun out ho eo => ?_
  obtain ⟨r2, d2⟩ := each_back eo
  obtain ⟨ep, hat⟩ := PyProof.Rows.sortedAll_at s.heap its out.toArray
  have pm := List.mergeSort_perm (vs.zip ds) (PySem.W.dataLe false (·.2))
  have hn := I.hok.fresh (Nat.le_succ s.heap.objs.size)
  refine ⟨.ref (s.heap.objs.size + 1), upd H (s.heap.objs.size + 1) (.lst _), I.laid (t' := s.toks) (fun _ _ => PyProof.Rows.sortedAll_old) (Nat.le_succ _) ⟨?_, out, ep, r2, hat⟩, rfl, q _ _ _ hn (by have := pm.map (·.2); rw [hl] at this; exact this) d2⟩
  rw [List.length_map, pm.length_eq, hlen]
  exact Nat.le_of_lt (small5 hz)
/-- sorted(a list at hand) -/
theorem el_sorted {l : Addr} {vs : List V} {p : Pos} (c : Cok n X) (hm : X.mg "sorted" = none) (h : EvV T X a σ H (.ref l)) (hl : H l = some (.lst vs)) (hd : DTs X.K H vs ds) (al : PySem.W.AllAlike ds) (so : PySem.W.Sortable ds) (hz : ds.length ≤ 100000) (hu : ∀ d ∈ ds, d.depth ≤ 60)
    (hg : Gl X "sorted" := by rfl) (h1 : starEach [a] X.env = (false, eval a X.env) :: starEach [] X.env := by rfl) : EvL T X (.Call (.Name "sorted" p) [a] [] pos) σ H (fun out => out.Perm ds) := fun H1 c1 Q q =>
  wE.of (pe_callB call_sortedD hg hm (by decide +kernel) (pa_cons peW pa_nil h1) (by decide) (by decide) h1 (by rfl)) (h H1 c1 _ fun H2 c2 => ⟨l, vs, ds, rfl, SqL.of ((c1.trans c2).get hl), (c1.trans c2).dts hd, al, so, hz, fun d hd' => by have := hu d hd'; have := c.hu64; omega,
    fun p vs' ds' hp pm hv => q p _ vs' ds' (c2.back p hp) (c2.trans (.new hp)) upd_same pm (Chg.dts (T := T) (S := []) (.new hp) hv) (by rw [hv.len, pm.length_eq]; exact hz)⟩)
/-! ### methods of lists -/
theorem small200 {a b : Nat} (h : a ≤ 100000) (h2 : b ≤ 100000) : a + b ≤ sizeLine := Nat.le_trans (Nat.add_le_add h h2) (by decide)
theorem tyL {K : PySem.W.Frag} {H : Hp} {l : Addr} {xs : List V} (h : H l = some (.lst xs)) : tyV K "list" (.ref l) H := .inl ⟨rfl, xs, SqL.of h⟩
theorem ws_append {l : Addr} {xs : List V} {R : PyData → Prop} {apos cpos : Pos} (ho : EvV T X o σ H (.ref l)) (hl : H l = some (.lst xs)) (hz : xs.length ≤ 100000) (he : EvR T X e σ H R)
    (q : ∀ v H1 d, Ex T H H1 → R d → DT X.K H1 v d → wS X rest D σ (upd H1 l (.lst (xs ++ [v])))) (hs : swapsWith (.Call (.Attribute o "append" apos) [e] [] cpos) none pos.line X.env = pure false := by rfl)
    (hbase : attributeBase o "append" X.env (eval o X.env) = eval o X.env := by rfl) (hline : (apos.endLine == cpos.line) = true := by rfl)
    (hfew : ((backTo cpos (starEach [e] X.env)).all (fun x => !x.1) && (backToKw cpos (keywordEach [] X.env)).all (fun x => x.1.isSome) && decide (([e]).length + ([] : List Keyword).length + (if ([] : List Keyword).isEmpty then 0 else 1) < 30)) = true := by rfl)
    (h1 : starEach [e] X.env = (false, eval e X.env) :: starEach [] X.env := by rfl) (h2 : (backTo cpos (starEach [] X.env)).any (·.1) = false := by rfl) : wS X (.Expr (.Call (.Attribute o "append" apos) [e] [] cpos) pos :: rest) D σ H :=
  wS_cons (ps_expr (pe_bm PySem.F.plainAttrs_list PySem.F.slot_list_append PySem.F.type_list_append mt_append peW (pa_cons peW pa_nil h1) hbase hfew hline h1 h2) hs) (ho H .refl _ fun H1 c1 => ⟨tyL (c1.get hl), he H1 c1 _ fun v H2 d c2 hr hd => ⟨l, xs, v, rfl, rfl, (c1.trans c2).get hl, small5 hz, q v H2 d (c1.trans c2) hr hd⟩⟩)
/-- l.extend(a new list) -/
theorem ws_extend {l : Addr} {xs : List V} {R : List PyData → Prop} {apos cpos : Pos} (ho : EvV T X o σ H (.ref l)) (hl : H l = some (.lst xs)) (hz : xs.length ≤ 100000) (he : EvL T X e σ H R)
    (q : ∀ vs H1 ds, Ex T H H1 → R ds → DTs X.K H1 vs ds → wS X rest D σ (upd H1 l (.lst (xs ++ vs)))) (hs : swapsWith (.Call (.Attribute o "extend" apos) [e] [] cpos) none pos.line X.env = pure false := by rfl)
    (hbase : attributeBase o "extend" X.env (eval o X.env) = eval o X.env := by rfl) (hline : (apos.endLine == cpos.line) = true := by rfl)
    (hfew : ((backTo cpos (starEach [e] X.env)).all (fun x => !x.1) && (backToKw cpos (keywordEach [] X.env)).all (fun x => x.1.isSome) && decide (([e]).length + ([] : List Keyword).length + (if ([] : List Keyword).isEmpty then 0 else 1) < 30)) = true := by rfl)
    (h1 : starEach [e] X.env = (false, eval e X.env) :: starEach [] X.env := by rfl) (h2 : (backTo cpos (starEach [] X.env)).any (·.1) = false := by rfl) : wS X (.Expr (.Call (.Attribute o "extend" apos) [e] [] cpos) pos :: rest) D σ H :=
  wS_cons (ps_expr (pe_bm PySem.F.plainAttrs_list PySem.F.slot_list_extend PySem.F.type_list_extend mt_extend peW (pa_cons peW pa_nil h1) hbase hfew hline h1 h2) hs) (ho H .refl _ fun H1 c1 => ⟨tyL (c1.get hl), he H1 c1 _ fun p H2 vs ds hp c2 hpl hr hd hz2 => ⟨l, p, xs, vs, rfl, rfl, (c1.trans c2).get hl, hpl, small200 hz hz2, q vs H2 ds (c1.trans c2) hr hd⟩⟩)
end
/-! ### loops and comprehensions over data -/
section
variable {T : List (Addr × Str)} {X : Cx} {σ : L2.St} {H : Hp} {e a b c o iter : Expr} {d : PyData} {ds es ss : List PyData} {D : Ends} {rest body : List Stmt} {pos p2 pt : Pos} {n : Nat} {Q : VK} {v w : V}
theorem EvL.go {R : List PyData → Prop} {H1 : Hp} (h : EvL T X e σ H R) (c : Ex T H H1) (q : ∀ p H2 vs ds, H1 p = none → Ex T H1 H2 → H2 p = some (.lst vs) → R ds → DTs X.K H2 vs ds → vs.length ≤ 100000 → Q (.ref p) H2) : wE X e σ H1 Q := h H1 c Q q
/-- for x in a tuple -/
theorem ws_forT (j : Nat) {x : Str} (c : Cok n X) (hi : EvD T X iter σ H (.tuple ss)) (h : ∀ H1, Ex T H H1 → ∃ Pv : Nat → L2.St → Hp → Prop, Pv 0 σ H1 ∧ (∀ i σ2 H2, Pv i σ2 H2 → Tk H1 H2) ∧
      (∀ i d v σ2 H2, ss[i]? = some d → Pv i σ2 H2 → DT X.K H2 v d → wS X body { D with nx := Pv (i + 1), ct := Pv (i + 1), bk := wS X rest D } (σ2.set j (some v)) H2) ∧ ∀ σ2 H2, Pv ss.length σ2 H2 → wS X rest D σ2 H2)
    (hN : X.N[j]? = some x := by rfl) (hx : Loc X.env.scope x := by first | exact Or.inl rfl | exact Or.inr rfl) (hf : X.fn x = true ∨ X.env.scope.names.lookup x = some .local := by first | exact .inl rfl | exact .inr rfl)
    (hp : PassesOwn (model X.prog X.w) X.A X.env X.xe := by exact PassesOwn.never) (hs : ∀ x, foldedSetIterable iter X.env x = pure x := by intro _; rfl) : wS X (.For (.Name x pt) iter body [] pos :: rest) D σ H :=
  ws_for c (pi_tup peW) (pg_name c.nd hN hx hf) (hi.go .refl fun v H1 c1 hv => by
    obtain ⟨a, xs, e, hq, hxs⟩ := hv.inv_tup
    subst e
    obtain ⟨Pv, h0, hk, ht, hd⟩ := h H1 c1
    refine ⟨a, rfl, ⟨xs, hq.t⟩, xs.length, _, _, walk_tup, Pv, h0, fun i σ2 H2 p => (hk i σ2 H2 p).sq hq.t, fun i x σ2 H2 H3 hi p ⟨e, hy⟩ => ?_, fun σ2 H2 p => hd σ2 H2 (by rw [← hxs.len]; exact p)⟩
    subst e
    obtain ⟨d, hd1, hd2⟩ := hxs.atV hy
    exact ht i d x σ2 H3 hd1 p (hd2.tk (hk i σ2 H3 p))) hp hs
/-- for x, y in a tuple of pairs -/
theorem ws_forT2 (j k : Nat) {x y : Str} {p1 p3 : Pos} {kt : Nat} (c : Cok n X) (hi : EvD T X iter σ H (.tuple ss)) (h : ∀ H1, Ex T H H1 → ∃ Pv : Nat → L2.St → Hp → Prop, Pv 0 σ H1 ∧ (∀ i σ2 H2, Pv i σ2 H2 → Tk H1 H2) ∧
      (∀ i d σ2 H2, ss[i]? = some d → Pv i σ2 H2 → ∃ d1 d2, d = .tuple [d1, d2] ∧ ∀ v1 v2, DT X.K H2 v1 d1 → DT X.K H2 v2 d2 → wS X body { D with nx := Pv (i + 1), ct := Pv (i + 1), bk := wS X rest D } ((σ2.set j (some v1)).set k (some v2)) H2) ∧ ∀ σ2 H2, Pv ss.length σ2 H2 → wS X rest D σ2 H2)
    (hN : X.N[j]? = some x := by rfl) (hx : Loc X.env.scope x := by first | exact Or.inl rfl | exact Or.inr rfl) (hf : X.fn x = true ∨ X.env.scope.names.lookup x = some .local := by first | exact .inl rfl | exact .inr rfl)
    (hN2 : X.N[k]? = some y := by rfl) (hx2 : Loc X.env.scope y := by first | exact Or.inl rfl | exact Or.inr rfl) (hf2 : X.fn y = true ∨ X.env.scope.names.lookup y = some .local := by first | exact .inl rfl | exact .inr rfl)
    (hp : PassesOwn (model X.prog X.w) X.A X.env X.xe := by exact PassesOwn.never) (hs : ∀ x, foldedSetIterable iter X.env x = pure x := by intro _; rfl) : wS X (.For (.Tuple [.Name x p1, .Name y p3] kt pt) iter body [] pos :: rest) D σ H :=
  ws_for c (pi_tup peW) (pg_tup (n := 2) c.calm (pgs_cons (pg_name c.nd hN hx hf) (pgs_cons (pg_name c.nd hN2 hx2 hf2) pgs_nil))) (hi.go .refl fun v H1 c1 hv => by
    obtain ⟨a, xs, e, hq, hxs⟩ := hv.inv_tup
    subst e
    obtain ⟨Pv, h0, hk, ht, hd⟩ := h H1 c1
    refine ⟨a, rfl, ⟨xs, hq.t⟩, xs.length, _, _, walk_tup, Pv, h0, fun i σ2 H2 p => (hk i σ2 H2 p).sq hq.t, fun i x σ2 H2 H3 hi p ⟨e, hy⟩ => ?_, fun σ2 H2 p => hd σ2 H2 (by rw [← hxs.len]; exact p)⟩
    subst e
    obtain ⟨d, hd1, hd2⟩ := hxs.atV hy
    obtain ⟨d1, d2, e2, go⟩ := ht i d σ2 H3 hd1 p
    have hd3 := hd2.tk (hk i σ2 H3 p)
    rw [e2] at hd3
    obtain ⟨b, ys, e3, hq2, hys⟩ := hd3.inv_tup
    obtain ⟨v1, v2, e4, g1, g2⟩ := hys.inv2
    subst e3
    subst e4
    exact ⟨b, _, rfl, hq2.t, rfl, v1, _, rfl, v2, _, rfl, rfl, go v1 v2 g1 g2⟩) hp hs
/-- a test of a comprehension, in whatever block -/
def bT (X : Cx) (scope : Scope) (elt : Expr) : TT := fun σ H Q => ∀ (s : Shared) (Hs : Hp) (C : Addr) (cl : List (Str × Addr)) (fp : List Addr), wT (X.blk s Hs scope (compEnvC scope cl C X.env) fp) elt σ H Q
theorem ptB {scope : Scope} {elt : Expr} (s : Shared) (Hs : Hp) (C : Addr) (cl : List (Str × Addr)) (fp : List Addr) : PT (X.blk s Hs scope (compEnvC scope cl C X.env) fp) elt (bT X scope elt) := ⟨fun pins s' σ' H' Q' I h => h s Hs C cl fp pins s' I⟩
/-- [elt for x in range(m) if test] over data -/
theorem el_lcR (j : Nat) {m : Nat} {x : Str} {test elt : Expr} {scope : Scope} {own : List (Str × Nat)} {p1 p3 : Pos} (f : Nat → Bool) (g : Nat → PyData) (c : Cok n X) (ok : BlkOk X.N X.env.scope scope own) (hmr : X.mg "range" = none) (hi : EvD T X a σ H (.int (m : Int))) (hm : m ≤ 100000)
    (hx : X.N[j]? = some x) (hlx : (relS scope X.env.scope).names.lookup x = some .local) (hw : ∀ v, wipe ((wipe σ (own.map (·.2))).set j v) (own.map (·.2)) = wipe σ (own.map (·.2)))
    (ht : ∀ (s : Shared) (Hs : Hp) (C : Addr) (cl : List (Str × Addr)) (fp : List Addr) (i : Nat) (H1 : Hp), i < m → Ex T H H1 → EvT T (X.blk s Hs scope (compEnvC scope cl C X.env) fp) test ((wipe σ (own.map (·.2))).set j (some (.int (i : Int)))) H1 (f i))
    (he : ∀ (s : Shared) (Hs : Hp) (C : Addr) (cl : List (Str × Addr)) (fp : List Addr) (i : Nat) (H1 : Hp), i < m → f i = true → Ex T H H1 → EvD T (X.blk s Hs scope (compEnvC scope cl C X.env) fp) elt ((wipe σ (own.map (·.2))).set j (some (.int (i : Int)))) H1 (g i))
    (hg : Gl X "range" := by rfl) (h1 : starEach [a] X.env = [(false, eval a X.env)] := by rfl) (hs : ∀ x, foldedSetIterable (.Call (.Name "range" p1) [a] [] p3) X.env x = pure x := by intro _; rfl) :
    EvL T X (.ListComp elt [⟨.Name x pt, .Call (.Name "range" p1) [a] [] p3, [test], 0⟩] scope pos) σ H (fun ds => ds = ((List.range m).filter f).map g) := fun H0 c0 Q q => by
  refine wE_lc (T := T) (own := own) (tt := bT X scope test) (g := gName j) c ok (pi_range1 hg hmr paW h1) (fun s Hs C cl fp => pg_name (blkC_ok c).nd hx (.inl hlx) (.inr hlx)) (fun s Hs C cl fp => pts_one (ptB s Hs C cl fp)) ?_ hs
  refine wA_cons (hi.go c0 fun u H1 c1 hu => wA_nil ⟨(m : Int), by rw [hu.inv_int], by omega, by omega, (m : Int).toNat, _, _, walk_range, fun i vs H' => Ex T H1 H' ∧ DTs X.K H' vs (((List.range i).filter f).map g) ∧ vs.length ≤ i ∧ i ≤ m, [], ⟨.refl, .nil, Nat.le_refl _, Nat.zero_le _⟩, fun x z => absurd z (by simp), ?_, ?_, ?_, ?_⟩) h1
  · exact fun D i vs H2 H3 hD ⟨c2, h2, h3, h4⟩ c4 => ⟨Chg.fresh (S := [D]) c2 c4 (fun x hx => by rw [List.mem_singleton.mp hx]; exact hD), c4.dts h2, h3, h4⟩
  · exact fun i vs H2 ⟨c2, h2, h3, h4⟩ => ⟨True.intro, by omega⟩
  · intro i vs y H2 H3 hi' ⟨c2, h2, h3, h4⟩ ⟨e1, e2⟩ Out Skip hO hS
    subst e1
    subst e2
    have hi2 : i < m := by have : i < (m : Int).toNat := hi'; omega
    have e0 : (0 : Int) + (i : Int) = i := by omega
    dsimp only
    rw [e0]
    refine ⟨hw _, ?_⟩
    show bT X scope test _ H3 _
    intro s Hs C cl fp
    refine ht s Hs C cl fp i H3 hi2 ((c0.trans c1).trans c2) H3 .refl _ fun H4 c4 => ?_
    have er : ((List.range (i + 1)).filter f).map g = ((List.range i).filter f).map g ++ (if f i = true then [g i] else []) := by
      rw [List.range_succ, List.filter_append, List.map_append]
      congr 1
      by_cases hf : f i = true
      · simp [hf]
      · simp [hf]
    cases hf : f i with
    | true =>
      rw [if_pos rfl]
      intro s Hs C cl fp
      refine (he s Hs C cl fp i H4 hi2 hf (((c0.trans c1).trans c2).trans c4)).go .refl fun z H5 c5 hz => hO z H5 (c4.trans c5) ⟨(c2.trans c4).trans c5, ?_, by rw [List.length_append]; simp only [List.length_cons, List.length_nil]; omega, by omega⟩
      rw [er, hf, if_pos rfl]
      exact ((c4.trans c5).dts h2).app (.one hz)
    | false =>
      rw [if_neg (by decide)]
      refine hS H4 c4 ⟨c2.trans c4, ?_, by omega, by omega⟩
      rw [er, hf, if_neg (by decide), List.append_nil]
      exact c4.dts h2
  · intro D vs H2 hD c2 hl ⟨_, h2, h3, h4⟩
    exact q D H2 vs _ (c1.back D hD) (c1.trans c2) hl rfl (by rw [Int.toNat_natCast] at h2; exact h2) (by rw [Int.toNat_natCast] at h3; omega)
end
section
variable {P : Program} {w : World} {K : PySem.W.Frag} {mg : Str → Option Value} {base : Heap} {T : List (Addr × Str)}
/-! ### face -/
abbrev spNum (K : PySem.W.Frag) (T : List (Addr × Str)) : Sp' := spF K T (fun d : PyData => [d]) (fun d => (∃ i, d = .int i) ∨ ∃ x, d = .str x) fun a d => d = .bool (isNum a)
abbrev spWord (K : PySem.W.Frag) (T : List (Addr × Str)) : Sp' := spF K T (fun d : PyData => [d]) (fun d => (∃ i, d = .int i) ∨ ∃ x, d = .str x ∧ plainW x) fun a d => d = .bool (isStr a)
theorem sc_face : FnScope ["code", "address", "sizes", "words", "pick", "index", "found", "word", "at"] ["code", "address"] (defScope (top 29)) := ⟨rfl, rfl, rfl, by decide +kernel, rfl, by decide +kernel, by decide +kernel⟩
/-- the cells of one word -/
def faceW (c : Code) (a : Adr) (w : Str) : List Cell := ((List.range ((c.size w).getD 0)).filter fun (at_ : Nat) => match a.ix with
      | .num i => decide ((at_ : Int) = i)
      | .nm _ => true).map fun at_ => (w, at_)
theorem names_plain : ∀ x ∈ names4, plainW x := by
  have h : ∀ x ∈ names4, (decide (1 ≤ x.length) && decide (x.length ≤ 8) && x.cps.toList.all fun c => decide (c ∈ lettersS.cps.toList)) = true := by decide +kernel
  intro x hx
  have := h x hx
  simp only [Bool.and_eq_true, decide_eq_true_eq, List.all_eq_true] at this
  exact ⟨this.1.1, this.1.2, this.2⟩
def words_of (a : Adr) : List Str := match a.pick with
    | .num i => (a.objs[i.toNat]?).toList
    | .nm _ => a.objs
theorem face_eq (c : Code) (a : Adr) : c.face a = (words_of a).flatMap (faceW c a) := rfl
theorem g_face (F : At K mg "face" 29) (B : Blt mg) (G : GDef P w K mg base 1 "is_number" (spNum K T)) (Gw : GDef P w K mg base 1 "is_word" (spWord K T)) :
    GDef P w K mg base 2 "face" (spF K T (fun a : Code × Adr => [a.1.d, a.2.d]) (fun a => OkCode a.1 ∧ OkAdr a.1 a.2) fun a d => ∃ l : List Cell, l.Perm (a.1.face a.2) ∧ d = .tuple (l.map Cell.d)) := by
  refine F.okF sc_face (fun _ _ _ _ _ _ us hl => match us, hl with | [_, _], _ => rfl) (fun _ => rfl) fun f cdv Ar outer s H vs Q ⟨c, a⟩ k hp hv q => ?_
  obtain ⟨oc, oa⟩ := hp
  have oc : OkCode c := oc
  have oa : OkAdr c a := oa
  obtain ⟨v1, v2, rfl, h1, h2⟩ := hv.inv2
  refine ws_set 2 k ?_
  refine wE_dictK (T := T) (l := obsL c) k B.dict ((ed_at0 (ed_name 0 h1)).is (by rw [obsL_d])) oc.obsN oc.obsZ fun r H1 kvs hr c1 hk sd => ?_
  refine ws_unp3 (T := T) 3 4 5 k (ed_name 1 (c1.dt h2)) fun w1 w2 w3 H2 c2 g1 g2 g3 => ?_
  refine ws_set 6 k ?_
  refine (el_lst (T := T) ea_nil).go .refl fun L H3 vs3 ds3 hL c3 hl3 e3 hv3 _ => ?_
  subst e3
  cases hv3
  have d3 := (c1.trans c2).trans c3
  have hsd := sd.tk (c2.trans c3).tup
  have hkr := (c2.trans c3).get hk
  have hwin : ∀ x ∈ words_of a, ∃ m, c.size x = some m ∧ m ≤ 3 := fun x hx => by
    have hin : x ∈ a.objs := by
      unfold words_of at hx
      cases hp : a.pick with
      | num i => rw [hp] at hx; exact List.mem_of_getElem? (Option.mem_toList.mp hx)
      | nm y => rw [hp] at hx; exact hx
    obtain ⟨m, hm⟩ := oa.there x hin
    refine ⟨m, hm, ?_⟩
    unfold Code.size at hm
    obtain ⟨p, hp, e⟩ := Option.map_eq_some_iff.mp hm
    have := (oc.ws p (List.mem_of_find?_eq_some hp)).2.2
    omega
  have hwl : (words_of a).length ≤ 3 := by
    have h3 := oa.len
    unfold words_of
    cases hp : a.pick with
    | num i =>
      show (a.objs[i.toNat]?).toList.length ≤ 3
      cases a.objs[i.toNat]? <;> simp
    | nm y => exact h3
  have hfl : ∀ x ∈ words_of a, (faceW c a x).length ≤ 3 := fun x hx => by
    obtain ⟨m, hm, h3⟩ := hwin x hx
    unfold faceW
    rw [List.length_map, hm]
    exact Nat.le_trans (List.length_filter_le _ _) (by rw [List.length_range]; exact h3)
  refine ws_forT (T := T) (ss := (words_of a).map .str) 7 k ?_ fun H4 c4 => ⟨fun i σ2 H' => ∃ vs, Chg T [L] H4 H' ∧ H' L = some (.lst vs) ∧ DTs K H' vs ((((words_of a).take i).flatMap (faceW c a)).map Cell.d) ∧ vs.length ≤ 3 * i ∧ ∃ u, σ2 = [some v1, some v2, some (.ref r), some w1, some w2, some w3, some (.ref L), u, none], ⟨[], .refl, c4.get hl3, .nil, Nat.le_refl _, none, rfl⟩, fun i σ2 H' ⟨vs, c5, _⟩ => c5.tup, fun i d v σ2 H' hd ⟨vs, c5, hl, hv, hz, u, eσ⟩ hdv => ?_, fun σ2 H' ⟨vs, c5, hl, hv, hz, u, eσ⟩ => ?_⟩
  · refine ed_if (T := T) (k := isNum a.pick.d) (et_val (ed_cf G k a.pick.d (ea_cons (ed_name 4 (c3.dt g2)) ea_nil) (isNum_opd _))) (fun z => ?_) fun z => ?_
    · have hpk := oa.pick
      unfold words_of
      cases hp : a.pick with
      | nm y => rw [hp] at z; cases z
      | num i =>
        rw [hp] at g2 hpk
        obtain ⟨z1, z2⟩ : 0 ≤ i ∧ i < (a.objs.length : Int) := hpk
        obtain ⟨x, hx⟩ : ∃ x, a.objs[i.toNat]? = some x := ⟨_, List.getElem?_eq_getElem (by omega)⟩
        show EvD _ _ _ _ _ (.tuple ((a.objs[i.toNat]?).toList.map .str))
        rw [hx]
        refine ed_tup (ds := [.str x]) (ea_cons (ed_ix (ed_name 3 (c3.dt g1)) (ed_name 4 (c3.dt g2)) ?_) ea_nil)
        have := atI_map (f := PyData.str) hx
        rw [Int.toNat_of_nonneg z1] at this
        exact this
    · unfold words_of
      cases hp : a.pick with
      | num i => rw [hp] at z; cases z
      | nm y => exact ed_name 3 (c3.dt g1)
  · subst eσ
    rw [List.getElem?_map] at hd
    obtain ⟨x, hx, ex⟩ := Option.map_eq_some_iff.mp hd
    subst ex
    have hxin := List.mem_of_getElem? hx
    have hi3 : i < 3 := Nat.lt_of_lt_of_le (List.getElem?_eq_some_iff.mp hx).1 hwl
    obtain ⟨m, hm, hm3⟩ := hwin x hxin
    refine ws_extend (T := T) (l := L) (xs := vs) (R := fun ds => ds = (faceW c a x).map Cell.d) (ev_name 6) hl (by omega) ?_ fun vs2 H5 ds2 c6 e6 hv6 => wS_nil ⟨vs ++ vs2, ?_, upd_same, ?_, ?_, some v, rfl⟩
    · obtain ⟨vm, e1, e2⟩ := hsd.some (k := .inr x) (by rw [obsL_look, hm]; rfl)
      have c7 : Chg T [L] H3 H' := c4.any.trans c5
      have hL2 : r ≠ L := fun z => by rw [← z] at hL; rw [c2.get hk] at hL; cases hL
      refine EvL.imp (el_lcR (T := T) (own := [("at", 8)]) 8 (m := m) (fun at_ => match a.ix with
        | .num i => decide ((at_ : Int) = i)
        | .nm _ => true) (fun at_ => Cell.d (x, at_)) k (blkOk_by rfl) B.range ((ev_getK k (ev_name 2) (ed_name 7 hdv) (c7.get hkr (by simpa using hL2)) e1).dat (c7.dt e2)) (by omega) rfl rfl (fun _ => rfl) (fun s' Hs C cl fp at_ H6 hat c8 => ?_) fun s' Hs C cl fp at_ H6 hat _ c8 => ed_tup (ea_cons (ed_name 7 (c8.dt hdv)) (ea_cons (ed_name 8 (.int _)) ea_nil))) fun ds e => ?_
      · have hg3 := c8.dt (c7.dt (c3.dt g3))
        have hix := oa.ix
        have hsh : SeqAt.shaped a.ix.d = true := by
          cases hp : a.ix with
          | num i => rfl
          | nm y =>
            rw [hp] at hix
            have : ∀ x ∈ names4, SeqAt.shaped (.str x) = true := by decide +kernel
            exact this y hix
        refine EvT.is (et_or (k := PyData.eqv (.int (at_ : Int)) a.ix.d) (k2 := isStr a.ix.d) (et_cmp (ec_eqD (blkC_ok k) (ed_name 8 (.int _)) (ed_name 5 hg3) rfl hsh)) fun _ => et_val (ed_cf Gw (blkC_ok k) a.ix.d (ea_cons (ed_name 5 hg3) ea_nil) ?_)) ?_
        · cases hp : a.ix with
          | num i => exact .inl ⟨i, rfl⟩
          | nm y =>
            rw [hp] at hix
            exact .inr ⟨y, rfl, names_plain y hix⟩
        · cases hp : a.ix with
          | num i => simp [Opd.d, PyData.eqv, isStr]; rfl
          | nm y => simp [Opd.d, PyData.eqv, isStr]
      · rw [e]
        unfold faceW
        rw [hm, List.map_map]
        rfl
    · exact (c5.trans c6.any).trans (.set (c6.get hl) wr_lst (by simp))
    · have e7 : (((words_of a).take (i + 1)).flatMap (faceW c a)).map Cell.d = (((words_of a).take i).flatMap (faceW c a)).map Cell.d ++ (faceW c a x).map Cell.d := by
        rw [List.take_succ, hx, List.flatMap_append, List.map_append]
        simp
      rw [e7]
      rw [e6] at hv6
      exact Chg.dts (T := T) (S := [L]) (.set (c6.get hl) wr_lst (by simp)) ((c6.dts hv).app hv6)
    · rw [List.length_append, hv6.len, e6, List.length_map]
      have := hfl x hxin
      omega
  · subst eσ
    have hv' : DTs K H' vs ((c.face a).map Cell.d) := by
      rw [List.length_map, List.take_length] at hv
      exact hv
    refine ws_retR (T := T) (er_tuple B.tuple (el_sorted k B.sorted (ev_name 6) hl hv' ?_ ?_ ?_ ?_)) fun v H6 d c6 ⟨ds, pm, ed⟩ hd => ?_
    · exact PySem.W.AllAlike.of fun x y => by simp [Cell.d, PySem.W.alike, PySem.W.alikeAll]
    · exact PySem.W.Sortable.tuples fun x => ⟨_, _, rfl⟩
    · rw [← hv'.len]; simp only [List.length_map] at hz; omega
    · intro d hd
      obtain ⟨x, _, rfl⟩ := List.mem_map.mp hd
      simp [Cell.d, PyData.depth, PyData.depthAll]
    · have c7 : Chg T [L] H3 H6 := (c4.any.trans c5).trans c6.any
      have c8 : Ex T H H6 := Chg.fresh ((c1.trans c2).trans .refl) ((c3.any.trans c7)) (fun x hx => by rw [List.mem_singleton.mp hx]; exact (c1.trans c2).back L hL)
      obtain ⟨l, e, pl⟩ : ∃ l : List Cell, ds = l.map Cell.d ∧ l.Perm (c.face a) := perm_map_inv _ pm _ rfl
      exact q v H6 d c8 ⟨l, pl, by rw [ed, e]⟩ hd
end
end K7
/-! ## K7N -/
set_option Elab.async false
set_option linter.all false
set_option maxRecDepth 100000
set_option maxHeartbeats 4000000
/-! in over data, repr, sets of ints; choices_at, is_choice, is_spot, is_step, need_way. -/
namespace K7
open PySem PySem.Spec PyProof.Rows L2
section
variable {T : List (Addr × Str)} {X : Cx} {σ : L2.St} {H : Hp} {e a b c o : Expr} {d : PyData} {ds es : List PyData} {D : Ends} {rest : List Stmt} {pos p2 : Pos} {n : Nat} {Q : VK} {v w : V}
/-! ### in -/
def rInDT (K : PySem.W.Frag) (neg : Bool) : R2 := fun x y H Q => ∃ d ds, DT K H x d ∧ DT K H y (.tuple ds) ∧ SeqAt.shaped d = true ∧ PyData.canLayAll0 ds = true ∧ Q (.bl (if neg then !ds.any fun z => PyData.eqv z d else ds.any fun z => PyData.eqv z d)) H
theorem op_inDT (c : Cok n X) : OpR X (compareOp .In) (rInDT X.K false) := by
  intro pins s σ H x y v u Q I rx ry h
  obtain ⟨d, ds, hd, he, sd, se, q⟩ := h
  obtain ⟨as, r1⟩ := hd.dp.reads I d x v rx
  obtain ⟨bs, r2⟩ := he.dp.reads I (.tuple ds) y u ry
  exact SeqAt.in_tuple_reads r2 r1 se (SeqAt.canLay_of_shaped sd) (room_in_shaped sd (by have := c.room.un; omega)) ⟨.bl _, H, I, rfl, q⟩
theorem op_notInDT (c : Cok n X) : OpR X (compareOp .NotIn) (rInDT X.K true) := by
  intro pins s σ H x y v u Q I rx ry h
  obtain ⟨d, ds, hd, he, sd, se, q⟩ := h
  obtain ⟨as, r1⟩ := hd.dp.reads I d x v rx
  obtain ⟨bs, r2⟩ := he.dp.reads I (.tuple ds) y u ry
  exact SeqAt.notIn_tuple_reads r2 r1 se (SeqAt.canLay_of_shaped sd) (room_in_shaped sd (by have := c.room.un; omega)) ⟨.bl _, H, I, rfl, q⟩
theorem ec_inDT (c0 : Cok n X) (ha : EvD T X a σ H d) (hb : EvD T X b σ H (.tuple ds)) (s1 : SeqAt.shaped d = true) (s2 : PyData.canLayAll0 ds = true) : EvC T X .In a b σ H (ds.any fun z => PyData.eqv z d) :=
  ec_of ha hb (op_inDT c0) fun H1 u w Q hx hy q => ⟨d, ds, hx, hy, s1, s2, q⟩
theorem ec_notInDT (c0 : Cok n X) (ha : EvD T X a σ H d) (hb : EvD T X b σ H (.tuple ds)) (s1 : SeqAt.shaped d = true) (s2 : PyData.canLayAll0 ds = true) : EvC T X .NotIn a b σ H (!ds.any fun z => PyData.eqv z d) :=
  ec_of ha hb (op_notInDT c0) fun H1 u w Q hx hy q => ⟨d, ds, hx, hy, s1, s2, q⟩
/-- a text in a new list of texts -/
theorem inV_strs {K : PySem.W.Frag} {H : Hp} {x : Str} : ∀ {vs : List V} {xs : List Str}, DTs K H vs (xs.map .str) → vs.all flatV = true ∧ inV (.str x) vs = decide (x ∈ xs)
  | vs, [], h => by cases h; exact ⟨rfl, rfl⟩
  | vs, y :: xs, h => by
    rw [List.map_cons] at h
    cases h with
    | cons h1 h2 =>
      obtain ⟨i1, i2⟩ := inV_strs (x := x) h2
      rw [h1.inv_str]
      refine ⟨by simp [flatV, i1], ?_⟩
      unfold inV at i2 ⊢
      rw [List.any_cons, i2]
      have : eqV (.str y) (.str x) = decide (x = y) := by
        show (y == x) = _
        by_cases z : x = y
        · subst z; simp
        · rw [decide_eq_false z]; exact beq_eq_false_iff_ne.mpr fun q => z q.symm
      rw [this]
      simp [List.mem_cons]
theorem ec_inStrs {x : Str} {xs : List Str} (ha : EvD T X a σ H (.str x)) (hb : EvL T X b σ H (fun ds => ds = xs.map .str)) : EvC T X .In a b σ H (decide (x ∈ xs)) := fun H1 c1 Q q =>
  ha H1 c1 _ fun u H2 c2 hu => hb H2 (c1.trans c2) _ fun p H3 vs ds hp c3 hl e hv hz => by
    subst e
    obtain ⟨i1, i2⟩ := inV_strs (x := x) hv
    rw [hu.inv_str]
    refine ⟨_, op_in_seq, p, vs, rfl, .inl (SqL.of hl), rfl, i1, ?_⟩
    show Q (.bl (inV (.str x) vs)) H3
    rw [i2]
    exact q H3 (c2.trans c3)
theorem ec_notInStrs {x : Str} {xs : List Str} (ha : EvD T X a σ H (.str x)) (hb : EvL T X b σ H (fun ds => ds = xs.map .str)) : EvC T X .NotIn a b σ H (!decide (x ∈ xs)) := fun H1 c1 Q q =>
  ha H1 c1 _ fun u H2 c2 hu => hb H2 (c1.trans c2) _ fun p H3 vs ds hp c3 hl e hv hz => by
    subst e
    obtain ⟨i1, i2⟩ := inV_strs (x := x) hv
    rw [hu.inv_str]
    refine ⟨_, op_notIn_seq, p, vs, rfl, .inl (SqL.of hl), rfl, i1, ?_⟩
    show Q (.bl (!inV (.str x) vs)) H3
    rw [i2]
    exact q H3 (c2.trans c3)
/-! ### repr -/
structure Shw (d : PyData) : Prop where
  sh : d.showable = true
  nd : d.hasDict = false
  len : d.shown.length ≤ 1000
  dep : d.depth ≤ 60
theorem call_reprD (c : Cok n X) : CallR X (.builtin "repr") (fun xs H Q => ∃ v d, xs = [v] ∧ DT X.K H v d ∧ Shw d ∧ Q (.str d.shown) H) := by
  intro pins s σ H xs us Q I r h
  obtain ⟨v, d, e, hd, hs, q⟩ := h
  subst e
  obtain ⟨u, e, rx⟩ := vals1 r
  subst e
  obtain ⟨as, rd⟩ := hd.dp.reads I d v u rx
  cases hd with
  | non =>
    cases rx
    exact PySem.P.repr_of_none ⟨.str _, H, I.tok _, ⟨_, rfl⟩, q⟩
  | bl b =>
    cases rx
    refine PySem.P.repr_of_bool ⟨.str _, H, I.tok _, ⟨_, rfl⟩, ?_⟩
    simp only [PyData.shown] at q
    exact q
  | int i =>
    obtain ⟨t, rfl⟩ := rx
    refine PySem.P.repr_of_int (by have := hs.sh; simp only [PyData.showable] at this; exact of_decide_eq_true this) ⟨.str _, H, I.tok _, ⟨_, rfl⟩, ?_⟩
    simp only [PyData.shown] at q
    exact q
  | str x =>
    obtain ⟨t, rfl⟩ := rx
    have hl := hs.len
    simp only [PyData.shown] at q hl
    exact PySem.P.repr_of_str ⟨.str _, H, I.tok _, ⟨_, rfl⟩, q⟩ (Nat.le_of_lt (small1000 hl))
  | tup h1 h2 =>
    cases rx
    exact repr_of_reads' rd hs.sh (fun z => by rw [hs.nd] at z; cases z) c.gd (by have := hs.dep; have := c.hu64; omega) (fun _ _ e => e) (fun h' u tk hk => ⟨.str _, H, I.kept hk, ⟨_, rfl⟩, q⟩) (Nat.le_of_lt (small1000 hs.len))
theorem ed_repr {p : Pos} (c0 : Cok n X) (hm : X.mg "repr" = none) (h : EvD T X a σ H d) (hs : Shw d) (hg : Gl X "repr" := by rfl) (h1 : starEach [a] X.env = (false, eval a X.env) :: starEach [] X.env := by rfl) : EvD T X (.Call (.Name "repr" p) [a] [] pos) σ H (.str d.shown) := fun H1 c Q q =>
  wE.of (pe_callB (call_reprD c0) hg hm (by decide +kernel) (pa_cons peW pa_nil h1) (by decide) (by decide) h1 (by rfl)) (h H1 c _ fun v H2 c2 hv => ⟨v, d, rfl, hv, hs, q _ H2 c2 (.str _)⟩)
/-! ### sorted(set(a tuple of ints)) -/
theorem dts_ints {K : PySem.W.Frag} {H : Hp} : ∀ {ns : List Int} {vs : List V}, DTs K H vs (ns.map .int) → vs = ns.map V.int
  | [], _, h => by cases h; rfl
  | n :: ns, _, h => by
    rw [List.map_cons] at h
    cases h with
    | cons h1 h2 => rw [h1.inv_int, dts_ints h2]; rfl
theorem dts_of_ints {K : PySem.W.Frag} {H : Hp} : ∀ ns : List Int, DTs K H (ns.map V.int) (ns.map .int)
  | [] => .nil
  | n :: ns => .cons (.int n) (dts_of_ints ns)
theorem call_setI (hc : X.calm = true) : CallR X (.type "set") (fun xs H Q => ∃ (v : V) (ns : List Int), xs = [v] ∧ DT X.K H v (.tuple (ns.map .int)) ∧ ns.length ≤ 50 ∧ ∀ p c, H p = none → c ≤ ns.length → Q (.ref p) (upd H p (SetO X.w p (fun j => decide (j ∈ ns)) c))) := by
  intro pins s σ H xs us Q I r h
  obtain ⟨v, ns, e, hd, hz, q⟩ := h
  subst e
  obtain ⟨u, e, rx⟩ := vals1 r
  subst e
  obtain ⟨a, xs, e, sq, hx⟩ := hd.inv_tup
  subst e
  cases rx
  rw [dts_ints hx] at sq
  obtain ⟨its, rv, ht, _⟩ := I.tuple sq.t
  refine call_set_tupI ns (I.ok.hd hc) ht (by simpa using rv.ints) (Nat.lt_of_le_of_lt (Nat.succ_le_succ hz) (by decide)) fun h' tk c R hc hk => ?_
  have hn := I.hok.fresh (Nat.le_refl s.heap.objs.size)
  exact ⟨.ref s.heap.objs.size, upd H s.heap.objs.size (SetO X.w s.heap.objs.size (fun j => decide (j ∈ ns)) c), I.laid (t' := tk) hk (Nat.le_refl _) (setO_new R), rfl, q _ c hn hc⟩
theorem el_sortedSet {ns : List Int} {p p3 pos3 : Pos} (c : Cok n X) (B : Blt X.mg) (h : EvD T X a σ H (.tuple (ns.map .int))) (hz : ns.length ≤ 50) (hg : Gl X "sorted" := by rfl) (hg2 : Gl X "set" := by rfl) (h1 : starEach [a] X.env = (false, eval a X.env) :: starEach [] X.env := by rfl)
    (h2 : starEach [.Call (.Name "set" p3) [a] [] pos3] X.env = (false, eval (.Call (.Name "set" p3) [a] [] pos3) X.env) :: starEach [] X.env := by rfl) :
    EvL T X (.Call (.Name "sorted" p) [.Call (.Name "set" p3) [a] [] pos3] [] pos) σ H (fun out => ∃ ms : List Int, out = ms.map .int ∧ (∀ k, k ∈ ms ↔ k ∈ ns) ∧ ms.length ≤ 50) := fun H1 c1 Q q =>
  wE.of (pe_callB (cr_sortedSet c.calm) hg B.sorted (by decide +kernel) (pa_cons (pe_callTy (call_setI c.calm) hg2 B.set (by decide +kernel) (pa_cons peW pa_nil h1) (by decide) (by decide) h1 (by rfl)) pa_nil h2) (by decide) (by decide) h2 (by rfl))
    (h H1 c1 _ fun v H2 c2 hv => ⟨v, ns, rfl, hv, hz, fun s m hs hm => ⟨s, fun j => decide (j ∈ ns), m, rfl, upd_same, by omega, fun ms p _ hmem hl hp => by
      have c3 : Ex T H2 (upd H2 s (SetO X.w s (fun j => decide (j ∈ ns)) m)) := .new hs
      exact q p _ (ms.map V.int) (ms.map .int) (c2.back p (c3.back p hp)) ((c2.trans c3).trans (.new hp)) upd_same ⟨ms, rfl, fun k => (by rw [hmem k]; simp), by omega⟩ (dts_of_ints ms) (by rw [List.length_map]; omega)⟩⟩)
end
/-! ### what code allows -/
theorem blks_mem {c : Code} {r : Str} {bs : List Blk} (h : c.blks r = some bs) : (r, bs) ∈ c.rts := by
  unfold Code.blks at h
  obtain ⟨x, hx, e⟩ := Option.map_eq_some_iff.mp h
  have h1 := List.mem_of_find?_eq_some hx
  have h2 := List.find?_some hx
  have h3 : x.1 = r := of_decide_eq_true h2
  rw [← h3, ← e]
  exact h1
theorem OkCode.rn_mem {c : Code} (oc : OkCode c) {x : Str × List Blk} (h : x ∈ c.rts) : x.1 ∈ rn3 := by
  have h1 : x.1 ∈ c.rts.map (·.1) := List.mem_map.mpr ⟨x, h, rfl⟩
  have h2 : ∀ y ∈ c.rts.map (·.1), y ∈ rn3 := by
    rcases oc.rn with e | e | e <;> rw [e] <;> decide +kernel
  exact h2 _ h1
theorem OkCode.row_ok {c : Code} (oc : OkCode c) {p : Plc} {op : Op} (h : c.row p = some op) : (OkRow c op ∨ ∃ bs, c.blks p.r = some bs ∧ OkEnd bs.length op ∧ bs.length ≤ 3) ∧ p.r ∈ rn3 ∧ p.b < 3 := by
  obtain ⟨bs, b, e1, e2, e3⟩ := row_inv h
  have hm := blks_mem e1
  obtain ⟨_, hl, hb⟩ := oc.bs _ hm
  have hbk := hb b (List.mem_of_getElem? e2)
  have hi : p.b < bs.length := (List.getElem?_eq_some_iff.mp e2).1
  refine ⟨?_, oc.rn_mem hm, by have : bs.length ≤ 3 := hl; omega⟩
  split at e3
  · exact .inl (hbk.rows op (List.mem_of_getElem? e3))
  · cases e3
    exact .inr ⟨bs, e1, hbk.fin, hl⟩
theorem OkCode.has_row {c : Code} {p : Plc} (h : c.has p) : ∃ op, c.row p = some op := by
  obtain ⟨b, h1, h2⟩ := h
  unfold Code.row
  rw [h1, Option.bind_some]
  by_cases hk : p.k < b.1.length
  · rw [if_pos hk]; exact ⟨_, List.getElem?_eq_getElem hk⟩
  · rw [if_neg hk]; exact ⟨_, rfl⟩
theorem OkCode.has_ok {c : Code} (oc : OkCode c) {p : Plc} (h : c.has p) : p.r ∈ rn3 ∧ p.b < 3 ∧ p.k ≤ 3 := by
  obtain ⟨op, ho⟩ := OkCode.has_row h
  obtain ⟨b, h1, h2⟩ := h
  obtain ⟨_, h3, h4⟩ := oc.row_ok ho
  refine ⟨h3, h4, Nat.le_trans h2 ?_⟩
  unfold Code.blk at h1
  cases h5 : c.blks p.r with
  | none => rw [h5] at h1; cases h1
  | some bs =>
    rw [h5, Option.bind_some] at h1
    exact ((oc.bs _ (blks_mem h5)).2.2 b (List.mem_of_getElem? h1)).len
theorem flat_le {α β : Type} (f : α → List β) {m : Nat} : ∀ {l : List α}, (∀ x ∈ l, (f x).length ≤ m) → (l.flatMap f).length ≤ m * l.length
  | [], _ => by simp
  | x :: l, h => by
    rw [List.flatMap_cons, List.length_append, List.length_cons]
    have h1 := h x (List.mem_cons_self ..)
    have h2 := flat_le f (l := l) fun y hy => h y (List.mem_cons_of_mem _ hy)
    rw [Nat.mul_succ]
    omega
theorem size_le {c : Code} (oc : OkCode c) {w : Str} {m : Nat} (h : c.size w = some m) : w ∈ words5 ∧ 1 ≤ m ∧ m ≤ 3 := by
  unfold Code.size at h
  obtain ⟨p, hp, e⟩ := Option.map_eq_some_iff.mp h
  have h2 : p.1 = w := of_decide_eq_true (by simpa using List.find?_some hp)
  rw [← e, ← h2]
  exact oc.ws p (List.mem_of_find?_eq_some hp)
/-- what the cells of an address are -/
theorem face_mem {c : Code} {a : Adr} (oc : OkCode c) (oa : OkAdr c a) {x : Cell} (h : x ∈ c.face a) : x.1 ∈ words5 ∧ x.2 < 3 ∧ x.1 ∈ a.objs ∧ ∃ m, c.size x.1 = some m ∧ x.2 < m := by
  rw [face_eq] at h
  obtain ⟨w, hw, hx⟩ := List.mem_flatMap.mp h
  unfold faceW at hx
  obtain ⟨k, hk, e⟩ := List.mem_map.mp hx
  subst e
  have hin : w ∈ a.objs := by
    unfold words_of at hw
    cases hp : a.pick with
    | num i => rw [hp] at hw; exact List.mem_of_getElem? (Option.mem_toList.mp hw)
    | nm y => rw [hp] at hw; exact hw
  obtain ⟨m, hm⟩ := oa.there w hin
  obtain ⟨h1, _, h3⟩ := size_le oc hm
  have hk2 := (List.mem_filter.mp hk).1
  rw [hm] at hk2
  have hk3 : k < m := List.mem_range.mp hk2
  exact ⟨h1, by show k < 3; omega, hin, m, hm, hk3⟩
theorem face_len {c : Code} {a : Adr} (oc : OkCode c) (oa : OkAdr c a) : (c.face a).length ≤ 9 := by
  have h3 := oa.len
  have hl : (words_of a).length ≤ 3 := by
    unfold words_of
    cases hp : a.pick with
    | num i =>
      show (a.objs[i.toNat]?).toList.length ≤ 3
      cases a.objs[i.toNat]? <;> simp
    | nm y => exact h3
  have hf : ∀ x ∈ words_of a, (faceW c a x).length ≤ 3 := fun x hx => by
    unfold faceW
    rw [List.length_map]
    refine Nat.le_trans (List.length_filter_le _ _) ?_
    rw [List.length_range]
    cases hm : c.size x with
    | none => exact Nat.zero_le _
    | some m => exact (size_le oc hm).2.2
  have := flat_le (faceW c a) hf
  rw [face_eq]
  omega
section
variable {P : Program} {w : World} {K : PySem.W.Frag} {mg : Str → Option Value} {base : Heap} {T : List (Addr × Str)}
/-! ### choices_at -/
theorem beq_dec (x y : Str) : (x == y) = decide (y = x) := by
  by_cases z : y = x
  · rw [z, decide_eq_true rfl]; exact beq_self_eq_true x
  · rw [decide_eq_false z]; exact beq_eq_false_iff_ne.mpr fun q => z q.symm
abbrev spFace (K : PySem.W.Frag) (T : List (Addr × Str)) : Sp' := spF K T (fun a : Code × Adr => [a.1.d, a.2.d]) (fun a => OkCode a.1 ∧ OkAdr a.1 a.2) fun a d => ∃ l : List Cell, l.Perm (a.1.face a.2) ∧ d = .tuple (l.map Cell.d)
def IsChs (c : Code) (op : Op) (d : PyData) : Prop := ∃ l : List Chc, d = .tuple (l.map Chc.d) ∧ (∀ x, x ∈ l ↔ x ∈ c.chs op) ∧ l.length ≤ 100
abbrev spChs (K : PySem.W.Frag) (T : List (Addr × Str)) : Sp' := spF K T (fun a : Code × Plc × Op => [a.1.d, a.2.1.d]) (fun a => OkCode a.1 ∧ a.1.row a.2.1 = some a.2.2) fun a d => IsChs a.1 a.2.2 d
theorem sc_choices_at : FnScope ["code", "place", "row"] ["code", "place"] (defScope (top 34)) := ⟨rfl, rfl, rfl, by decide +kernel, rfl, by decide +kernel, by decide +kernel⟩
theorem face_chs {c : Code} {a : Adr} {l : List Cell} {op : Op} (e : c.chs op = (c.face a).map .cell) (pm : l.Perm (c.face a)) (oc : OkCode c) (oa : OkAdr c a) : IsChs c op (.tuple (l.map Cell.d)) := by
  refine ⟨l.map .cell, by rw [List.map_map]; rfl, fun x => ?_, by rw [List.length_map, pm.length_eq]; have := face_len oc oa; omega⟩
  rw [e, List.mem_map, List.mem_map]
  constructor
  · rintro ⟨y, hy, e⟩; exact ⟨y, pm.mem_iff.mp hy, e⟩
  · rintro ⟨y, hy, e⟩; exact ⟨y, pm.mem_iff.mpr hy, e⟩
theorem g_choices_at (F : At K mg "choices_at" 34) (B : Blt mg) (G : GDef P w K mg base 1 "row_there" (spRow K T)) (Gf : GDef P w K mg base 2 "face" (spFace K T)) : GDef P w K mg base 3 "choices_at" (spChs K T) := by
  refine F.okF sc_choices_at (fun _ _ _ _ _ _ us hl => match us, hl with | [_, _], _ => rfl) (fun _ => rfl) fun f cdv Ar outer s H vs Q ⟨c, p, op⟩ k hp hv q => ?_
  obtain ⟨oc, hrow⟩ := hp
  have oc : OkCode c := oc
  have hrow : c.row p = some op := hrow
  obtain ⟨hok, hr3, _⟩ := oc.row_ok hrow
  obtain ⟨v1, v2, rfl, h1, h2⟩ := hv.inv2
  refine ws_asg (T := T) 2 k (ed_cf G k (c, p, op) (ea_cons (ed_name 0 h1) (ea_cons (ed_name 1 h2) ea_nil)) ⟨oc, hrow⟩) fun v3 H1 c1 h3 => ?_
  have hsh : SeqAt.shaped (.str op.word) = true := by
    cases op <;> (simp only [Op.word]; decide +kernel)
  refine ws_when (T := T) (k := decide (op.word = "store") || decide (op.word = "touch")) (et_cmp ((ec_inDT (ds := [.str "store", .str "touch"]) k (ed_at0 (ed_name 2 h3)) (ed_tup (ea_cons ed_str (ea_cons ed_str ea_nil))) hsh (by decide +kernel)).is ?_)) (fun z H2 c2 => ?_) fun z H2 c2 => ?_
  · simp only [List.any_cons, List.any_nil, PyData.eqv, Bool.or_false, beq_dec]
  · have ha : ∃ a, op.more[0]? = some (Adr.d a) ∧ OkAdr c a ∧ c.chs op = (c.face a).map .cell := by
      rcases Bool.or_eq_true_iff.mp z with z | z
      · obtain ⟨a, o, rfl⟩ := w_store (of_decide_eq_true z)
        rcases hok with hok | ⟨_, _, hok, _⟩
        · exact ⟨a, rfl, hok.1, rfl⟩
        · exact hok.elim
      · obtain ⟨a, rfl⟩ := w_touch (of_decide_eq_true z)
        rcases hok with hok | ⟨_, _, hok, _⟩
        · exact ⟨a, rfl, hok, rfl⟩
        · exact hok.elim
    obtain ⟨a, e1, oa, e2⟩ := ha
    exact ws_retR (T := T) (er_cf Gf k (c, a) (ea_cons (ed_name 0 ((c1.trans c2).dt h1)) (ea_cons (ed_at1 (ed_name 2 (c2.dt h3)) (by rw [List.getElem?_cons_succ]; exact e1)) ea_nil)) ⟨oc, oa⟩) fun v H3 d c3 ⟨l, pm, ed⟩ hd => q v H3 d ((c1.trans c2).trans c3) (by rw [ed]; exact face_chs e2 pm oc oa) hd
  refine ws_when (T := T) (k := decide (op.word = "load")) (et_cmp (ec_eqS (ed_at0 (ed_name 2 (c2.dt h3))) ed_str)) (fun z3 H3 c3 => ?_) fun z3 H3 c3 => ?_
  · obtain ⟨x, a, rfl⟩ := w_load (of_decide_eq_true z3)
    have oa : OkAdr c a := by
      rcases hok with hok | ⟨_, _, hok, _⟩
      · exact hok.2
      · exact hok.elim
    exact ws_retR (T := T) (er_cf Gf k (c, a) (ea_cons (ed_name 0 (((c1.trans c2).trans c3).dt h1)) (ea_cons (ed_at2 (ed_name 2 ((c2.trans c3).dt h3))) ea_nil)) ⟨oc, oa⟩) fun v H4 d c4 ⟨l, pm, ed⟩ hd => q v H4 d (((c1.trans c2).trans c3).trans c4) (by rw [ed]; exact face_chs rfl pm oc oa) hd
  refine ws_when (T := T) (k := decide (op.word = "if")) (et_cmp (ec_eqS (ed_at0 (ed_name 2 ((c2.trans c3).dt h3))) ed_str)) (fun z4 H4 c4 => ?_) fun z4 H4 c4 => ?_
  · obtain ⟨o, b1, b2, rfl⟩ := w_if (of_decide_eq_true z4)
    have d4 := ((c1.trans c2).trans c3).trans c4
    refine ws_retR (T := T) (er_tuple B.tuple (el_sortedSet (ns := [(b1 : Int), (b2 : Int)]) k B ((ed_slT (ed_name 2 (((c2.trans c3).trans c4).dt h3)) (eo_some ed_int) eo_none).is ?_) (by show 2 ≤ 50; decide))) fun v H5 d c5 ⟨ds, ⟨ms, e1, e2, e3⟩, ed⟩ hd => q v H5 d (d4.trans c5) ?_ hd
    · rfl
    · have nn : ∀ k ∈ ms, ((k.toNat : Nat) : Int) = k ∧ (k.toNat = b1 ∨ k.toNat = b2) := fun k hk => by
        have := (e2 k).mp hk
        simp only [List.mem_cons, List.mem_nil_iff, or_false] at this
        rcases this with z | z <;> rw [z] <;> simp
      refine ⟨ms.map fun k => .blk k.toNat, ?_, fun x => ?_, by rw [List.length_map]; omega⟩
      · rw [ed, e1, List.map_map]
        congr 1
        refine List.map_congr_left fun k hk => ?_
        show PyData.int k = .int ((k.toNat : Nat) : Int)
        rw [(nn k hk).1]
      · have ec : x ∈ c.chs (.iff o b1 b2) ↔ x = .blk b1 ∨ x = .blk b2 := by
          show x ∈ (if b1 = b2 then [Chc.blk b1] else [Chc.blk b1, Chc.blk b2]) ↔ _
          by_cases eb : b1 = b2
          · rw [if_pos eb, eb]; simp
          · rw [if_neg eb]; simp
        rw [ec, List.mem_map]
        constructor
        · rintro ⟨k, hk, rfl⟩
          rcases (nn k hk).2 with z | z <;> rw [z] <;> simp
        · rintro (rfl | rfl)
          · exact ⟨b1, (e2 _).mpr (by simp), by simp⟩
          · exact ⟨b2, (e2 _).mpr (by simp), by simp⟩
  · have d4 := ((c1.trans c2).trans c3).trans c4
    refine ws_ret (T := T) (ed_tup (ea_cons ed_non ea_nil)) fun v H5 c5 hd => q v H5 _ (d4.trans c5) ⟨[.non], rfl, ?_, by simp⟩ hd
    have : c.chs op = [.non] := by
      obtain ⟨za, zb⟩ := Bool.or_eq_false_iff.mp z
      have z1 := of_decide_eq_false za
      have z2 := of_decide_eq_false zb
      have z3 := of_decide_eq_false z3
      have z4 := of_decide_eq_false z4
      cases op <;> first | rfl | (exfalso; first | exact z1 rfl | exact z2 rfl | exact z3 rfl | exact z4 rfl)
    intro x
    rw [this]
end
end K7
/-! ## K7O -/
set_option Elab.async false
set_option linter.all false
set_option maxRecDepth 100000
set_option maxHeartbeats 4000000
/-! is_choice, is_spot, is_step, need_way. -/
namespace K7
open PySem PySem.Spec PyProof.Rows L2
/-! ### small data -/
structure Sm (m j : Nat) (d : PyData) : Prop where
  bk : d.bulk ≤ m
  lv : d.leavesShort 10 = true
  sh : d.showable = true
  nd : d.hasDict = false
  dp : d.depth ≤ j
theorem Sm.mono {m j m' j' : Nat} {d : PyData} (h : Sm m j d) (h1 : m ≤ m') (h2 : j ≤ j') : Sm m' j' d := ⟨Nat.le_trans h.bk h1, h.lv, h.sh, h.nd, Nat.le_trans h.dp h2⟩
theorem Sm.shw {m j : Nat} {d : PyData} (h : Sm m j d) (hm : m ≤ 80 := by decide) (hj : j ≤ 60 := by decide) : Shw d := ⟨h.sh, h.nd, by
  have h1 := PyData.shown_le_bulk 10 (by decide) d h.lv
  have h2 := h.bk
  omega, Nat.le_trans h.dp hj⟩
theorem Sm.non : Sm 0 0 .none := ⟨Nat.le_refl _, rfl, rfl, rfl, Nat.le_refl _⟩
theorem Sm.int {n : Nat} (h : n < 10) : Sm 0 0 (.int (n : Int)) := by
  have a : ∀ k < 10, (PyData.int ((k : Nat) : Int)).leavesShort 10 = true ∧ (PyData.int ((k : Nat) : Int)).showable = true := by decide +kernel
  exact ⟨Nat.le_refl _, (a n h).1, (a n h).2, rfl, Nat.le_refl _⟩
theorem Sm.tup1 {m j : Nat} {a : PyData} (h : Sm m j a) : Sm (m + 1) (j + 1) (.tuple [a]) := by
  refine ⟨?_, ?_, ?_, ?_, ?_⟩
  · simp only [PyData.bulk, PyData.bulkAll]; have := h.bk; omega
  · simp only [PyData.leavesShort, PyData.leavesShortAll, h.lv]; rfl
  · simp only [PyData.showable, PyData.showableAll, h.sh]; rfl
  · simp only [PyData.hasDict, PyData.hasDictAll, h.nd]; rfl
  · simp only [PyData.depth, PyData.depthAll]; have := h.dp; omega
theorem Sm.tup2 {m m2 j : Nat} {a b : PyData} (h : Sm m j a) (h2 : Sm m2 j b) : Sm (m + m2 + 2) (j + 1) (.tuple [a, b]) := by
  refine ⟨?_, ?_, ?_, ?_, ?_⟩
  · simp only [PyData.bulk, PyData.bulkAll]; have := h.bk; have := h2.bk; omega
  · simp only [PyData.leavesShort, PyData.leavesShortAll, h.lv, h2.lv]; rfl
  · simp only [PyData.showable, PyData.showableAll, h.sh, h2.sh]; rfl
  · simp only [PyData.hasDict, PyData.hasDictAll, h.nd, h2.nd]; rfl
  · simp only [PyData.depth, PyData.depthAll]; have := h.dp; have := h2.dp; omega
theorem Sm.tup3 {m m2 m3 j : Nat} {a b c : PyData} (h : Sm m j a) (h2 : Sm m2 j b) (h3 : Sm m3 j c) : Sm (m + m2 + m3 + 3) (j + 1) (.tuple [a, b, c]) := by
  refine ⟨?_, ?_, ?_, ?_, ?_⟩
  · simp only [PyData.bulk, PyData.bulkAll]; have := h.bk; have := h2.bk; have := h3.bk; omega
  · simp only [PyData.leavesShort, PyData.leavesShortAll, h.lv, h2.lv, h3.lv]; rfl
  · simp only [PyData.showable, PyData.showableAll, h.sh, h2.sh, h3.sh]; rfl
  · simp only [PyData.hasDict, PyData.hasDictAll, h.nd, h2.nd, h3.nd]; rfl
  · simp only [PyData.depth, PyData.depthAll]; have := h.dp; have := h2.dp; have := h3.dp; omega
theorem Sm.strs {x : Str} {l : List Str} (h : x ∈ l) (hl : (l.all fun y => decide (y.cps.size ≤ 8) && y.cps.toList.all fun c => decide (c < 16 ^ 8)) = true) : Sm 8 0 (.str x) := by
  have := List.all_eq_true.mp hl x h
  simp only [Bool.and_eq_true, decide_eq_true_eq] at this
  exact ⟨this.1, this.2, rfl, rfl, Nat.le_refl _⟩
def PlcB (p : Plc) : Prop := p.r ∈ rn3 ∧ p.b < 3 ∧ p.k ≤ 3
def ChcB : Chc → Prop
  | .non => True
  | .cell c => c.1 ∈ words5 ∧ c.2 < 3
  | .blk b => b < 3
theorem PlcB.sm {p : Plc} (h : PlcB p) : Sm 11 1 p.d := Sm.tup3 (Sm.strs h.1 (by decide +kernel)) (Sm.int (by have := h.2.1; omega)) (Sm.int (by have := h.2.2; omega))
theorem ChcB.sm : ∀ {c : Chc}, ChcB c → Sm 10 1 c.d
  | .non, _ => Sm.non.mono (by decide) (by decide)
  | .cell c, h => Sm.tup2 (Sm.strs h.1 (by decide +kernel)) (Sm.int (by have := h.2; omega))
  | .blk b, h => (Sm.int (by have : b < 3 := h; omega)).mono (by decide) (by decide)
theorem stp_sm {s : Stp} (h1 : PlcB s.1) (h2 : ChcB s.2) : Sm 23 2 s.d := Sm.tup2 h1.sm h2.sm
theorem chs_b {c : Code} {p : Plc} {op : Op} (oc : OkCode c) (hr : c.row p = some op) : ∀ x ∈ c.chs op, ChcB x := by
  obtain ⟨hok, _, _⟩ := oc.row_ok hr
  intro x hx
  have cellc : ∀ a, OkAdr c a → x ∈ (c.face a).map .cell → ChcB x := fun a oa h => by
    obtain ⟨y, hy, rfl⟩ := List.mem_map.mp h
    obtain ⟨h1, h2, _⟩ := face_mem oc oa hy
    exact ⟨h1, h2⟩
  cases op with
  | load z a =>
    rcases hok with hok | ⟨_, _, hok, _⟩
    · exact cellc a hok.2 hx
    · exact hok.elim
  | store a o =>
    rcases hok with hok | ⟨_, _, hok, _⟩
    · exact cellc a hok.1 hx
    · exact hok.elim
  | touch a =>
    rcases hok with hok | ⟨_, _, hok, _⟩
    · exact cellc a hok hx
    · exact hok.elim
  | iff o b1 b2 =>
    rcases hok with hok | ⟨bs, _, ⟨_, h1, h2⟩, h3⟩
    · exact hok.elim
    · have hx : x ∈ (if b1 = b2 then [Chc.blk b1] else [Chc.blk b1, Chc.blk b2]) := hx
      split at hx
      · rw [List.mem_singleton.mp hx]; show b1 < 3; omega
      · rcases List.mem_cons.mp hx with e | hx
        · rw [e]; show b1 < 3; omega
        · rw [List.mem_singleton.mp hx]; show b2 < 3; omega
  | _ => rw [List.mem_singleton.mp hx]; exact True.intro
section
variable {T : List (Addr × Str)} {X : Cx} {σ : L2.St} {H : Hp} {e a b c o iter elt : Expr} {d : PyData} {ds es ss : List PyData} {D : Ends} {rest : List Stmt} {pos p2 pt : Pos} {n : Nat} {Q : VK} {v w : V}
/-- [elt for x in a tuple of data], each element data -/
theorem el_lcM {scope : Scope} {own : List (Str × Nat)} {x : Str} (j : Nat) (f : PyData → PyData) (c : Cok n X) (ok : BlkOk X.N X.env.scope scope own) (hi : EvD T X iter σ H (.tuple ss)) (hz : ss.length ≤ 1000)
    (hx : X.N[j]? = some x) (hown : j ∈ own.map (·.2)) (hlx : (relS scope X.env.scope).names.lookup x = some .local)
    (he : ∀ (s : Shared) (Hs : Hp) (C : Addr) (cl : List (Str × Addr)) (fp : List Addr) (src : PyData) (v : V) (H1 : Hp), src ∈ ss → Ex T H H1 → DT X.K H1 v src → EvD T (X.blk s Hs scope (compEnvC scope cl C X.env) fp) elt ((wipe σ (own.map (·.2))).set j (some v)) H1 (f src))
    (hw : ∀ v, wipe ((wipe σ (own.map (·.2))).set j v) (own.map (·.2)) = wipe σ (own.map (·.2)))
    (hs : ∀ x, foldedSetIterable iter X.env x = pure x := by intro _; rfl) : EvL T X (.ListComp elt [⟨.Name x pt, iter, [], 0⟩] scope pos) σ H (fun ds => ds = ss.map f) :=
  EvL.imp (el_lcT (R := fun d => d = .tuple ss) j (fun ss' done => ss' = ss → done = (ss.take done.length).map f) c ok (hi.r ⟨ss, rfl, hz, rfl⟩) (fun _ _ => rfl) hx hown hlx
    (fun s Hs C cl fp ss' i src done v H1 hR hsrc hl hd c1 hv => by
      have e : ss' = ss := by injection hR
      subst e
      refine (he s Hs C cl fp src v H1 (List.mem_of_getElem? hsrc) c1 hv).r fun _ => ?_
      rw [List.length_append, hl]
      show done ++ [f src] = (ss'.take (i + 1)).map f
      rw [List.take_succ, hsrc, List.map_append, ← hl, ← hd rfl]
      rfl) hw hs) fun ds ⟨ss', hR, hl, hd⟩ => by
    have e : ss' = ss := by injection hR
    subst e
    rw [hd rfl, hl, List.take_length]
end
section
variable {P : Program} {w : World} {K : PySem.W.Frag} {mg : Str → Option Value} {base : Heap} {T : List (Addr × Str)}
/-! ### is_choice -/
theorem sc_is_choice : FnScope ["choices", "thing", "choice"] ["choices", "thing"] (defScope (top 38)) := ⟨rfl, rfl, rfl, by decide +kernel, rfl, by decide +kernel, by decide +kernel⟩
structure PreIs (a : List Chc × Chc) : Prop where
  mem : a.2 ∈ a.1
  b : ∀ x ∈ a.1, ChcB x
  len : a.1.length ≤ 1000
abbrev spIs (K : PySem.W.Frag) (T : List (Addr × Str)) : Sp' := spF K T (fun a : List Chc × Chc => [.tuple (a.1.map Chc.d), a.2.d]) PreIs fun a d => d = .bool true
theorem g_is_choice (F : At K mg "is_choice" 38) (B : Blt mg) : GDef P w K mg base 1 "is_choice" (spIs K T) := by
  refine F.okF sc_is_choice (fun _ _ _ _ _ _ us hl => match us, hl with | [_, _], _ => rfl) (fun _ => rfl) fun f cdv Ar outer s H vs Q ⟨l, ch⟩ k hp hv q => ?_
  obtain ⟨hm, hb, hz⟩ := hp
  have hz : l.length ≤ 1000 := hz
  obtain ⟨v1, v2, rfl, h1, h2⟩ := hv.inv2
  refine ws_ret (T := T) (d := .bool true) (ed_cmp ((ec_inStrs (xs := l.map fun x => x.d.shown) (ed_repr k B.repr (ed_name 1 h2) (hb ch hm).sm.shw) (EvL.imp (el_lcM (ss := l.map Chc.d) (own := [("choice", 2)]) 2 (fun d => .str d.shown) k (blkOk_by rfl) (ed_name 0 h1) (by rw [List.length_map]; exact hz) rfl (by simp) rfl (fun s' Hs C cl fp src v H1 hs c1 hv => ?_) (fun _ => rfl)) fun ds e => ?_)).is ?_)) fun v H1 c1 hd => q v H1 _ c1 rfl hd
  · obtain ⟨x, hx, rfl⟩ := List.mem_map.mp hs
    exact ed_repr (blkC_ok k) B.repr (ed_name 2 hv) (hb x hx).sm.shw
  · rw [e, List.map_map, List.map_map]; rfl
  · exact decide_eq_true (List.mem_map.mpr ⟨ch, hm, rfl⟩)
end
end K7
/-! ## K7Q -/
set_option Elab.async false
set_option linter.all false
set_option maxRecDepth 100000
set_option maxHeartbeats 4000000
/-! enumerate over a tuple. -/
namespace PySem
open Sem (wp)
set_option maxHeartbeats 1000000 in
theorem k7_meets_enum (l : Addr) (items : Array Value) :
    Meets (Builtin.«enumerate.__new__» ⟨[.type "enumerate", .ref l], []⟩) (fun _ R s => s.heap.IsTuple l items ∧
      R (.ok (.ret (.ref (s.heap.push { cls := .type "tuple_iterator", data := .fields #[.ref l, .int 0 0] }).objs.size)))
        { s with heap := (s.heap.push { cls := .type "tuple_iterator", data := .fields #[.ref l, .int 0 0] }).push { cls := .type "enumerate", data := .fields #[.none, .bool false, .ref s.heap.objs.size, rawInt 0, .none, .none] } }) :=
  .of_wp fun prog w A R s h => by
    obtain ⟨hp, g, d, tk, os⟩ := s; obtain ⟨ht, h⟩ := h
    have hsub := sub_enumerate
    wp_walk using wpAny_pyIter_tuple ht
    refine wpAny_stack_any fun st => wpAny_pure ?_
    split
    · rename_i c _ _ _ _ _
      cases (c == Value.type "enumerate")
      · wp_walk using wpAny_pyIter_tuple ht
        exact ⟨_, rfl, h⟩
      · wp_walk using wpAny_pyIter_tuple ht
        exact ⟨_, rfl, h⟩
    · wp_walk using wpAny_pyIter_tuple ht
      exact ⟨_, rfl, h⟩
section
variable {prog : Program} {w : World} {A : Around} {E : Value → Shared → Prop} {s : Shared}
theorem k7_call_enum {l : Addr} {items : Array Value} {Q : Value → Shared → Prop} (hL : s.heap.IsTuple l items)
    (h : ∀ h', IsEnum h' (s.heap.objs.size + 1) s.heap.objs.size 0 .none → h'.IsTupleIter s.heap.objs.size l 0 → h'.objs.size = s.heap.objs.size + 2 →
      (∀ b o, s.heap.get? b = some o → h'.get? b = some o) → Q (.ref (s.heap.objs.size + 1)) { s with heap := h' }) :
    wpAny (model prog w) A (call (.type "enumerate") [.ref l]) Q E s := by
  refine callType_new F.called_enumerate (by decide) (F.typeCall_enumerate_1 _) (F.newCall_enumerate_1 _) (fun obj => F.args_object_init_2 obj _) F.entry_enumerate_new
    (k7_meets_enum l items) ⟨hL, ?_⟩
  have hz : (s.heap.push { cls := .type "tuple_iterator", data := .fields #[.ref l, .int 0 0] }).objs.size = s.heap.objs.size + 1 := Heap.size_push ..
  show _ ∧ _
  rw [hz]
  have he : IsEnum ((s.heap.push { cls := .type "tuple_iterator", data := .fields #[.ref l, .int 0 0] }).push
      { cls := .type "enumerate", data := .fields #[.none, .bool false, .ref s.heap.objs.size, rawInt 0, .none, .none] }) (s.heap.objs.size + 1) s.heap.objs.size 0 .none := by
    have := Heap.get?_push_size (s.heap.push { cls := .type "tuple_iterator", data := .fields #[.ref l, .int 0 0] })
      (o := { cls := .type "enumerate", data := .fields #[.none, .bool false, .ref s.heap.objs.size, rawInt 0, .none, .none] }) rfl
    rw [hz] at this; exact this
  refine ⟨⟨_, he, rfl⟩, h _ he ⟨_, Heap.get?_push_of_some _ (Heap.get?_push_size _ rfl), rfl, rfl⟩ (by rw [Heap.size_push, hz]) fun b o x => Heap.get?_push_of_some _ (Heap.get?_push_of_some _ x)⟩
end
end PySem
namespace K7
open PySem PySem.Spec PyProof.Rows L2
def IteT (K : PySem.W.Frag) (a : Addr) : It :=
  ⟨fun i H => ∃ (xs : List V) (x : V), SqT K H a xs ∧ xs[i]? = some x, fun i H v H' => ∃ T x, v = .ref T ∧ H T = none ∧ H' = upd H T (.tup [.int (i : Nat), x]) ∧ ∀ xs, SqT K H a xs → xs[i]? = some x, fun i H => ∃ xs : List V, SqT K H a xs ∧ xs.length = i⟩
theorem turn_enumT {P : Program} {w : World} {K : PySem.W.Frag} {elts : List Expr} {kk : Nat} {tpos : Pos} (a e it : Addr) (items : Array Value) (hne : e ≠ it) (hat : a ≠ it) (hae : a ≠ e) :
    Turn P w K (.Tuple elts kk tpos) (IteT K a) [e, it] e (fun i h => (∃ old, IsEnum h e it ((i : Nat) : Int) old) ∧ h.IsTupleIter it a i) where
  mem := by simp
  obj := fun i h st b hb => by
    obtain ⟨⟨old, he⟩, ⟨o, ho, hc, hd⟩⟩ := st
    have e' : b = e ∨ b = it := by simpa using hb
    rcases e' with z | z
    · rw [z]; exact ⟨_, he, fun v q => nomatch q⟩
    · rw [z]; exact ⟨o, ho, fun v q => by rw [hd] at q; cases q⟩
  keep := fun i h h' st k => let ⟨⟨old, he⟩, hi⟩ := st; ⟨⟨old, k e (by simp) _ he⟩, hi.at fun o q => k it (by simp) o q⟩
  item := by
    intro X hP hw hK hc i pins s σ H E I hf st hg
    subst hP hw hK
    obtain ⟨⟨old, he⟩, hit⟩ := st
    obtain ⟨xs, x, hq, hx⟩ := hg
    obtain ⟨its, rv, p, hz⟩ := I.tuple hq
    obtain ⟨u, hu, ru⟩ := rv.get hx
    have hi : i < its.toArray.size := by simpa using (List.getElem?_eq_some_iff.mp hu).1
    have hel : e < s.heap.objs.size := Heap.lt_size he
    have hil : it < s.heap.objs.size := by obtain ⟨_, q, _⟩ := hit; exact Heap.lt_size q
    refine wpAny_pyNext_enum_itemC (Draws.tuple (A := X.A.in1) (I.ok.hd hc) it a hat its.toArray) he ⟨hit, p⟩ hi hne (by simp [hne, Ne.symm hae]) fun y h' tk hy ho hst hT hsz hk => ?_
    have ey : y = u := by
      have h1 : its[i]? = some y := by simpa using hy
      rw [hu] at h1
      exact (Option.some.inj h1).symm
    subst ey
    refine ⟨_, rfl, wpAny_letOwnedTupleGo_enum (s := { s with heap := h', toks := tk + 1 }) ho fun h'' he' sb => ?_⟩
    have hT2 : h''.get? s.heap.objs.size = some { cls := .type "tuple", data := .seq #[.int i tk, y] } := (sb.2 _ (Nat.ne_of_gt hel)).trans hT
    have new : ObjOk X.prog X.w (upd H s.heap.objs.size (.tup [.int (i : Nat), x])) h'' s.heap.objs.size (.tup [.int (i : Nat), x]) :=
      ⟨by show 2 ≤ sizeLine; decide, [.int i tk, y], .cons ⟨_, rfl⟩ (.cons ru .nil), ⟨_, hT2, rfl, _, rfl⟩⟩
    have I1 : Inv X pins σ (upd H s.heap.objs.size (.tup [.int (i : Nat), x])) { s with heap := h'', toks := tk + 1 } :=
      I.turnedNew (ch := [e, it]) (fun b ob hb q => (sb.2 b (fun z => hb (by simp [z]))).trans (hk b ob (fun z => hb (by simp [z])) (fun z => hb (by simp [z])) q)) hf (Nat.le_refl _) new
    refine ⟨.ref s.heap.objs.size, _, I1, rfl, ⟨_, x, rfl, I.hok.fresh (Nat.le_refl _), rfl, fun ys hy => by rw [I.tuple_inj hy hq]; exact hx⟩, ⟨⟨y, ?_⟩, hst.1.at fun o q => (sb.2 it (Ne.symm hne)).trans q⟩, fun b hb => ?_⟩
    · have e1 : ((i + 1 : Nat) : Int) = (i : Int) + 1 := by omega
      rw [e1]; exact he'
    · have hb' : b < s.heap.objs.size := by
        have e' : b = e ∨ b = it := by simpa using hb
        rcases e' with z | z
        · rw [z]; exact hel
        · rw [z]; exact hil
      rw [upd_ne (Nat.ne_of_lt hb')]
      exact (hf b hb).1
  done := by
    intro X hP hw hK hc i pins s σ H E I hf st hg
    subst hP hw hK
    obtain ⟨⟨old, he⟩, hit⟩ := st
    obtain ⟨xs, hq, hx⟩ := hg
    obtain ⟨its, rv, p, hz⟩ := I.tuple hq
    obtain ⟨f0, f1, f2, f3, f4, f5⟩ := hf it (by simp)
    have hl := rv.length
    have e2 : i = its.toArray.size := by simp; omega
    subst e2
    exact wpAny_pyNext_enum_endD (Draws.tuple (A := X.A.in1) (I.ok.hd hc) it a hat its.toArray) he ⟨hit, p⟩ fun h' eb => ⟨rfl, I.turned (t' := s.toks) (fun b o hb q => eb b o hb q) f0 f1 f3 f4 f5⟩
  self := fun A i s Q E st h => let ⟨⟨_, he⟩, _⟩ := st; wpAny_pyIter_enum he h
def iEnumT (K : PySem.W.Frag) (ta : TA) : TI := fun σ H R => ta σ H fun vs H1 => ∃ a xs, vs = [.ref a] ∧ SqT K H1 a xs ∧ R (IteT K a) H1
theorem pi_enumT {X : Cx} {e : Expr} {ta : TA} {p pos tpos : Pos} {elts : List Expr} {kk : Nat} (hg : Gl X "enumerate") (hm : X.mg "enumerate" = none) (ha : PA X [e] ta) (hs : starEach [e] X.env = [(false, eval e X.env)] := by rfl) :
    PI X (.Tuple elts kk tpos) (.Call (.Name "enumerate" p) [e] [] pos) (iEnumT X.K ta) := by
  refine ⟨fun pins s σ H R I h => ?_⟩
  refine Call_ (ld_blt I hg hm boot_enumerate (PyProof.Rows.callWith_type1 (thn (ha.run pos pins s σ H _ I h) fun us s1 ⟨vs, H1, I1, r1, q1⟩ => ?_) hs rfl))
  obtain ⟨a, xs, ex, hq, q⟩ := q1
  subst ex
  cases r1 with
  | cons r rr =>
    cases rr
    cases r
    obtain ⟨its, rv, p', hz⟩ := I1.tuple hq
    have hal : a < s1.heap.objs.size := by obtain ⟨o, q, _⟩ := p'; exact Heap.lt_size q
    refine k7_call_enum p' fun h' he hit hsz hk => wpAny_pyIter_enum he ?_
    have I2 : Inv X pins σ H1 { s1 with heap := h' } := I1.kept (t' := s1.toks) hk
    refine ⟨s1.heap.objs.size + 1, [s1.heap.objs.size + 1, s1.heap.objs.size], _, _, H1, rfl, I2, turn_enumT a (s1.heap.objs.size + 1) s1.heap.objs.size its.toArray (Nat.succ_ne_self _) (Nat.ne_of_lt hal) (Nat.ne_of_lt (Nat.lt_succ_of_lt hal)), ⟨⟨.none, he⟩, hit⟩, fun b hb => ?_, q⟩
    have e' : b = s1.heap.objs.size + 1 ∨ b = s1.heap.objs.size := by simpa using hb
    have hle : s1.heap.objs.size ≤ b := by
      rcases e' with z | z
      · rw [z]; exact Nat.le_add_right _ _
      · rw [z]; exact Nat.le_refl _
    exact I1.fpOk hle (I1.hok.fresh hle)
theorem walk_enumT {K : PySem.W.Frag} {a : Addr} {xs : List V} : Walk (IteT K a) xs.length (fun H => SqT K H a xs) (YPair (fun i => some (.int (i : Nat))) (fun i => xs[i]?)) := by
  refine ⟨fun i _ hi q => ⟨xs, xs[i], q, by simp [hi]⟩, fun _ q => ⟨xs, q, rfl⟩, fun i H v H' _ q y => ?_⟩
  obtain ⟨T, x, h1, h2, h3, h4⟩ := y
  exact ⟨T, .int (i : Nat), x, h1, h2, h3, rfl, h4 xs q⟩
end K7
/-! ## K7S -/
set_option Elab.async false
set_option linter.all false
set_option maxRecDepth 100000
set_option maxHeartbeats 4000000
/-! is_spot, is_step, need_way; ways; gone_way. -/
namespace K7
open PySem PySem.Spec PyProof.Rows L2
section
variable {T : List (Addr × Str)} {X : Cx} {σ : L2.St} {H : Hp} {e a b c o iter elt : Expr} {d : PyData} {ds ss : List PyData} {es : List Expr} {D : Ends} {rest : List Stmt} {pos p2 pt : Pos} {n : Nat} {Q : VK} {v w : V}
/-! ### arguments that are told by a relation -/
def EvAR (T : List (Addr × Str)) (X : Cx) (es : List Expr) (σ : L2.St) (H : Hp) (Rs : List PyData → Prop) : Prop := ∀ H1, Ex T H H1 → ∀ Q : List V → Hp → Prop, (∀ vs H2 ds, Ex T H1 H2 → Rs ds → DTs X.K H2 vs ds → Q vs H2) → wA X es σ H1 Q
theorem EvA.r (h : EvA T X es σ H ds) : EvAR T X es σ H (fun d => d = ds) := fun H1 c Q q => h H1 c Q fun vs H2 c2 hv => q vs H2 ds c2 rfl hv
theorem ear_cons {R : PyData → Prop} {Rs : List PyData → Prop} (h : EvR T X e σ H R) (hs : EvAR T X es σ H Rs) (hst : starEach (e :: es) X.env = (false, eval e X.env) :: starEach es X.env := by rfl) : EvAR T X (e :: es) σ H (fun l => ∃ d ds, l = d :: ds ∧ R d ∧ Rs ds) := fun H1 c Q q =>
  wA_cons (h H1 c _ fun v H2 d c2 hr hv => hs H2 (c.trans c2) _ fun vs H3 ds c3 hrs hvs => q _ H3 _ (c2.trans c3) ⟨d, ds, rfl, hr, hrs⟩ (.cons (c3.dt hv) hvs)) hst
theorem er_cfR {A : Type} {enc : A → List PyData} {pre : A → Prop} {R : A → PyData → Prop} {Rs : List PyData → Prop} {R' : PyData → Prop} {j n : Nat} {x : Str} {p pos : Pos} {es : List Expr} (G : GDef X.prog X.w X.K X.mg X.base j x (spF X.K T enc pre R)) (c : Cok n X) (ha : EvAR T X (e :: es) σ H Rs) (hp : ∀ ds, Rs ds → ∃ a, enc a = ds ∧ pre a ∧ ∀ d, R a d → R' d) (hk : j ≤ n := by omega) (hg : Gl X x := by rfl)
    (hdb : (x == ("__debug__" : Str)) = false := by decide) (he : starEach (e :: es) X.env = (false, eval e X.env) :: starEach es X.env := by rfl) (hpl : (backTo pos (starEach es X.env)).any (·.1) = false := by rfl) :
    EvR T X (.Call (.Name x p) (e :: es) [] pos) σ H R' := fun H1 c1 Q q =>
  wE_call G c hk hg (ha H1 c1 _ fun vs H2 ds c2 hr hv => by
    obtain ⟨a, e1, h1, h2⟩ := hp ds hr
    exact ⟨a, h1, by rw [e1]; exact hv, fun v H3 d c3 hr hd => q v H3 d (c2.trans c3) (h2 d hr) hd⟩) hdb he hpl
theorem wS.imp {sts : List Stmt} {N : L2.St → Hp → Prop} (h : wS X sts { D with nx := N } σ H) (k : ∀ σ' H', N σ' H' → D.nx σ' H') : wS X sts D σ H := fun pins s I => thn (h pins s I) fun f s' z => by
  cases f with
  | next => obtain ⟨σ', H', I', q⟩ := z; exact ⟨σ', H', I', k _ _ q⟩
  | ret v => exact z
  | brk => exact z
  | cont => exact z
/-- an if whose ways meet again -/
theorem ws_ifJ {c0 : Expr} {p1 p3 : List Stmt} {k : Bool} (J : L2.St → Hp → Prop) (h : EvT T X c0 σ H k) (h1 : k = true → ∀ H1, Ex T H H1 → wS X p1 { D with nx := J } σ H1) (h2 : k = false → ∀ H1, Ex T H H1 → wS X p3 { D with nx := J } σ H1) (q : ∀ σ' H', J σ' H' → wS X rest D σ' H') : wS X (.If c0 p1 p3 pos :: rest) D σ H :=
  ws_if h (fun z H1 c1 => wS.imp (D := { D with nx := wS X rest D }) (h1 z H1 c1) q) fun z H1 c1 => wS.imp (D := { D with nx := wS X rest D }) (h2 z H1 c1) q
theorem ws_dropR {R : PyData → Prop} (h : EvR T X e σ H R) (q : ∀ H1, Ex T H H1 → wS X rest D σ H1) (hs : swapsWith e none pos.line X.env = pure false := by rfl) : wS X (.Expr e pos :: rest) D σ H := ws_drop (h H .refl _ fun v H1 d c1 _ _ => q H1 c1) hs
end
section
variable {P : Program} {w : World} {K : PySem.W.Frag} {mg : Str → Option Value} {base : Heap} {T : List (Addr × Str)}
theorem rn3_plain : ∀ x ∈ rn3, plainW x := by
  have h : ∀ x ∈ rn3, (decide (1 ≤ x.length) && decide (x.length ≤ 8) && x.cps.toList.all fun c => decide (c ∈ lettersS.cps.toList)) = true := by decide +kernel
  intro x hx
  have := h x hx
  simp only [Bool.and_eq_true, decide_eq_true_eq, List.all_eq_true] at this
  exact ⟨this.1.1, this.1.2, this.2⟩
/-! ### is_spot -/
theorem sc_is_spot : FnScope ["thing"] ["thing"] (defScope (top 36)) := ⟨rfl, rfl, rfl, by decide +kernel, rfl, by decide +kernel, by decide +kernel⟩
abbrev spSpot (K : PySem.W.Frag) (T : List (Addr × Str)) : Sp' := spF K T (fun p : Plc => [p.d]) (fun p => p.r ∈ rn3) fun _ d => d = .bool true
theorem g_is_spot (F : At K mg "is_spot" 36) (B : Blt mg) (G : GDef P w K mg base 1 "is_number" (spNum K T)) (Gw : GDef P w K mg base 1 "is_word" (spWord K T)) : GDef P w K mg base 2 "is_spot" (spSpot K T) := by
  refine F.okF sc_is_spot (fun _ _ _ _ _ _ us hl => match us, hl with | [_], _ => rfl) (fun _ => rfl) fun f cdv Ar outer s H vs Q p k hp hv q => ?_
  obtain ⟨v1, rfl, h1⟩ := hv.inv1
  refine ws_when (T := T) (k := !true || (!decide ((3 : Int) = 3) || !true)) (et_w (ew_or (et_not (k := true) (et_val (ed_isi (ty := "tuple") B.isinstance B.tuple (ed_name 0 h1) rfl (by decide +kernel)))) fun _ => ew_or (et_cmp (ec_neI ((ed_lenT (ds := [.str p.r, .int p.b, .int p.k]) B.len (ed_name 0 h1)).is rfl) ed_int)) fun _ => ew_or1 (et_not (k := true) (et_val (ed_cf Gw k (.str p.r) (ea_cons (ed_at0 (ed_name 0 h1)) ea_nil) (.inr ⟨p.r, rfl, rn3_plain _ hp⟩)))))) (fun z => by cases z) fun _ H1 c1 => ?_
  exact ws_ret (T := T) (d := .bool true) (ed_and (k := true) (k2 := true) (ed_cf G k (.int p.b) (ea_cons (ed_at1 (ed_name 0 (c1.dt h1))) ea_nil) (.inl ⟨_, rfl⟩)) fun _ => ed_cf G k (.int p.k) (ea_cons (ed_at2 (ed_name 0 (c1.dt h1))) ea_nil) (.inl ⟨_, rfl⟩)) fun v H2 c2 hd => q v H2 _ (c1.trans c2) rfl hd
/-! ### is_step -/
theorem sc_is_step : FnScope ["thing"] ["thing"] (defScope (top 37)) := ⟨rfl, rfl, rfl, by decide +kernel, rfl, by decide +kernel, by decide +kernel⟩
abbrev spStep (K : PySem.W.Frag) (T : List (Addr × Str)) : Sp' := spF K T (fun p : Stp => [p.d]) (fun p => p.1.r ∈ rn3) fun _ d => d = .bool true
theorem g_is_step (F : At K mg "is_step" 37) (B : Blt mg) (G : GDef P w K mg base 2 "is_spot" (spSpot K T)) : GDef P w K mg base 3 "is_step" (spStep K T) := by
  refine F.okF sc_is_step (fun _ _ _ _ _ _ us hl => match us, hl with | [_], _ => rfl) (fun _ => rfl) fun f cdv Ar outer s H vs Q p k hp hv q => ?_
  obtain ⟨v1, rfl, h1⟩ := hv.inv1
  exact ws_ret (T := T) (d := .bool (true && (decide ((2 : Int) = 2) && true))) (ed_andB (k := true) (ed_isi (ty := "tuple") B.isinstance B.tuple (ed_name 0 h1) rfl (by decide +kernel)) fun _ => ed_andB (ed_cmp (ec_eqI ((ed_lenT (ds := [p.1.d, p.2.d]) B.len (ed_name 0 h1)).is rfl) ed_int)) fun _ => ed_one (ed_cf G k p.1 (ea_cons (ed_at0 (ed_name 0 h1)) ea_nil) hp)) fun v H2 c2 hd => q v H2 _ c2 rfl hd
/-! ### need_way -/
theorem sc_need_way : FnScope ["truth", "word", "at"] ["truth", "word", "at"] (defScope (top 32)) := ⟨rfl, rfl, rfl, by decide +kernel, rfl, by decide +kernel, by decide +kernel⟩
abbrev spNeed (K : PySem.W.Frag) (T : List (Addr × Str)) : Sp' := spF K T (fun p : PyData × PyData => [.bool true, p.1, p.2]) (fun _ => True) fun _ d => d = .none
theorem g_need_way (F : At K mg "need_way" 32) : GDef P w K mg base 1 "need_way" (spNeed K T) := by
  refine F.okF sc_need_way (fun _ _ _ _ _ _ us hl => match us, hl with | [_, _, _], _ => rfl) (fun _ => rfl) fun f cdv Ar outer s H vs Q p k hp hv q => ?_
  obtain ⟨v1, v2, v3, rfl, h1, h2, h3⟩ := hv.inv3
  exact ws_when (T := T) (k := false) (et_not (k := true) (et_val (ed_name 0 h1))) (fun z => by cases z) fun _ H1 c1 => wS_nil (q .non H1 _ c1 rfl .non)
end
end K7
/-! ## K7U -/
set_option Elab.async false
set_option linter.all false
set_option maxRecDepth 100000
set_option maxHeartbeats 4000000
/-! Ways, plainly. -/
namespace K7
open PySem PySem.Spec PyProof.Rows L2
def stp (c : Code) (s : Option Plc × List Plc) (x : Stp) : Option Plc × List Plc := match c.row x.1 with
  | some op => led x.1 x.2 s.2 op
  | none => s
def st (c : Code) (way : List Stp) : Option Plc × List Plc := way.foldl (stp c) (some main, [])
theorem st_snoc (c : Code) (way : List Stp) (x : Stp) : st c (way ++ [x]) = stp c (st c way) x := by unfold st; rw [List.foldl_append]; rfl
/-- each step stands where the steps ahead of it lead, with a choice that is there -/
def Good (c : Code) (way : List Stp) : Prop := ∀ i s, way[i]? = some s → (st c (way.take i)).1 = some s.1 ∧ ∃ op, c.row s.1 = some op ∧ s.2 ∈ c.chs op
theorem Good.take {c : Code} {way : List Stp} (h : Good c way) (n : Nat) : Good c (way.take n) := fun i s e => by
  rw [List.getElem?_take] at e
  split at e
  · rename_i hi
    rw [List.take_take, Nat.min_eq_left (Nat.le_of_lt hi)]
    exact h i s e
  · cases e
theorem Good.snoc {c : Code} {way : List Stp} {x : Stp} {op : Op} (h : Good c way) (h1 : (st c way).1 = some x.1) (h2 : c.row x.1 = some op) (h3 : x.2 ∈ c.chs op) : Good c (way ++ [x]) := fun i s e => by
  by_cases hi : i < way.length
  · rw [List.getElem?_append_left hi] at e
    rw [List.take_append_of_le_length (Nat.le_of_lt hi)]
    exact h i s e
  · have : i = way.length := by
      have := (List.getElem?_eq_some_iff.mp e).1
      rw [List.length_append] at this
      simp only [List.length_cons, List.length_nil] at this
      omega
    subst this
    rw [List.getElem?_concat_length] at e
    cases e
    rw [List.take_left']
    · exact ⟨h1, op, h2, h3⟩
    · rfl
/-! ### where the way can stand -/
structure StOk (c : Code) (s : Option Plc × List Plc) : Prop where
  here : ∀ p, s.1 = some p → c.has p
  calls : ∀ p ∈ s.2, c.has p
theorem has_main {c : Code} (oc : OkCode c) : ∃ bs, c.blks "main" = some bs ∧ bs ≠ [] := by
  have h1 : ("main" : Str) ∈ c.rts.map (·.1) := by
    rcases oc.rn with e | e | e <;> rw [e] <;> decide +kernel
  obtain ⟨x, hx, e⟩ := List.mem_map.mp h1
  unfold Code.blks
  cases hf : c.rts.find? (fun p => decide (p.1 = ("main" : Str))) with
  | none => exact absurd (List.find?_eq_none.mp hf x hx) (by simp [e])
  | some y =>
    refine ⟨y.2, rfl, fun z => ?_⟩
    have := (oc.bs y (List.mem_of_find?_eq_some hf)).1
    rw [z] at this
    exact absurd this (by decide)
theorem blk_has {c : Code} {r : Str} {bs : List Blk} {b : Nat} (h : c.blks r = some bs) (hb : b < bs.length) : c.has ⟨r, b, 0⟩ := by
  refine ⟨bs[b], ?_, Nat.zero_le _⟩
  unfold Code.blk
  rw [h, Option.bind_some]
  exact List.getElem?_eq_getElem hb
theorem blks_ne {c : Code} (oc : OkCode c) {r : Str} {bs : List Blk} (h : c.blks r = some bs) : 0 < bs.length := (oc.bs _ (blks_mem h)).1
theorem main_has {c : Code} (oc : OkCode c) : c.has main := by
  obtain ⟨bs, h1, h2⟩ := has_main oc
  exact blk_has h1 (blks_ne oc h1)
theorem next_has {c : Code} (oc : OkCode c) {p : Plc} {op : Op} (h : c.has p) (hr : c.row p = some op) (ho : OkRow c op) : c.has p.next := by
  obtain ⟨b, h1, h2⟩ := h
  refine ⟨b, h1, ?_⟩
  show p.k + 1 ≤ b.1.length
  by_cases hk : p.k < b.1.length
  · exact hk
  · unfold Code.row at hr
    rw [h1, Option.bind_some, if_neg hk] at hr
    cases hr
    obtain ⟨bs, b', e1, e2, e3⟩ := row_inv (c := c) (p := p) (op := b.2) (by unfold Code.row; rw [h1, Option.bind_some, if_neg hk])
    have hfin := ((oc.bs _ (blks_mem e1)).2.2 b' (List.mem_of_getElem? e2)).fin
    have eb : b' = b := by
      unfold Code.blk at h1
      rw [e1, Option.bind_some, e2] at h1
      exact Option.some.inj h1
    rw [eb] at hfin
    exfalso
    revert ho hfin
    cases b.2 <;> (intro ho hfin; first | exact ho.elim | exact hfin.elim)
theorem led_ok {c : Code} (oc : OkCode c) {p : Plc} {op : Op} {ch : Chc} {calls : List Plc} (hp : c.has p) (hr : c.row p = some op) (hc : ch ∈ c.chs op) (hcs : ∀ q ∈ calls, c.has q) : StOk c (led p ch calls op) := by
  obtain ⟨hok, _, _⟩ := oc.row_ok hr
  have nx : OkRow c op → c.has p.next := fun h => next_has oc hp hr h
  cases op with
  | call r =>
    have ho : OkRow c (.call r) := by
      rcases hok with h | ⟨_, _, h, _⟩
      · exact h
      · exact h.elim
    obtain ⟨bs, hb⟩ := id ho
    refine ⟨fun q e => ?_, fun q hq => ?_⟩
    · cases e
      exact blk_has hb (blks_ne oc hb)
    · rcases List.mem_append.mp hq with h | h
      · exact hcs q h
      · rw [List.mem_singleton.mp h]; exact nx ho
  | back =>
    rcases List.eq_nil_or_concat calls with e | ⟨init, l, e⟩
    · rw [e]
      exact ⟨fun q e => (by cases e), fun q hq => (by cases hq)⟩
    · have e : calls = init ++ [l] := by rw [e]; try simp
      rw [e] at hcs ⊢
      unfold led
      simp only [List.getLast?_concat, List.dropLast_concat]
      exact ⟨fun q e => (by cases e; exact hcs l (by simp)), fun q hq => hcs q (List.mem_append_left _ hq)⟩
  | go b =>
    rcases hok with h | ⟨bs, hb, h, _⟩
    · exact h.elim
    · exact ⟨fun q e => (by cases e; exact blk_has hb h), hcs⟩
  | iff o b1 b2 =>
    rcases hok with h | ⟨bs, hb, ⟨_, h1, h2⟩, _⟩
    · exact h.elim
    · have hx : ch ∈ (if b1 = b2 then [Chc.blk b1] else [Chc.blk b1, Chc.blk b2]) := hc
      have hx2 : ch = .blk b1 ∨ ch = .blk b2 := by
        split at hx
        · exact .inl (List.mem_singleton.mp hx)
        · simpa using hx
      refine ⟨fun q e => ?_, hcs⟩
      rcases hx2 with z | z
      · rw [z] at e; cases e; exact blk_has hb h1
      · rw [z] at e; cases e; exact blk_has hb h2
  | load x a =>
    rcases hok with h | ⟨_, _, h, _⟩
    · exact ⟨fun q e => (by cases e; exact nx h), hcs⟩
    · exact h.elim
  | store a o =>
    rcases hok with h | ⟨_, _, h, _⟩
    · exact ⟨fun q e => (by cases e; exact nx h), hcs⟩
    · exact h.elim
  | touch a =>
    rcases hok with h | ⟨_, _, h, _⟩
    · exact ⟨fun q e => (by cases e; exact nx h), hcs⟩
    · exact h.elim
  | set x w o1 o2 =>
    rcases hok with h | ⟨_, _, h, _⟩
    · exact ⟨fun q e => (by cases e; exact nx h), hcs⟩
    · exact h.elim
  | tell o =>
    rcases hok with h | ⟨_, _, h, _⟩
    · exact ⟨fun q e => (by cases e; exact nx h), hcs⟩
    · exact h.elim
  | need o =>
    rcases hok with h | ⟨_, _, h, _⟩
    · exact ⟨fun q e => (by cases e; exact nx h), hcs⟩
    · exact h.elim
theorem st_ok {c : Code} (oc : OkCode c) : ∀ {n : Nat} {way : List Stp}, way.length = n → Good c way → StOk c (st c way)
  | 0, way, hn, _ => by
    rw [List.length_eq_zero_iff.mp hn]
    exact ⟨fun p e => (by cases e; exact main_has oc), fun p hp => (by cases hp)⟩
  | n + 1, way, hn, h => by
    rcases List.eq_nil_or_concat way with e | ⟨init, x, e⟩
    · rw [e] at hn; cases hn
    · have e : way = init ++ [x] := by rw [e]; try simp
      subst e
      have hl : init.length = n := by rw [List.length_append] at hn; simpa using hn
      have hi : Good c init := by
        have := h.take init.length
        rwa [List.take_left' rfl] at this
      have ih := st_ok oc hl hi
      obtain ⟨h1, op, h2, h3⟩ := h init.length x (List.getElem?_concat_length ..)
      rw [List.take_left' rfl] at h1
      rw [st_snoc]
      unfold stp
      rw [h2]
      exact led_ok oc (ih.here _ h1) h2 h3 ih.calls
theorem led_len (p : Plc) (ch : Chc) (calls : List Plc) (op : Op) : (led p ch calls op).2.length ≤ calls.length + 1 := by
  cases op <;> first
    | (show calls.length ≤ _; omega)
    | (show (calls ++ [_]).length ≤ _; rw [List.length_append]; exact Nat.le_refl _)
    | skip
  unfold led
  cases h : calls.getLast? with
  | none => simp
  | some q => simp only [List.length_dropLast]; omega
theorem st_len (c : Code) : ∀ way : List Stp, (st c way).2.length ≤ way.length := by
  intro way
  unfold st
  have : ∀ (l : List Stp) (s : Option Plc × List Plc), (l.foldl (stp c) s).2.length ≤ s.2.length + l.length := by
    intro l
    induction l with
    | nil => intro s; exact Nat.le_refl _
    | cons x l ih =>
      intro s
      rw [List.foldl_cons, List.length_cons]
      have h1 := ih (stp c s x)
      have h2 : (stp c s x).2.length ≤ s.2.length + 1 := by
        unfold stp
        split
        · exact led_len _ _ _ _
        · omega
      omega
  have := this way (some main, [])
  simpa using this
/-! ### the last stores -/
def isStore : Op → Bool
  | .store _ _ => true
  | _ => false
def isLoad : Op → Bool
  | .load _ _ => true
  | _ => false
def putL (l : List (Cell × Plc)) (x : Cell) (p : Plc) : List (Cell × Plc) := if (l.any fun e => decide (e.1 = x)) = true then l.map (fun e => if e.1 = x then (e.1, p) else e) else l ++ [(x, p)]
def getL (l : List (Cell × Plc)) (x : Cell) : Option Plc := (l.find? fun e => decide (e.1 = x)).map (·.2)
def lastS (c : Code) (l : List (Cell × Plc)) (x : Stp) : List (Cell × Plc) := match c.row x.1, x.2 with
  | some (.store _ _), .cell k => putL l k x.1
  | _, _ => l
def lastL (c : Code) (way : List Stp) : List (Cell × Plc) := way.foldl (lastS c) []
def shS (c : Code) (way : List Stp) (x : Stp) : PyData := match c.row x.1, x.2 with
    | some (.load _ _), .cell k => .tuple [x.1.d, optD (getL (lastL c way) k)]
    | _, _ => .none
def shownD (c : Code) (way : List Stp) : PyData := match way.getLast? with
  | some x => shS c way.dropLast x
  | none => .none
theorem lastL_snoc (c : Code) (way : List Stp) (x : Stp) : lastL c (way ++ [x]) = lastS c (lastL c way) x := by unfold lastL; rw [List.foldl_append]; rfl
theorem shownD_snoc (c : Code) (way : List Stp) (x : Stp) : shownD c (way ++ [x]) = shS c way x := by unfold shownD; simp only [List.getLast?_concat, List.dropLast_concat]
theorem take_snoc {α : Type} {l : List α} {i : Nat} {x : α} (h : l[i]? = some x) : l.take (i + 1) = l.take i ++ [x] := by rw [List.take_succ, h]; rfl
end K7
/-! ## L0A -/
set_option Elab.async false
set_option linter.all false
set_option maxRecDepth 100000
set_option maxHeartbeats 4000000
/-! Places that can be met, plainly. -/
namespace K7
open PySem PySem.Spec PyProof.Rows L2
def Op.flow : Op → Bool
  | .call _ => false
  | .back => false
  | _ => true
/-- one step of spread: D: which routines can be passed -/
def Nx (c : Code) (D : Str → Prop) (ent : Bool) (p q : Plc) : Prop := ∃ op, c.row p = some op ∧ ((∃ r, op = .call r ∧ ((ent = true ∧ q = ⟨r, 0, 0⟩) ∨ (D r ∧ q = p.next))) ∨ (op.flow = true ∧ ∃ ch ∈ c.chs op, (led p ch [] op).1 = some q))
def Closed (c : Code) (D : Str → Prop) (ent : Bool) (S : Plc → Prop) : Prop := ∀ p, S p → ∀ q, Nx c D ent p q → S q
def ThrC (c : Code) (D : Str → Prop) : Prop := ∀ r bs, c.blks r = some bs → ∃ S : Plc → Prop, S ⟨r, 0, 0⟩ ∧ Closed c D false S ∧ ((∃ p, S p ∧ c.row p = some .back) → D r)
def Wf (c : Code) (D : Str → Prop) (r : Str) (p : Plc) : Prop := ∀ S : Plc → Prop, S ⟨r, 0, 0⟩ → Closed c D false S → S p
theorem Wf.start {c : Code} {D : Str → Prop} {r : Str} : Wf c D r ⟨r, 0, 0⟩ := fun S h _ => h
theorem Wf.step {c : Code} {D : Str → Prop} {r : Str} {p q : Plc} (h : Wf c D r p) (n : Nx c D false p q) : Wf c D r q := fun S a b => b p (h S a b) q n
inductive Stk (c : Code) (D : Str → Prop) (S : Plc → Prop) : Str → List Plc → Prop
  | nil {r : Str} : Stk c D S r []
  | snoc {r r' : Str} {pc : Plc} {calls : List Plc} : Stk c D S r' calls → (∃ bs, c.blks r' = some bs) → S pc → Wf c D r' pc → c.row pc = some (.call r) → Stk c D S r (calls ++ [pc.next])
theorem led_flow {p : Plc} {ch : Chc} {calls : List Plc} {op : Op} (h : op.flow = true) : led p ch calls op = ((led p ch [] op).1, calls) := by
  cases op <;> first | rfl | exact Bool.noConfusion h
theorem met_law {c : Code} {D : Str → Prop} {S : Plc → Prop} (oc : OkCode c) (ht : ThrC c D) (hs : Closed c D true S) (h0 : S main) : ∀ (n : Nat) (way : List Stp), way.length = n → Good c way → ∀ p, (st c way).1 = some p →
    S p ∧ ∃ r, (∃ bs, c.blks r = some bs) ∧ Wf c D r p ∧ Stk c D S r (st c way).2 := by
  intro n
  induction n with
  | zero =>
    intro way hn _ p hp
    rw [List.length_eq_zero_iff.mp hn] at hp ⊢
    cases hp
    obtain ⟨bs, hb, _⟩ := has_main oc
    exact ⟨h0, "main", ⟨bs, hb⟩, .start, .nil⟩
  | succ n ih =>
    intro way hn h p hp
    rcases List.eq_nil_or_concat way with e | ⟨init, x, e⟩
    · rw [e] at hn; cases hn
    · have e : way = init ++ [x] := by rw [e]; try simp
      subst e
      have hl : init.length = n := by rw [List.length_append] at hn; simpa using hn
      have hi : Good c init := by
        have := h.take init.length
        rwa [List.take_left' rfl] at this
      obtain ⟨h1, op, h2, h3⟩ := h init.length x (List.getElem?_concat_length ..)
      rw [List.take_left' rfl] at h1
      obtain ⟨hS, r, hbs, hW, hk⟩ := ih init hl hi x.1 h1
      have est : st c (init ++ [x]) = led x.1 x.2 (st c init).2 op := by
        rw [st_snoc]
        unfold stp
        rw [h2]
      rw [est] at hp ⊢
      by_cases hf : op.flow = true
      · rw [led_flow hf] at hp ⊢
        have nx : ∀ ent, Nx c D ent x.1 p := fun ent => ⟨op, h2, .inr ⟨hf, x.2, h3, hp⟩⟩
        exact ⟨hs _ hS _ (nx true), r, hbs, hW.step (nx false), hk⟩
      · cases op with
        | call r2 =>
          cases hp
          obtain ⟨hok, _, _⟩ := oc.row_ok h2
          have hb2 : ∃ bs, c.blks r2 = some bs := by
            rcases hok with h | ⟨_, _, h, _⟩
            · exact h
            · exact h.elim
          exact ⟨hs _ hS _ ⟨_, h2, .inl ⟨r2, rfl, .inl ⟨rfl, rfl⟩⟩⟩, r2, hb2, .start, .snoc hk hbs hS hW h2⟩
        | back =>
          have key : ∀ calls, Stk c D S r calls → (led x.1 x.2 calls .back).1 = some p → S p ∧ ∃ r, (∃ bs, c.blks r = some bs) ∧ Wf c D r p ∧ Stk c D S r (led x.1 x.2 calls .back).2 := by
            intro calls hk hp
            cases hk with
            | nil => cases hp
            | @snoc _ r' pc calls hk' hb' hS' hW' hr' =>
              unfold led at hp ⊢
              simp only [List.getLast?_concat, List.dropLast_concat] at hp ⊢
              cases hp
              obtain ⟨bs, hbs⟩ := hbs
              obtain ⟨S2, s1, s2, s3⟩ := ht r bs hbs
              have hD : D r := s3 ⟨x.1, hW S2 s1 s2, h2⟩
              have nx : ∀ ent, Nx c D ent pc pc.next := fun ent => ⟨_, hr', .inl ⟨r, rfl, .inr ⟨hD, rfl⟩⟩⟩
              exact ⟨hs _ hS' _ (nx true), r', hb', hW'.step (nx false), hk'⟩
          exact key _ hk hp
        | _ => exact absurd rfl hf
/-! ### all the places there can be -/
def allP : List Plc := rn3.flatMap fun r => (List.range 3).flatMap fun b => (List.range 4).map fun k => ⟨r, b, k⟩
theorem mem_allP {p : Plc} (h : p.r ∈ rn3 ∧ p.b < 3 ∧ p.k ≤ 3) : p ∈ allP := by
  obtain ⟨r, b, k⟩ := p
  exact List.mem_flatMap.mpr ⟨r, h.1, List.mem_flatMap.mpr ⟨b, List.mem_range.mpr h.2.1, List.mem_map.mpr ⟨k, List.mem_range.mpr (by have := h.2.2; show k < 4; exact Nat.lt_succ_of_le this), rfl⟩⟩⟩
theorem allP_len : allP.length = 36 := by decide +kernel
theorem nodup_len {α : Type} [DecidableEq α] : ∀ {l m : List α}, l.Nodup → (∀ x ∈ l, x ∈ m) → l.length ≤ m.length
  | [], _, _, _ => Nat.zero_le _
  | x :: l, m, hn, hs => by
    rw [List.nodup_cons] at hn
    have hx := hs x (List.mem_cons_self ..)
    have := nodup_len (l := l) (m := m.erase x) hn.2 fun y hy => (List.mem_erase_of_ne (fun z => hn.1 (by rw [← z]; exact hy))).mpr (hs y (List.mem_cons_of_mem _ hy))
    rw [List.length_erase_of_mem hx] at this
    have hp : 0 < m.length := List.length_pos_of_mem hx
    rw [List.length_cons]
    omega
theorem nx_has {c : Code} (oc : OkCode c) {D : Str → Prop} {ent : Bool} {p q : Plc} (hp : c.has p) (h : Nx c D ent p q) : c.has q := by
  obtain ⟨op, hr, h⟩ := h
  rcases h with ⟨r, e, h⟩ | ⟨hf, ch, hc, h⟩
  · subst e
    have hok : OkRow c (.call r) := by
      obtain ⟨hok, _, _⟩ := oc.row_ok hr
      rcases hok with h | ⟨_, _, h, _⟩
      · exact h
      · exact h.elim
    rcases h with ⟨_, e⟩ | ⟨_, e⟩
    · obtain ⟨bs, hb⟩ := hok
      rw [e]
      exact blk_has hb (blks_ne oc hb)
    · rw [e]
      exact next_has oc hp hr hok
  · exact (led_ok oc hp hr hc (calls := []) (fun q hq => by cases hq)).here q h
end K7
/-! ## K7V -/
set_option Elab.async false
set_option linter.all false
set_option maxRecDepth 100000
set_option maxHeartbeats 4000000
/-! gone_way. -/
namespace K7
open PySem PySem.Spec PyProof.Rows L2
section
variable {κ : Type} [DecidableEq κ]
def putD (l : List (κ × PyData)) (k : κ) (d : PyData) : List (κ × PyData) := if (l.any fun e => decide (e.1 = k)) = true then l.map (fun e => if e.1 = k then (e.1, d) else e) else l ++ [(k, d)]
theorem SD.any {K : PySem.W.Frag} {H : Hp} {kvs : List (κ × V)} {l : List (κ × PyData)} (s : SD K H kvs l) (k : κ) : (kvs.any fun e => decide (e.1 = k)) = (l.any fun e => decide (e.1 = k)) := by
  induction s with
  | nil => rfl
  | @cons p q ps qs h t ih => rw [List.any_cons, List.any_cons, ih, h.1]
theorem SD.put {K : PySem.W.Frag} {H : Hp} {kvs : List (κ × V)} {l : List (κ × PyData)} (s : SD K H kvs l) (k : κ) {v : V} {d : PyData} (hv : DT K H v d) : SD K H (putK kvs k v) (putD l k d) := by
  unfold putK putD
  rw [s.any k]
  by_cases q : (l.any fun e => decide (e.1 = k)) = true
  · rw [if_pos q, if_pos q]
    clear q
    induction s with
    | nil => exact .nil
    | @cons p q ps qs h t ih =>
      rw [List.map_cons, List.map_cons]
      refine .cons ?_ ih
      by_cases e : p.1 = k
      · rw [if_pos e, if_pos (h.1.symm.trans e)]; exact ⟨h.1, hv⟩
      · rw [if_neg e, if_neg (fun z => e (h.1.trans z))]; exact h
  · rw [if_neg q, if_neg q]
    exact Paired.snoc s ⟨rfl, hv⟩
end
def cellK (x : Cell) : List Key := [.inr x.1, .inl (x.2 : Int)]
theorem cellK_d (x : Cell) : keyDs (cellK x) = Cell.d x := rfl
theorem cellK_inj {x y : Cell} (h : cellK x = cellK y) : x = y := by
  unfold cellK at h
  injection h with h1 h2
  injection h2 with h2 _
  have a : x.1 = y.1 := Sum.inr.inj h1
  have b : (x.2 : Int) = y.2 := Sum.inl.inj h2
  exact Prod.ext a (by omega)
def lastK (l : List (Cell × Plc)) : List (List Key × PyData) := l.map fun e => (cellK e.1, e.2.d)
theorem lastK_any (l : List (Cell × Plc)) (x : Cell) : ((lastK l).any fun e => decide (e.1 = cellK x)) = (l.any fun e => decide (e.1 = x)) := by
  unfold lastK
  rw [List.any_map]
  congr 1
  funext e
  show decide (cellK e.1 = cellK x) = decide (e.1 = x)
  by_cases z : e.1 = x
  · rw [z]; simp
  · rw [decide_eq_false z, decide_eq_false fun q => z (cellK_inj q)]
theorem lastK_put (l : List (Cell × Plc)) (x : Cell) (p : Plc) : lastK (putL l x p) = putD (lastK l) (cellK x) p.d := by
  unfold putL putD
  rw [lastK_any]
  split
  · unfold lastK
    rw [List.map_map, List.map_map]
    refine List.map_congr_left fun e _ => ?_
    by_cases z : e.1 = x
    · simp [z]
    · have z2 : ¬ cellK e.1 = cellK x := fun q => z (cellK_inj q)
      simp [z, z2]
  · unfold lastK
    rw [List.map_append]
    rfl
theorem lastK_look (l : List (Cell × Plc)) (x : Cell) : lookD (lastK l) (cellK x) = (getL l x).map Plc.d := by
  unfold lookD getL lastK
  induction l with
  | nil => rfl
  | cons e l ih =>
    rw [List.map_cons, List.find?_cons, List.find?_cons]
    by_cases z : e.1 = x
    · have z2 : cellK e.1 = cellK x := by rw [z]
      simp [z, z2]
    · have z2 : ¬ cellK e.1 = cellK x := fun q => z (cellK_inj q)
      rw [decide_eq_false z, decide_eq_false (show ¬ ((cellK e.1, e.2.d) : List Key × PyData).1 = cellK x from z2)]
      exact ih
theorem putL_len (l : List (Cell × Plc)) (x : Cell) (p : Plc) : (putL l x p).length ≤ l.length + 1 := by
  unfold putL
  split
  · rw [List.length_map]; omega
  · rw [List.length_append]; simp
theorem lastS_len (c : Code) (l : List (Cell × Plc)) (x : Stp) : (lastS c l x).length ≤ l.length + 1 := by
  unfold lastS
  split
  · exact putL_len _ _ _
  · omega
theorem eqv_plc (p : Plc) : PyData.eqv p.d p.d = true := by simp [Plc.d, PyData.eqv, PyData.eqvAll]
section
variable {P : Program} {w : World} {K : PySem.W.Frag} {mg : Str → Option Value} {base : Heap} {T : List (Addr × Str)}
abbrev spLed (K : PySem.W.Frag) (T : List (Addr × Str)) : Sp' := spF K T (fun a : Code × Plc × Op × Chc × List Plc => [a.1.d, a.2.1.d, a.2.2.2.1.d, plcsD a.2.2.2.2]) PreLed fun a d => d = ledD a.2.1 a.2.2.2.1 a.2.2.2.2 a.2.2.1
theorem sc_gone_way : FnScope ["code", "thing", "here", "calls", "last", "shown", "k", "place", "choice", "word", "step"] ["code", "thing"] (defScope (top 39)) := ⟨rfl, rfl, rfl, by decide +kernel, rfl, by decide +kernel, by decide +kernel⟩
structure GoneR (K : PySem.W.Frag) (P : Program) (w : World) (H : Hp) (c : Code) (way : List Stp) (t : Addr) : Prop where
  ex : ∃ (o : Obj) (v1 v2 v4 : V) (dd : Addr) (kvt : List (List Key × V)), H t = some (.frz o (.tup [v1, v2, .ref dd, v4])) ∧ o.dict = none ∧ DT K H v1 (optD (st c way).1) ∧ DT K H v2 (plcsD (st c way).2) ∧ DT K H v4 (shownD c way) ∧ TD P w K H dd kvt ∧ SD K H kvt (lastK (lastL c way))
def spGone (P : Program) (w : World) (K : PySem.W.Frag) (T : List (Addr × Str)) : Sp' := fun vs H Q => ∃ (c : Code) (way : List Stp), OkCode c ∧ Good c way ∧ way.length ≤ 900 ∧ DTs K H vs [c.d, wayD way] ∧ ∀ t H', Ex T H H' → GoneR K P w H' c way t → Q (.ref t) H'
theorem g_gone_way (F : At K mg "gone_way" 39) (B : Blt mg) (M : Mods K mg) (Gn : GDef P w K mg base 1 "need_way" (spNeed K T)) (Gs : GDef P w K mg base 3 "is_step" (spStep K T)) (Gc : GDef P w K mg base 3 "choices_at" (spChs K T)) (Gi : GDef P w K mg base 1 "is_choice" (spIs K T)) (Gr : GDef P w K mg base 1 "row_there" (spRow K T)) (Gl' : GDef P w K mg base 2 "led" (spLed K T)) :
    GDef P w K mg base 4 "gone_way" (spGone P w K T) := by
  refine F.ok sc_gone_way (fun _ _ _ _ _ _ us hl => match us, hl with | [_, _], _ => rfl) (fun vs H Q ⟨c, way, _, _, _, hv, _⟩ => hv.len) fun f cdv Ar outer s H vs Q k ⟨c, way, oc, good, hz, hv, q⟩ => ?_
  obtain ⟨v1, v2, rfl, h1, h2⟩ := hv.inv2
  have hplc : ∀ (i : Nat) (x : Stp), way[i]? = some x → c.has x.1 := fun i x hx => (st_ok oc rfl (good.take i)).here _ (good i x hx).1
  have hrn : ∀ x ∈ way, x.1.r ∈ rn3 := fun x hx => by
    obtain ⟨i, hi⟩ := List.getElem?_of_mem hx
    exact (oc.has_ok (hplc i x hi)).1
  refine ws_dropR (T := T) (er_cf Gn k (.str "shape", .int (-1)) (ea_cons (EvD.is (d := .bool (true && (List.replicate way.length true).all id)) (ed_and (k := true) (ed_isi (ty := "tuple") B.isinstance B.tuple (ed_name 1 h2) rfl (by decide +kernel)) fun _ => ed_all k B.all (EvL.imp (el_lcM (ss := way.map Stp.d) (own := [("step", 10)]) 10 (fun _ => .bool true) k (blkOk_by rfl) (ed_name 1 h2) (by rw [List.length_map]; omega) rfl (by simp) rfl (fun s' Hs C cl fp src v H1 hs c1 hv => ?_) (fun _ => rfl)) fun ds e => ?_)) (by simp)) (ea_cons ed_str (ea_cons (ed_neg ed_int) ea_nil))) True.intro) fun H1 c1 => ?_
  · obtain ⟨x, hx, rfl⟩ := List.mem_map.mp hs
    exact ed_cf Gs (blkC_ok k) x (ea_cons (ed_name 10 hv) ea_nil) (hrn x hx)
  · rw [e, List.map_replicate, List.map_const']
    simp
  obtain ⟨mA, hmg, hmD⟩ := M.main
  refine wS_cons (ps_asg peW (pg_tup (n := 4) k.calm (pgs_cons (pg_name (i := 2) k.nd rfl (.inl rfl)) (pgs_cons (pg_name (i := 3) k.nd rfl (.inl rfl)) (pgs_cons (pg_name (i := 4) k.nd rfl (.inl rfl)) (pgs_cons (pg_name (i := 5) k.nd rfl (.inl rfl)) pgs_nil))))) rfl rfl (by rfl)) ?_
  refine wE_tup (wA_cons (EvD.go (T := T) (ed_gr hmg (hmD H1)) .refl fun vM H2 c2 hM => wA_cons (EvD.go (T := T) (ed_tup ea_nil) .refl fun vE H3 c3 hE => wA_cons (wE_newT (T := T) fun dd H4 hdd c4 t4 => wA_cons (EvD.go (T := T) ed_non .refl fun vN H5 c5 hN => wA_nil ⟨by show 4 ≤ sizeLine; decide, fun tp o htp ho => ?_⟩)))))
  refine ⟨tp, _, rfl, .inl (.inr ⟨o, upd_same⟩), rfl, _, _, rfl, _, _, rfl, _, _, rfl, _, _, rfl, rfl, ?_⟩
  have c6 : Ex T H5 (upd H5 tp (.frz o (.tup [vM, vE, .ref dd, vN]))) := .new htp
  have d5 : Ex T H (upd H5 tp (.frz o (.tup [vM, vE, .ref dd, vN]))) := ((((c1.trans c2).trans c3).trans c4).trans c5).trans c6
  have hddn : H dd = none := (((c1.trans c2).trans c3)).back dd hdd
  refine ws_for (g := gTup K 2 (gCons (gName 6) (gCons (gTup K 2 (gCons (gName 7) (gCons (gName 8) gNil))) gNil))) k (pi_enumT rfl B.enumerate paW) (pg_tup (n := 2) k.calm (pgs_cons (pg_name k.nd rfl (.inl rfl)) (pgs_cons (pg_tup (n := 2) k.calm (pgs_cons (pg_name k.nd rfl (.inl rfl)) (pgs_cons (pg_name k.nd rfl (.inl rfl)) pgs_nil))) pgs_nil))) ?_
  refine wA_cons (EvD.go (T := T) (ed_name 1 (d5.dt h2)) .refl fun vW H7 c7 hW => wA_nil ?_)
  obtain ⟨aw, xs, rfl, hsq, hxs⟩ := hW.inv_tup
  refine ⟨aw, xs, rfl, hsq.t, xs.length, _, _, walk_enumT, fun i σ2 H' => ∃ u3 u4 u5 u6 u7 u8 u9 kvt, Chg T [dd] H7 H' ∧ σ2 = [some v1, some v2, some u3, some u4, some (.ref dd), some u5, u6, u7, u8, u9, none] ∧ DT K H' u3 (optD (st c (way.take i)).1) ∧ DT K H' u4 (plcsD (st c (way.take i)).2) ∧ DT K H' u5 (shownD c (way.take i)) ∧ TD P w K H' dd kvt ∧ SD K H' kvt (lastK (lastL c (way.take i))) ∧ kvt.length ≤ i,
    ⟨vM, vE, vN, none, none, none, none, [], .refl, rfl, ?_, ?_, ?_, ?_, .nil, Nat.le_refl _⟩, fun i σ2 H' ⟨_, _, _, _, _, _, _, _, c8, _⟩ => c8.sq hsq.t, ?_, ?_⟩
  · exact c7.dt (c6.dt (((c3.trans c4).trans c5).dt hM))
  · exact c7.dt (c6.dt ((c4.trans c5).dt hE))
  · exact c7.dt (c6.dt hN)
  · exact (t4.keep (c5.trans (c6.trans c7)) (by simp))
  · rintro i x σ2 H8 H9 hi ⟨u3, u4, u5, u6, u7, u8, u9, kvt, c8, rfl, g3, g4, g5, t8, sd8, hz8⟩ ⟨TT, y1, y2, e1, hTT, e2, e3, e4⟩
    cases e3
    subst e1
    subst e2
    have c9 : Ex T H8 (upd H8 TT (.tup [.int (i : Nat), y2])) := .new hTT
    have hlen : xs.length = way.length := by rw [hxs.len, List.length_map]
    obtain ⟨⟨p, ch⟩, hx⟩ : ∃ x, way[i]? = some x := ⟨_, List.getElem?_eq_getElem (by omega)⟩
    obtain ⟨hst, op, hrow, hch⟩ := good i _ hx
    have hst : (st c (way.take i)).1 = some p := hst
    have hrow : c.row p = some op := hrow
    have hch : ch ∈ c.chs op := hch
    obtain ⟨_, hr3, _⟩ := oc.row_ok hrow
    have hcall := (st_ok oc rfl (good.take i)).calls
    have hpb := oc.has_ok (hplc i _ hx)
    obtain ⟨dx, hdx, hyd⟩ := hxs.atV e4
    rw [List.getElem?_map, hx] at hdx
    cases hdx
    obtain ⟨b, ys, rfl, hsb, hys⟩ := ((c8.trans c9.any).dt hyd).inv_tup
    obtain ⟨vp, vc, rfl, hvp, hvc⟩ := hys.inv2
    rw [hst] at g3
    refine ⟨TT, _, rfl, .inl (.inl upd_same), rfl, _, _, rfl, _, _, rfl, ⟨b, _, rfl, hsb.t, rfl, _, _, rfl, _, _, rfl, rfl, rfl, ?_⟩⟩
    generalize upd H8 TT (.tup [.int (i : Nat), .ref b]) = H9 at *
    have d9 := c8.and_ c9
    have h1' : DT K H9 v1 c.d := d9.dt (c7.dt (d5.dt h1))
    have htd : TD P w K H9 dd kvt := t8.keep c9 (by simp)
    have hsd := sd8.tk c9.tup
    have hg3 := c9.dt g3
    have hg4 := c9.dt g4
    have hg5 := c9.dt g5
    -- the place
    show wS _ (_ :: _) _ [some v1, some v2, some u3, some u4, some (V.ref dd), some u5, some (.int (i : Nat)), some vp, some vc, u9, none] H9
    refine ws_dropR (T := T) (er_cf Gn k (.str "place", .int i) (ea_cons (ed_and (k := true) (k2 := true) (EvD.is (ed_cmp (ec_notN (ed_name 2 hg3))) rfl) fun _ => EvD.is (ed_cmp (ec_eqD k (ed_name 7 hvp) (ed_name 2 hg3) (plc_shaped hr3) (plc_shaped hr3))) (by rw [show optD (some p) = p.d from rfl, eqv_plc])) (ea_cons ed_str (ea_cons (ed_name 6 (.int _)) ea_nil))) True.intro) fun Ha ca => ?_
    -- the choice
    refine ws_dropR (T := T) (er_cf Gn k (.str "choice", .int i) (ea_cons (EvR.dat (er_cfR Gi k (ear_cons (er_cf Gc k (c, p, op) (ea_cons (ed_name 0 (ca.dt h1')) (ea_cons (ed_name 7 (ca.dt hvp)) ea_nil)) ⟨oc, hrow⟩) (EvA.r (ea_cons (ed_name 8 (ca.dt hvc)) ea_nil))) (R' := fun d => d = .bool true) ?_) fun d hd => hd) (ea_cons ed_str (ea_cons (ed_name 6 (.int _)) ea_nil))) True.intro) fun Hb cb => ?_
    · rintro ds ⟨d1, d2, e1, ⟨l, e5, e6, e7⟩, e8⟩
      refine ⟨(l, ch), ?_, ⟨?_, ?_, ?_⟩, fun d hd => hd⟩
      · rw [e1, e8, e5]
      · exact (e6 ch).mpr hch
      · exact fun x hx => chs_b oc hrow x ((e6 x).mp hx)
      · show l.length ≤ 1000; omega
    have db := ca.trans cb
    -- the word
    refine ws_asg (T := T) (d := .str op.word) 9 k (ed_at0 (ds := .str op.word :: op.more) (ed_cf Gr k (c, p, op) (ea_cons (ed_name 0 (db.dt h1')) (ea_cons (ed_name 7 (db.dt hvp)) ea_nil)) ⟨oc, hrow⟩)) fun vw Hc cc hvw => ?_
    have dc := db.trans cc
    -- what is shown
    have htk := take_snoc hx
    have cellOf : ∀ a, c.chs op = (c.face a).map .cell → ∃ kc, ch = .cell kc := fun a e => by
      rw [e] at hch
      obtain ⟨kc, _, e⟩ := List.mem_map.mp hch
      exact ⟨kc, e.symm⟩
    refine ws_asg (T := T) (d := shownD c (way.take (i + 1))) 5 k (ed_if (k := decide (op.word = "load")) (et_cmp (ec_eqS (ed_name 9 hvw) ed_str)) (fun z => ?_) fun z => ?_) fun vs Hd cd hvs => ?_
    · obtain ⟨x, a, rfl⟩ := w_load (of_decide_eq_true z)
      obtain ⟨kc, rfl⟩ := cellOf a rfl
      have e1 : shownD c (way.take (i + 1)) = .tuple [p.d, optD (getL (lastL c (way.take i)) kc)] := by
        rw [htk, shownD_snoc]
        unfold shS
        simp only [hrow]
      rw [e1]
      refine ed_tup (ea_cons (ed_name 7 (dc.dt hvp)) (ea_cons (EvV.dat (ev_get1T k (ev_name 4) (ed_name (d := keyDs (cellK kc)) 8 (dc.dt hvc)) (htd.keep dc (by simp))) ?_) ea_nil))
      have hl := lastK_look (lastL c (way.take i)) kc
      cases hg : getL (lastL c (way.take i)) kc with
      | none =>
        rw [hg] at hl
        rw [hsd.none hl]
        exact .non
      | some p2 =>
        rw [hg] at hl
        obtain ⟨v, e2, e3⟩ := hsd.some hl
        rw [e2]
        exact dc.dt e3
    · have e1 : shownD c (way.take (i + 1)) = .none := by
        rw [htk, shownD_snoc]
        unfold shS
        simp only [hrow]
        cases op <;> first | rfl | exact absurd rfl (of_decide_eq_false z)
      rw [e1]
      exact ed_non
    have dd' := dc.trans cd
    have el : lastL c (way.take (i + 1)) = lastS c (lastL c (way.take i)) (p, ch) := by rw [htk, lastL_snoc]
    -- the store
    refine ws_ifJ (T := T) (k := decide (op.word = "store")) (fun σ' H' => σ' = [some v1, some v2, some u3, some u4, some (.ref dd), some vs, some (.int (i : Nat)), some vp, some vc, some vw, none] ∧ Chg T [dd] Hd H' ∧ ∃ kvt', TD P w K H' dd kvt' ∧ SD K H' kvt' (lastK (lastL c (way.take (i + 1)))) ∧ kvt'.length ≤ i + 1) (et_cmp (ec_eqS (ed_name 9 (cd.dt hvw)) ed_str)) (fun z He ce => ?_) (fun z He ce => wS_nil ⟨rfl, ce.any, kvt, htd.keep (dd'.trans ce) (by simp), ?_, by omega⟩) ?_
    · obtain ⟨a, o', rfl⟩ := w_store (of_decide_eq_true z)
      obtain ⟨kc, rfl⟩ := cellOf a rfl
      refine ws_putTD (T := T) (ks := cellK kc) k (ed_name 7 ((dd'.trans ce).dt hvp)) (ev_name 4) (ed_name 8 ((dd'.trans ce).dt hvc)) (htd.keep (dd'.trans ce) (by simp)) (by omega) fun vn Hf cf hvn t' => wS_nil ⟨rfl, ce.then_ cf, _, t', ?_, ?_⟩
      · have e2 : lastL c (way.take (i + 1)) = putL (lastL c (way.take i)) kc p := by
          rw [el]
          unfold lastS
          simp only [hrow]
        rw [e2, lastK_put]
        exact ((hsd.tk (dd'.trans ce).tup).tk cf.tup).put _ hvn
      · have := length_putK kvt (cellK kc) vn
        omega
    · have e2 : lastL c (way.take (i + 1)) = lastL c (way.take i) := by
        rw [el]
        unfold lastS
        simp only [hrow]
        cases op <;> first | rfl | exact absurd rfl (of_decide_eq_false z)
      rw [e2]
      exact hsd.tk (dd'.trans ce).tup
    · rintro σ' Hf ⟨rfl, cf, kvt', t', sd', hz'⟩
      have df : Chg T [dd] H9 Hf := dd'.then_ cf
      refine ws_unp2 (T := T) (d1 := optD (led p ch (st c (way.take i)).2 op).1) (d2 := plcsD (led p ch (st c (way.take i)).2 op).2) 2 3 k (ed_cf Gl' k (c, p, op, ch, (st c (way.take i)).2) (ea_cons (ed_name 0 (df.dt h1')) (ea_cons (ed_name 7 (df.dt hvp)) (ea_cons (ed_name 8 (df.dt hvc)) (ea_cons (ed_name 3 (df.dt hg4)) ea_nil)))) ⟨oc, hrow, ?_, ?_, ?_⟩) fun w1 w2 Hg cg hw1 hw2 => wS_nil ⟨w1, w2, vs, _, _, _, _, kvt', ?_, rfl, ?_, ?_, ?_, t'.keep cg (by simp), sd'.tk cg.tup, hz'⟩
      · rintro o' b1 b2 rfl
        have hx : ch ∈ (if b1 = b2 then [Chc.blk b1] else [Chc.blk b1, Chc.blk b2]) := hch
        split at hx
        · exact ⟨b1, List.mem_singleton.mp hx⟩
        · rcases List.mem_cons.mp hx with z | z
          · exact ⟨b1, z⟩
          · exact ⟨b2, List.mem_singleton.mp z⟩
      · have := st_len c (way.take i)
        rw [List.length_take] at this
        show (st c (way.take i)).2.length ≤ 1000
        omega
      · exact fun q hq => (oc.has_ok (hcall q hq)).1
      · exact (d9.trans df).and_ cg
      · rw [htk, st_snoc]
        unfold stp
        simp only [hrow]
        exact hw1
      · rw [htk, st_snoc]
        unfold stp
        simp only [hrow]
        exact hw2
      · exact cg.dt (cf.dt hvs)
  · rintro σ2 H8 ⟨u3, u4, u5, u6, u7, u8, u9, kvt, c8, rfl, g3, g4, g5, t8, sd8, hz8⟩
    have hlen : xs.length = way.length := by rw [hxs.len, List.length_map]
    rw [hlen, List.take_length] at g3 g4 g5 sd8
    have d8 : Ex T H H8 := Chg.fresh (d5.trans c7) c8 (fun x hx => by rw [List.mem_singleton.mp hx]; exact hddn)
    refine ws_return ?_
    refine wE_tup (wA_cons (EvD.go (T := T) (ed_name 2 g3) .refl fun x1 Ha ca hx1 => wA_cons (EvD.go (T := T) (ed_name 3 (ca.dt g4)) .refl fun x2 Hb cb hx2 => wA_cons (EvV.go (T := T) (ev_name 4) .refl fun Hc cc => wA_cons (EvD.go (T := T) (ed_name 5 (((ca.trans cb).trans cc).dt g5)) .refl fun x4 Hd cd hx4 => wA_nil ⟨by show 4 ≤ sizeLine; decide, fun tp2 o2 htp2 ho2 => ?_⟩)))))
    have ce : Ex T Hd (upd Hd tp2 (.frz o2 (.tup [x1, x2, .ref dd, x4]))) := .new htp2
    have dall := (((ca.trans cb).trans cc).trans cd).trans ce
    exact q tp2 _ (d8.trans dall) ⟨o2, x1, x2, x4, dd, kvt, upd_same, ho2, (((cb.trans cc).trans cd).trans ce).dt hx1, ((cc.trans cd).trans ce).dt hx2, ce.dt hx4, t8.keep dall (by simp), sd8.tk dall.tup⟩
end
end K7
/-! ## L0B -/
set_option Elab.async false
set_option linter.all false
set_option maxRecDepth 100000
set_option maxHeartbeats 4000000
/-! spread, plainly. -/
namespace K7
open PySem PySem.Spec PyProof.Rows L2
section
variable {κ α : Type} [DecidableEq κ]
def findW (ws : List (κ × α)) (q : κ) : Option α := (ws.find? fun e => decide (e.1 = q)).map (·.2)
def putW (ws : List (κ × α)) (q : κ) (d : α) : List (κ × α) := if (ws.any fun e => decide (e.1 = q)) = true then ws.map (fun e => if e.1 = q then (e.1, d) else e) else ws ++ [(q, d)]
theorem findW_nil {q : κ} : findW ([] : List (κ × α)) q = none := rfl
theorem findW_cons {p : κ × α} {ws : List (κ × α)} {q : κ} : findW (p :: ws) q = if p.1 = q then some p.2 else findW ws q := by
  unfold findW
  rw [List.find?_cons]
  by_cases h : p.1 = q <;> simp [h]
theorem findW_some {ws : List (κ × α)} {q : κ} {d : α} (h : findW ws q = some d) : (q, d) ∈ ws := by
  induction ws with
  | nil => cases h
  | cons p ws ih =>
    rw [findW_cons] at h
    split at h
    · rename_i e
      cases h
      rw [← e]
      exact List.mem_cons_self ..
    · exact List.mem_cons_of_mem _ (ih h)
theorem findW_isSome {ws : List (κ × α)} {q : κ} : (findW ws q).isSome = true ↔ q ∈ ws.map (·.1) := by
  induction ws with
  | nil => simp [findW_nil]
  | cons p ws ih =>
    rw [findW_cons, List.map_cons, List.mem_cons]
    by_cases h : p.1 = q
    · rw [if_pos h]; exact ⟨fun _ => .inl h.symm, fun _ => rfl⟩
    · rw [if_neg h, ih]
      exact ⟨.inr, fun z => z.elim (fun z => absurd z.symm h) id⟩
theorem any_findW {ws : List (κ × α)} {q : κ} : (ws.any fun e => decide (e.1 = q)) = (findW ws q).isSome := by
  induction ws with
  | nil => rfl
  | cons p ws ih =>
    rw [List.any_cons, findW_cons, ih]
    by_cases h : p.1 = q <;> simp [h]
theorem findW_map {ws : List (κ × α)} {q r : κ} {d : α} (hq : (findW ws q).isSome = true) : findW (ws.map (fun e => if e.1 = q then (e.1, d) else e)) r = if r = q then some d else findW ws r := by
  induction ws with
  | nil => cases hq
  | cons p ws ih =>
    rw [List.map_cons, findW_cons, findW_cons]
    rw [findW_cons] at hq
    by_cases h : p.1 = q
    · rw [if_pos h]
      by_cases hr : r = q
      · rw [if_pos hr, if_pos (by rw [h, hr])]
      · rw [if_neg hr, if_neg (fun z => hr (by rw [← z, h]) : ¬ (p.1, d).1 = r), if_neg (fun z => hr (by rw [← z, h]) : ¬ p.1 = r)]
        have : ∀ ws : List (κ × α), findW (ws.map (fun e => if e.1 = q then (e.1, d) else e)) r = findW ws r := by
          intro ws
          induction ws with
          | nil => rfl
          | cons p ws ih =>
            rw [List.map_cons, findW_cons, findW_cons, ih]
            by_cases h : p.1 = q
            · rw [if_pos h, if_neg (fun z => hr (by rw [← z, h]) : ¬ (p.1, d).1 = r), if_neg (fun z => hr (by rw [← z, h]) : ¬ p.1 = r)]
            · rw [if_neg h]
        exact this ws
    · rw [if_neg h] at hq ⊢
      rw [ih hq]
      by_cases hp : p.1 = r
      · rw [if_pos hp, if_pos hp, if_neg (fun z => h (by rw [hp, z]))]
      · rw [if_neg hp, if_neg hp]
theorem findW_append {ws us : List (κ × α)} {r : κ} : findW (ws ++ us) r = (findW ws r).or (findW us r) := by
  induction ws with
  | nil => rfl
  | cons p ws ih =>
    rw [List.cons_append, findW_cons, findW_cons, ih]
    by_cases h : p.1 = r <;> simp [h]
theorem findW_put {ws : List (κ × α)} {q r : κ} {d : α} : findW (putW ws q d) r = if r = q then some d else findW ws r := by
  unfold putW
  split
  · rename_i h
    exact findW_map (by rw [any_findW] at h; exact h)
  · rename_i h
    rw [any_findW] at h
    rw [findW_append, findW_cons, findW_nil]
    by_cases hr : r = q
    · rw [if_pos hr, if_pos (by rw [hr]), hr]
      cases e : findW ws q with
      | none => rfl
      | some x => rw [e] at h; exact absurd rfl h
    · rw [if_neg hr, if_neg (fun z => hr z.symm)]
      cases findW ws r <;> rfl
theorem putW_keys {ws : List (κ × α)} {q : κ} {d : α} : (putW ws q d).map (·.1) = if (findW ws q).isSome = true then ws.map (·.1) else ws.map (·.1) ++ [q] := by
  unfold putW
  rw [any_findW]
  split
  · rw [List.map_map]
    refine List.map_congr_left fun e he => ?_
    show (if e.1 = q then (e.1, d) else e).1 = e.1
    split <;> rfl
  · rw [List.map_append]; rfl
theorem putW_nodup {ws : List (κ × α)} {q : κ} {d : α} (h : (ws.map (·.1)).Nodup) : ((putW ws q d).map (·.1)).Nodup := by
  rw [putW_keys]
  split
  · exact h
  · rename_i z
    rw [findW_isSome] at z
    rw [List.nodup_append]
    exact ⟨h, by simp, fun a ha b hb e => z (by rw [List.mem_singleton.mp hb] at e; rw [← e]; exact ha)⟩
theorem mem_putW {ws : List (κ × α)} {q : κ} {d : α} {e : κ × α} (h : e ∈ putW ws q d) : e = (q, d) ∨ e ∈ ws := by
  unfold putW at h
  split at h
  · obtain ⟨x, hx, e1⟩ := List.mem_map.mp h
    split at e1
    · rename_i e2
      rw [← e1, e2]
      exact .inl rfl
    · rw [← e1]; exact .inr hx
  · rcases List.mem_append.mp h with h | h
    · exact .inr h
    · exact .inl (List.mem_singleton.mp h)
theorem putW_len {ws : List (κ × α)} {q : κ} {d : α} : (putW ws q d).length = if (findW ws q).isSome = true then ws.length else ws.length + 1 := by
  unfold putW
  rw [any_findW]
  split
  · rw [List.length_map]
  · rw [List.length_append]; rfl
end
def Phi (ws : List (Plc × List PyData)) (q : Plc) : Nat := match findW ws q with
  | some ds => ds.length
  | none => 4000000
def sumW (ws : List (Plc × List PyData)) : Nat := (allP.map (Phi ws)).sum
theorem sum_less {α : Type} {f g : α → Nat} {q : α} : ∀ {U : List α}, (∀ x, g x ≤ f x) → g q < f q → q ∈ U → (U.map g).sum < (U.map f).sum
  | [], _, _, h => by cases h
  | x :: U, hle, hlt, h => by
    rw [List.map_cons, List.map_cons, List.sum_cons, List.sum_cons]
    have le : ∀ U : List α, (U.map g).sum ≤ (U.map f).sum := by
      intro U
      induction U with
      | nil => exact Nat.le_refl _
      | cons y U ih =>
        rw [List.map_cons, List.map_cons, List.sum_cons, List.sum_cons]
        exact Nat.add_le_add (hle y) ih
    rcases List.mem_cons.mp h with e | h
    · rw [← e]
      exact Nat.add_lt_add_of_lt_of_le hlt (le U)
    · exact Nat.add_lt_add_of_le_of_lt (hle x) (sum_less hle hlt h)
theorem sumW_put {ws : List (Plc × List PyData)} {q : Plc} {ds : List PyData} (hq : q ∈ allP) (h : ds.length < Phi ws q) : sumW (putW ws q ds) < sumW ws := by
  have hP : ∀ x, Phi (putW ws q ds) x = if x = q then ds.length else Phi ws x := by
    intro x
    unfold Phi
    rw [findW_put]
    by_cases e : x = q
    · rw [if_pos e, if_pos e]
    · rw [if_neg e, if_neg e]
  refine sum_less (fun x => ?_) ?_ hq
  · rw [hP]
    split
    · rename_i e; rw [e]; exact Nat.le_of_lt h
    · exact Nat.le_refl _
  · rw [hP, if_pos rfl]; exact h
def putO (op : List Plc) (q : Plc) : List Plc := if q ∈ op then op else op ++ [q]
structure SJ (c : Code) (D : Str → Prop) (ent : Bool) (first : Plc) (W : Nat) (ws : List (Plc × List PyData)) (op : List Plc) (Ex : Plc → Prop) : Prop where
  first : (findW ws first).isSome = true
  nd : (ws.map (·.1)).Nodup
  ond : op.Nodup
  sub : ∀ p ∈ op, (findW ws p).isSome = true
  has : ∀ e ∈ ws, c.has e.1
  ne : 1 ≤ ws.length
  len : ∀ e ∈ ws, e.2.length ≤ (ws.length - 1) * W
  cl : ∀ p, (findW ws p).isSome = true → p ∉ op → ¬ Ex p → ∀ q, Nx c D ent p q → (findW ws q).isSome = true
section
variable {c : Code} {D : Str → Prop} {ent : Bool} {first p q : Plc} {W : Nat} {ws : List (Plc × List PyData)} {op : List Plc} {Ex : Plc → Prop} {dp ds : List PyData}
theorem SJ.allp (oc : OkCode c) (j : SJ c D ent first W ws op Ex) {p : Plc} (h : (findW ws p).isSome = true) : p ∈ allP := by
  obtain ⟨e, he, e1⟩ := List.mem_map.mp (findW_isSome.mp h)
  exact mem_allP (oc.has_ok (by rw [← e1]; exact j.has e he))
theorem SJ.le36 (oc : OkCode c) (j : SJ c D ent first W ws op Ex) : ws.length ≤ 36 := by
  have := nodup_len j.nd (m := allP) fun x hx => j.allp oc (findW_isSome.mpr hx)
  rw [allP_len, List.length_map] at this
  exact this
theorem SJ.op36 (oc : OkCode c) (j : SJ c D ent first W ws op Ex) : op.length ≤ 36 := by
  have := nodup_len j.ond (m := allP) fun x hx => j.allp oc (j.sub x hx)
  rw [allP_len] at this
  exact this
theorem SJ.bound (oc : OkCode c) (j : SJ c D ent first W ws op Ex) (h : findW ws p = some dp) : dp.length ≤ 35 * W := by
  have h1 := j.len _ (findW_some h)
  have h2 := j.le36 oc
  exact Nat.le_trans h1 (Nat.mul_le_mul_right W (by omega))
theorem SJ.start (hf : c.has first) : SJ c D ent first W [(first, [])] [first] (fun _ => False) :=
  ⟨by simp [findW_cons], by simp, by simp, fun p hp => by rw [List.mem_singleton.mp hp]; simp [findW_cons], fun e he => by rw [List.mem_singleton.mp he]; exact hf, by simp, fun e he => by rw [List.mem_singleton.mp he]; exact Nat.zero_le _, fun p h1 h2 _ => by
    exfalso
    rw [findW_cons, findW_nil] at h1
    split at h1
    · rename_i e
      exact h2 (by rw [← e]; simp)
    · cases h1⟩
theorem SJ.pop (j : SJ c D ent first W ws op (fun _ => False)) : SJ c D ent first W ws (op.filter fun x => decide (x ≠ p)) (fun x => x = p) :=
  ⟨j.first, j.nd, j.ond.filter _, fun x hx => j.sub x (List.mem_filter.mp hx).1, j.has, j.ne, j.len, fun x h1 h2 h3 => j.cl x h1 (fun z => h2 (List.mem_filter.mpr ⟨z, by simpa using h3⟩)) (fun z => z)⟩
theorem mem_putO {x : Plc} : x ∈ putO op q ↔ x ∈ op ∨ x = q := by
  unfold putO
  split
  · rename_i h
    exact ⟨.inl, fun z => z.elim id fun e => by rw [e]; exact h⟩
  · rw [List.mem_append, List.mem_singleton]
theorem SJ.put (j : SJ c D ent first W ws op Ex) (hp : findW ws p = some dp) (hq : c.has q) (hs : ds.length ≤ W) (hlt : ∀ old, findW ws q = some old → (dp ++ ds).length < old.length) : SJ c D ent first W (putW ws q (dp ++ ds)) (putO op q) Ex := by
  have hdp := j.len _ (findW_some hp)
  have hne := j.ne
  refine ⟨?_, putW_nodup j.nd, ?_, fun x hx => ?_, fun e he => ?_, ?_, fun e he => ?_, fun x h1 h2 h3 y hy => ?_⟩
  · rw [findW_put]; split
    · rfl
    · exact j.first
  · unfold putO
    split
    · exact j.ond
    · rename_i z
      rw [List.nodup_append]
      exact ⟨j.ond, by simp, fun a ha b hb e => z (by rw [List.mem_singleton.mp hb] at e; rw [← e]; exact ha)⟩
  · rw [findW_put]
    split
    · rfl
    · rename_i hx2
      rcases mem_putO.mp hx with z | z
      · exact j.sub x z
      · exact absurd z hx2
  · rcases mem_putW he with z | z
    · rw [z]; exact hq
    · exact j.has e z
  · rw [putW_len]; split <;> omega
  · rw [putW_len]
    rcases mem_putW he with z | z
    · rw [z]
      show (dp ++ ds).length ≤ _
      cases hf : findW ws q with
      | some old =>
        rw [if_pos (by rfl)]
        have := hlt old hf
        have h2 := j.len _ (findW_some hf)
        exact Nat.le_trans (Nat.le_of_lt this) h2
      | none =>
        rw [if_neg (by simp), Nat.add_sub_cancel, List.length_append]
        have e1 : ws.length * W = (ws.length - 1) * W + W := by
          have : ws.length = (ws.length - 1) + 1 := by omega
          conv => lhs; rw [this, Nat.add_mul, Nat.one_mul]
        rw [e1]
        exact Nat.add_le_add hdp hs
    · refine Nat.le_trans (j.len e z) (Nat.mul_le_mul_right W ?_)
      split <;> omega
  · rw [findW_put] at h1 ⊢
    split
    · rfl
    · have hx : x ∉ op := fun z => h2 (mem_putO.mpr (.inl z))
      have hxq : x ≠ q := fun z => h2 (mem_putO.mpr (.inr z))
      rw [if_neg hxq] at h1
      exact j.cl x h1 hx h3 y hy
theorem SJ.done (j : SJ c D ent first W ws op (fun x => x = p)) (hc : ∀ q, Nx c D ent p q → (findW ws q).isSome = true) : SJ c D ent first W ws op (fun _ => False) :=
  ⟨j.first, j.nd, j.ond, j.sub, j.has, j.ne, j.len, fun x h1 h2 _ y hy => by
    by_cases e : x = p
    · rw [e] at hy; exact hc y hy
    · exact j.cl x h1 h2 e y hy⟩
theorem SJ.closed (j : SJ c D ent first W ws [] (fun _ => False)) : Closed c D ent (fun p => p ∈ ws.map (·.1)) := fun p hp q hn => findW_isSome.mp (j.cl p (findW_isSome.mpr hp) (by simp) (fun z => z) q hn)
def muW (ws : List (Plc × List PyData)) (op : List Plc) : Nat := 2 * sumW ws + op.length
theorem muW_put (oc : OkCode c) (hq : c.has q) (h : ds.length < Phi ws q) : muW (putW ws q ds) (putO op q) < muW ws op := by
  have h1 := sumW_put (mem_allP (oc.has_ok hq)) h
  have h2 : (putO op q).length ≤ op.length + 1 := by
    unfold putO
    split
    · omega
    · rw [List.length_append]; exact Nat.le_refl _
  unfold muW
  omega
theorem muW_pop (h : p ∈ op) : muW ws (op.filter fun x => decide (x ≠ p)) < muW ws op := by
  have : (op.filter fun x => decide (x ≠ p)).length < op.length := by
    have := List.length_filter_lt_length_iff_exists (l := op) (p := fun x => decide (x ≠ p))
    exact this.mpr ⟨p, h, by simp⟩
  unfold muW
  omega
end
end K7
/-! ## K7W -/
set_option Elab.async false
set_option linter.all false
set_option maxRecDepth 100000
set_option maxHeartbeats 4000000
/-! sorted over what is collected from a dict. -/
namespace K7
open PySem PySem.Spec PyProof.Rows L2
section
variable {T : List (Addr × Str)} {X : Cx} {σ : L2.St} {H : Hp} {pins : List (Addr × Obj)} {s : Shared} {A : Around} {E : Value → Shared → Prop}
/-- list.sort on a list just laid -/
theorem sort_new {vs : List V} {ds : List PyData} {its : List Value} {Q : Shared → Prop} (I : Inv X pins σ H s) (hd : DTs X.K H vs ds) (rv : Vals vs its) (al : PySem.W.AllAlike ds) (so : PySem.W.Sortable ds) (hz : ds.length ≤ 100000) (hu : ∀ d ∈ ds, A.units + 1 + d.depth < cLine)
    (q : ∀ vs' ds' s', ds'.Perm ds → DTs X.K H vs' ds' → Inv X pins σ (upd H s.heap.objs.size (.lst vs')) s' → Q s') :
    wpAny (model X.prog X.w) A (call (.builtin "list.sort") [.ref s.heap.objs.size]) (fun _ s' => Q s') E { s with heap := s.heap.push { cls := .type "list", data := .seq its.toArray } } := by
  obtain ⟨e1, e2⟩ := each_zip I hd rv
  have hl : (vs.zip ds).map (·.2) = ds := zip_snd hd.len
  have hlen : (vs.zip ds).length = ds.length := by rw [← hl, List.length_map, hl]
  have ho : (s.heap.push { cls := .type "list", data := .seq its.toArray }).get? s.heap.objs.size = some (seqObj "list" its.toArray 0) := Heap.get?_push_size _ rfl
  have hk : ∀ b o, s.heap.get? b = some o → (s.heap.push { cls := .type "list", data := .seq its.toArray }).get? b = some o := fun b o e => Heap.get?_push_of_some _ e
  have er : PySem.W.EachIs (fun v (b : V × PyData) => ∃ as, Reads (s.heap.push { cls := .type "list", data := .seq its.toArray }) v b.2 as ∧ s.heap.objs.size ∉ as) its (vs.zip ds) := e2.mono fun v b h => by
    obtain ⟨as, r⟩ := h
    refine ⟨as, PyProof.Rows.Reads.keeps hk r, fun z => ?_⟩
    obtain ⟨o, e⟩ := PyProof.On.reads_mem_get r _ z
    exact absurd (Heap.lt_size e) (Nat.lt_irrefl _)
  refine PySem.W.list_sort_data (s := { s with heap := s.heap.push { cls := .type "list", data := .seq its.toArray } }) (bs := vs.zip ds) (enc := (·.2)) ho e1 er (by rw [hl]; exact al) (by rw [hl]; exact so) (by rw [hlen]; exact Nat.le_of_lt (small5 hz)) (fun b hb => hu _ (by rw [← hl]; exact List.mem_map.mpr ⟨b, hb, rfl⟩)) fun out hol eo => ?_
  obtain ⟨r2, d2⟩ := each_back eo
  obtain ⟨ep, hat⟩ := PyProof.Rows.sortedHeap_at (vs := its) (out := out.toArray) ho
  have pm := List.mergeSort_perm (vs.zip ds) (PySem.W.dataLe false (·.2))
  refine q _ _ _ (by have := pm.map (·.2); rw [hl] at this; exact this) d2 (I.laid (t' := s.toks) (fun b o e => ?_) (Nat.le_refl _) ⟨?_, out, ep, r2, hat⟩)
  · have hlt := Heap.lt_size e
    rw [PyProof.Rows.sortedHeap_old (Nat.ne_of_lt hlt) (by rw [Heap.size_push]; exact Nat.lt_succ_of_lt hlt)]
    exact hk b o e
  · rw [List.length_map, pm.length_eq, hlen]
    exact Nat.le_of_lt (small5 hz)
/-- sorted(a dict): the keys are collected, then sorted -/
theorem sortedK_raw {d : Addr} {es : Array DictEntry} {ep : Nat} {Q : Value → Shared → Prop} (hh : A.handled = none) (hd : (d == sysModules) = false) (hm : s.heap.DictRaw d es ep) (hn : es.size ≤ sizeLine)
    (h : ∀ (h' : Heap) (tk : Nat) (vs : List Value), (∀ b o, s.heap.get? b = some o → h'.get? b = some o) → vs.length = es.size → (∀ (j : Nat) (v : Value), vs[j]? = some v → ∃ hi : j < es.size, v = es[j].key) →
      wpAny (model X.prog X.w) A.in1 (call (.builtin "list.sort") [.ref h'.objs.size]) (fun _ s' => Q (.ref h'.objs.size) s') E { s with heap := h'.push { cls := .type "list", data := .seq vs.toArray }, toks := tk }) :
    wpAny (model X.prog X.w) A (call (.builtin "sorted") [.ref d]) Q E s := by
  refine Calls.call_function_entry kind_sorted plain_sorted entry_sorted (args_sorted1 _) ?_
  unfold Builtin.«sorted»
  refine wpAny_bind (m := checkCount "sorted" 1 1 _) (wpAny_pure ?_)
  refine wpAny_bind (PySem.W.kdu_collect (A := A.in1) (KdlSrc.rawDict (es := es) (ep := ep) hd) hh hm hn fun h' tk acc hk hacc => ?_)
  have hl : acc.toList.length = es.size := by rw [Array.length_toList]; exact hacc.1
  refine wpAny_bind (wpAny_newList ?_ (by rw [hl]; exact hn))
  have hg := h h' tk acc.toList hk hl (fun j v e => hacc.2 j v (by rw [← Array.getElem?_toList]; exact e))
  refine wpAny_bind (wpAny_holding (wpAny_mono hg (fun _ s' x => ?_) fun _ _ e => e))
  exact wpAny_pure ⟨_, rfl, x⟩
/-- what a dict with tuple keys holds, as its entries -/
theorem td_raw {a : Addr} {kvs : List (List Key × V)} (I : Inv X pins σ H s) (t : TD X.prog X.w X.K H a kvs) : (a == sysModules) = false ∧ ∃ (xs : List XK) (es : Array DictEntry) (ep : Nat), s.heap.DictRaw a es ep ∧ view xs = kvs ∧ (∀ x ∈ xs, SqP X.K H x.2.1 (x.1.map kV)) ∧ es.size = kvs.length ∧
    ∀ i (hi : i < es.size), ∃ x, xs[i]? = some x ∧ es[i].key = .ref x.2.1 ∧ RelV x.2.2 es[i].val := by
  obtain ⟨⟨xs, h1, h2, h3⟩, sz⟩ := t
  obtain ⟨hd, ys, r, dd⟩ := tdDict I h1 h3
  obtain ⟨es, ep, hr, hs, hx⟩ := dd.raw
  have hl : xs.length = ys.length := Paired.length r
  refine ⟨hd, xs, es, ep, hr, h2, h3, by rw [hs, ← hl, ← h2, view_len], fun i hi => ?_⟩
  obtain ⟨y, e1, e2, e3, _⟩ := hx i hi
  have : ∀ {xs : List XK} {ys : List YK} {i : Nat} {y : YK}, XR xs ys → ys[i]? = some y → ∃ x, xs[i]? = some x ∧ x.2.1 = y.2.1 ∧ RelV x.2.2 y.2.2 := by
    intro xs ys i y r
    induction r generalizing i with
    | nil => intro e; simp at e
    | @cons p q ps qs h t ih =>
      intro e
      cases i with
      | zero => simp only [List.getElem?_cons_zero, Option.some.injEq] at e; subst e; exact ⟨p, rfl, h.2.1, h.2.2⟩
      | succ i => obtain ⟨x, a1, a2⟩ := ih (i := i) (by simpa using e); exact ⟨x, by simpa using a1, a2⟩
  obtain ⟨x, f1, f2, f3⟩ := this r e1
  exact ⟨x, f1, by rw [e2, f2], by rw [e3]; exact f3⟩
end
theorem dts_kV {K : PySem.W.Frag} {H : Hp} : ∀ ks : List Key, DTs K H (ks.map kV) (ks.map kD)
  | [] => .nil
  | .inl i :: ks => .cons (.int i) (dts_kV ks)
  | .inr x :: ks => .cons (.str x) (dts_kV ks)
theorem dt_ofKey {K : PySem.W.Frag} {H : Hp} {b : Addr} {ks : List Key} (h : SqP K H b (ks.map kV)) : DT K H (.ref b) (keyDs ks) := .tup h (dts_kV ks)
theorem vals_of_get : ∀ {xs : List V} {us : List Value}, xs.length = us.length → (∀ (j : Nat) (x : V) (u : Value), xs[j]? = some x → us[j]? = some u → RelV x u) → Vals xs us
  | [], [], _, _ => .nil
  | x :: xs, u :: us, hl, h => .cons (h 0 x u rfl rfl) (vals_of_get (Nat.succ.inj hl) fun j a b e1 e2 => h (j + 1) a b (by simpa using e1) (by simpa using e2))
section
variable {T : List (Addr × Str)} {X : Cx} {σ : L2.St} {H : Hp} {e a b c o : Expr} {pos p : Pos} {n : Nat} {Q : VK} {dd : Addr} {kvt : List (List Key × V)}
theorem call_sortedKT (hc : X.calm = true) : CallR X (.builtin "sorted") (fun xs H Q => ∃ (dd : Addr) (kvt : List (List Key × V)), xs = [.ref dd] ∧ TD X.prog X.w X.K H dd kvt ∧ PySem.W.AllAlike (kvt.map fun e => keyDs e.1) ∧ PySem.W.Sortable (kvt.map fun e => keyDs e.1) ∧ kvt.length ≤ 100000 ∧ (∀ e ∈ kvt, X.A.units + 2 + (keyDs e.1).depth < cLine) ∧
    ∀ p vs' ds', H p = none → ds'.Perm (kvt.map fun e => keyDs e.1) → DTs X.K H vs' ds' → Q (.ref p) (upd H p (.lst vs'))) := by
  intro pins s σ H xs us Q I r h
  obtain ⟨dd, kvt, e, t, al, so, hz, hu, q⟩ := h
  subst e
  rw [Vals.ref1 r]
  obtain ⟨hd, xk, es, ep, hr, hv, hk, hes, hget⟩ := td_raw I t
  have hxl : xk.length = kvt.length := by rw [← hv, view_len]
  refine sortedK_raw (I.ok.hd hc) hd hr (by rw [hes]; exact Nat.le_of_lt (small5 hz)) fun h' tk vs hkp hvl hvg => ?_
  have I1 : Inv X pins σ H { s with heap := h', toks := tk } := I.kept hkp
  have rv : Vals (xk.map fun x => V.ref x.2.1) vs := vals_of_get (by rw [List.length_map, hvl, hes, hxl]) fun j x u e1 e2 => by
    obtain ⟨hi, e3⟩ := hvg j u e2
    obtain ⟨y, f1, f2, _⟩ := hget j hi
    rw [List.getElem?_map, f1] at e1
    cases e1
    rw [e3, f2]
    rfl
  have hds : DTs X.K H (xk.map fun x => V.ref x.2.1) (kvt.map fun e => keyDs e.1) := by
    rw [← hv]
    clear rv hget hxl hr hv al so hu q t
    induction xk with
    | nil => exact .nil
    | cons x xk ih => exact .cons (dt_ofKey (hk x (List.mem_cons_self ..))) (ih fun y hy => hk y (List.mem_cons_of_mem _ hy))
  refine sort_new (s := { s with heap := h', toks := tk }) (Q := fun s' => EP X pins σ Q (.ref h'.objs.size) s') I1 hds rv al so (by rw [List.length_map]; exact hz) (fun d hd => ?_) fun vs' ds' s' pm hv' I' => ⟨.ref h'.objs.size, _, I', rfl, q _ vs' ds' (I1.hok.fresh (Nat.le_refl _)) pm hv'⟩
  obtain ⟨e, he, rfl⟩ := List.mem_map.mp hd
  have := hu e he
  show X.A.units + 1 + 1 + _ < _
  omega
theorem el_sortedTD (c0 : Cok n X) (hm : X.mg "sorted" = none) (h : EvV T X a σ H (.ref dd)) (t : TD X.prog X.w X.K H dd kvt) (al : PySem.W.AllAlike (kvt.map fun e => keyDs e.1)) (so : PySem.W.Sortable (kvt.map fun e => keyDs e.1)) (hz : kvt.length ≤ 100000) (hu : ∀ e ∈ kvt, (keyDs e.1).depth ≤ 60)
    (hg : Gl X "sorted" := by rfl) (h1 : starEach [a] X.env = (false, eval a X.env) :: starEach [] X.env := by rfl) : EvL T X (.Call (.Name "sorted" p) [a] [] pos) σ H (fun out => out.Perm (kvt.map fun e => keyDs e.1)) := fun H1 c1 Q q =>
  wE.of (pe_callB (call_sortedKT c0.calm) hg hm (by decide +kernel) (pa_cons peW pa_nil h1) (by decide) (by decide) h1 (by rfl)) (h H1 c1 _ fun H2 c2 => ⟨dd, kvt, rfl, t.keep (c1.trans c2) (by simp), al, so, hz, fun e he => by have := hu e he; have := c0.hu64; omega,
    fun p vs' ds' hp pm hv => q p _ vs' ds' (c2.back p hp) (c2.trans (.new hp)) upd_same pm (Chg.dts (T := T) (S := []) (.new hp) hv) (by rw [hv.len, pm.length_eq, List.length_map]; exact hz)⟩)
/-! ### d.items() -/
theorem wE_items {Q : VK} {apos cpos : Pos} (h : wE X o σ H fun x H1 => ∃ dd kvt, x = .ref dd ∧ TD X.prog X.w X.K H1 dd kvt ∧ ∀ p, H1 p = none → Q (.ref p) (upd H1 p (DX.itemsO p dd)))
    (hbase : attributeBase o "items" X.env (eval o X.env) = eval o X.env := by rfl) (hline : (apos.endLine == cpos.line) = true := by rfl) : wE X (.Call (.Attribute o "items" apos) [] [] cpos) σ H Q := fun pins s I => by
  refine wpAny_Call_method0_late hbase hline (thn (h pins s I) fun v s1 ⟨x, H1, I1, r1, dd, kvt, e, t, q⟩ => ?_)
  subst e
  cases r1
  obtain ⟨hd, xk, es, ep, hr, _⟩ := td_raw I1 t
  obtain ⟨od, g1, g2, _⟩ := id hr
  refine ⟨"dict", "dict.items", PySem.F.plainAttrs_dict, PySem.F.slot_dict_items, PySem.F.type_dict_items, hr.typeIs, fun b q => ?_, Calls.callWith_builtin rfl (PySem.evalArgs_none ?_)⟩
  · cases q
    exact ⟨od, g1, g2.2.1⟩
  · refine DT.callItems (es := es) (ep := ep) hd hr ?_
    exact ⟨.ref s1.heap.objs.size, upd H1 s1.heap.objs.size (DX.itemsO s1.heap.objs.size dd), I1.laid (t' := s1.toks) (fun b u e => Heap.get?_push_of_some _ e) (Nat.le_refl _) (DX.itemsO_ok (Heap.get?_push_size _ rfl)), rfl, q _ (I1.hok.fresh (Nat.le_refl _))⟩
/-- tuples already laid are tracked, as plain ones -/
theorem takeF {pins : List (Addr × Obj)} {H0 : Hp} {s : Shared} {h' : Heap} {tk : Nat} {P : Addr → List V → Prop} (I0 : Inv X pins σ H0 s) : ∀ (L : List Addr) (H1 : Hp), Inv X pins σ H1 { s with heap := h', toks := tk } → L.Nodup →
    (∀ a ∈ L, s.heap.objs.size ≤ a ∧ H1 a = none ∧ ∃ o vs, P a vs ∧ o.dict = none ∧ ∀ H2, ObjOk X.prog X.w H2 h' a (.frz o (.tup vs))) →
    ∃ H2, Inv X pins σ H2 { s with heap := h', toks := tk } ∧ Ex T H1 H2 ∧ ∀ a ∈ L, ∃ o vs, P a vs ∧ o.dict = none ∧ H2 a = some (.frz o (.tup vs))
  | [], H1, I1, _, _ => ⟨H1, I1, .refl, fun _ h => nomatch h⟩
  | a :: L, H1, I1, hn, h => by
    obtain ⟨hb, hnone, o, vs, hP, ho, ok⟩ := h a (List.mem_cons_self ..)
    have I2 : Inv X pins σ (upd H1 a (.frz o (.tup vs))) { s with heap := h', toks := tk } := I1.take (h' := h') (t' := tk) (fun b ob _ e => e) (I0.fpOk hb hnone) (ok _)
    rw [List.nodup_cons] at hn
    have c1 : Ex T H1 (upd H1 a (.frz o (.tup vs))) := .new hnone
    obtain ⟨H2, I3, g, q⟩ := takeF I0 L (upd H1 a (.frz o (.tup vs))) I2 hn.2 fun c hc => by
      obtain ⟨c1, c2, c3⟩ := h c (List.mem_cons_of_mem _ hc)
      exact ⟨c1, by rw [upd_ne (fun z => hn.1 (by rw [← z]; exact hc))]; exact c2, c3⟩
    refine ⟨H2, I3, c1.trans g, fun c hc => ?_⟩
    rcases List.mem_cons.mp hc with rfl | hc
    · exact ⟨o, vs, hP, ho, g.get upd_same⟩
    · exact q c hc
theorem dts_of_get {K : PySem.W.Frag} {H : Hp} : ∀ {xs : List V} {ds : List PyData}, xs.length = ds.length → (∀ (j : Nat) (x : V) (d : PyData), xs[j]? = some x → ds[j]? = some d → DT K H x d) → DTs K H xs ds
  | [], [], _, _ => .nil
  | x :: xs, u :: us, hl, h => .cons (h 0 x u rfl rfl) (dts_of_get (Nat.succ.inj hl) fun j a b e1 e2 => h (j + 1) a b (by simpa using e1) (by simpa using e2))
theorem view_get {xk : List XK} {kvt : List (List Key × V)} (hv : view xk = kvt) {j : Nat} {x : XK} (h : xk[j]? = some x) : kvt[j]? = some (x.1, x.2.2) := by
  rw [← hv]
  unfold view
  rw [List.getElem?_map, h]
  rfl
theorem sd_get {K : PySem.W.Frag} {H : Hp} {kvs : List (List Key × V)} {l : List (List Key × PyData)} (s : SD K H kvs l) {j : Nat} {p : List Key × V} (h : kvs[j]? = some p) : ∃ e, l[j]? = some e ∧ p.1 = e.1 ∧ DT K H p.2 e.2 := by
  induction s generalizing j with
  | nil => simp at h
  | @cons a b as bs h1 t ih =>
    cases j with
    | zero => simp only [List.getElem?_cons_zero, Option.some.injEq] at h; subst h; exact ⟨b, rfl, h1⟩
    | succ j => obtain ⟨e, e1, e2⟩ := ih (j := j) (by simpa using h); exact ⟨e, by simpa using e1, e2⟩
def pairD (e : List Key × PyData) : PyData := .tuple [keyDs e.1, e.2]
theorem call_sortedIT (hc : X.calm = true) : CallR X (.builtin "sorted") (fun xs H Q => ∃ (v dd : Addr) (kvt : List (List Key × V)) (l : List (List Key × PyData)), xs = [.ref v] ∧ H v = some (DX.itemsO v dd) ∧ TD X.prog X.w X.K H dd kvt ∧ SD X.K H kvt l ∧ PySem.W.AllAlike (l.map pairD) ∧ PySem.W.Sortable (l.map pairD) ∧ kvt.length ≤ 100000 ∧ (∀ e ∈ l, X.A.units + 2 + (pairD e).depth < cLine) ∧
    ∀ p vs' ds' H2, Ex T H H2 → H2 p = none → ds'.Perm (l.map pairD) → DTs X.K H2 vs' ds' → Q (.ref p) (upd H2 p (.lst vs'))) := by
  intro pins s σ H xs us Q I r h
  obtain ⟨v, dd, kvt, l, e, hv0, t, sd, al, so, hz, hu, q⟩ := h
  subst e
  rw [Vals.ref1 r]
  have hvw : s.heap.IsItemsView v dd := (show ObjOk X.prog X.w H s.heap v (DX.itemsO v dd) from I.hok v _ hv0).1
  obtain ⟨hd, xk, es, ep, hr, hv, hk, hes, hget⟩ := td_raw I t
  have hxl : xk.length = kvt.length := by rw [← hv, view_len]
  have hll : kvt.length = l.length := Paired.length sd
  refine _root_.DT.sortedI (es := es) (ep := ep) (I.ok.hd hc) hvw hr (by rw [hes]; exact Nat.le_of_lt (small5 hz)) fun h' tk as hkp hlt hasl hG => ?_
  have I1 : Inv X pins σ H { s with heap := h', toks := tk } := I.kept hkp
  have hnd : as.Nodup := List.Pairwise.imp (fun h => Nat.ne_of_lt h) hG.rise
  obtain ⟨H2, I2, c2, hT⟩ := takeF (T := T) (P := fun a vs => ∃ (j : Nat) (x : XK), as[j]? = some a ∧ xk[j]? = some x ∧ vs = [.ref x.2.1, x.2.2]) I as H I1 hnd (fun a ha => by
    obtain ⟨j, hj⟩ := List.getElem?_of_mem ha
    obtain ⟨en, he, hg⟩ := hG.pairs j a hj
    have hi : j < es.size := (Array.getElem?_eq_some_iff.mp he).1
    obtain ⟨x, f1, f2, f3⟩ := hget j hi
    have een : es[j] = en := by rw [Array.getElem?_eq_getElem hi] at he; exact Option.some.inj he
    rw [een] at f2 f3
    have hab := hG.above a ha
    refine ⟨Nat.le_of_lt hab, I.hok.fresh (Nat.le_of_lt hab), _, [.ref x.2.1, x.2.2], ⟨j, x, hj, f1, rfl⟩, rfl, fun H2 => ⟨hg, by show 2 ≤ sizeLine; decide, [en.key, en.val], .cons (by rw [f2]; rfl) (.cons f3 .nil), ⟨_, hg, rfl, _, rfl⟩⟩⟩)
  have hds : DTs X.K H2 (as.map V.ref) (l.map pairD) := dts_of_get (by rw [List.length_map, List.length_map, hasl, hes, hll]) fun j x d e1 e2 => by
    rw [List.getElem?_map] at e1 e2
    obtain ⟨a, ha, rfl⟩ := Option.map_eq_some_iff.mp e1
    obtain ⟨en, hen, rfl⟩ := Option.map_eq_some_iff.mp e2
    obtain ⟨o, vs, ⟨j2, y, g1, g2, g3⟩, ho, hH⟩ := hT a (List.mem_of_getElem? ha)
    have ej : j2 = j := by
      have h1 := (List.getElem?_eq_some_iff.mp g1)
      have h2 := (List.getElem?_eq_some_iff.mp ha)
      obtain ⟨l1, e1⟩ := h1
      obtain ⟨l2, e2⟩ := h2
      have pw := List.pairwise_iff_getElem.mp hG.rise
      rcases Nat.lt_trichotomy j2 j with z | z | z
      · have := pw j2 j l1 l2 z
        rw [e1, e2] at this
        exact absurd this (Nat.lt_irrefl _)
      · exact z
      · have := pw j j2 l2 l1 z
        rw [e1, e2] at this
        exact absurd this (Nat.lt_irrefl _)
    subst ej
    obtain ⟨en2, k1, k2, k3⟩ := sd_get sd (view_get hv g2)
    rw [hen] at k1
    cases k1
    subst g3
    refine .tup (.inl ⟨o, hH, ho⟩) (.cons ?_ (.cons (c2.dt k3) .nil))
    have hkk := dt_ofKey (c2.sp (hk y (List.mem_of_getElem? g2)))
    rw [show y.1 = en.1 from k2] at hkk
    exact hkk
  have rv : Vals (as.map V.ref) (as.map Value.ref) := by
    clear hds hT hnd hG hasl
    induction as with
    | nil => exact .nil
    | cons a as ih => exact .cons rfl ih
  refine sort_new (s := { s with heap := h', toks := tk }) (Q := fun s' => EP X pins σ Q (.ref h'.objs.size) s') I2 hds rv al so (by rw [List.length_map, ← hll]; exact hz) (fun d hd => ?_) fun vs' ds' s' pm hv' I' => ⟨.ref h'.objs.size, _, I', rfl, q _ vs' ds' H2 c2 (I2.hok.fresh (Nat.le_refl _)) pm hv'⟩
  obtain ⟨e, he, rfl⟩ := List.mem_map.mp hd
  have := hu e he
  show X.A.units + 1 + 1 + _ < _
  omega
/-- sorted(d.items()) -/
theorem el_sortedIT {l : List (List Key × PyData)} {apos cpos : Pos} (c0 : Cok n X) (hm : X.mg "sorted" = none) (h : EvV T X o σ H (.ref dd)) (t : TD X.prog X.w X.K H dd kvt) (sd : SD X.K H kvt l) (al : PySem.W.AllAlike (l.map pairD)) (so : PySem.W.Sortable (l.map pairD)) (hz : kvt.length ≤ 100000) (hu : ∀ e ∈ l, (pairD e).depth ≤ 60)
    (hg : Gl X "sorted" := by rfl) (h1 : starEach [.Call (.Attribute o "items" apos) [] [] cpos] X.env = (false, eval (.Call (.Attribute o "items" apos) [] [] cpos) X.env) :: starEach [] X.env := by rfl)
    (hbase : attributeBase o "items" X.env (eval o X.env) = eval o X.env := by rfl) (hline : (apos.endLine == cpos.line) = true := by rfl) : EvL T X (.Call (.Name "sorted" p) [.Call (.Attribute o "items" apos) [] [] cpos] [] pos) σ H (fun out => out.Perm (l.map pairD)) := fun H1 c1 Q q =>
  wE.of (pe_callB (call_sortedIT (T := T) c0.calm) hg hm (by decide +kernel) (pa_cons peW pa_nil h1) (by decide) (by decide) h1 (by rfl)) (wE_items (h H1 c1 _ fun H2 c2 => ⟨dd, kvt, rfl, t.keep (c1.trans c2) (by simp), fun v hv => by
    have c3 : Ex T H2 (upd H2 v (DX.itemsO v dd)) := .new hv
    have c13 := (c1.trans c2).trans c3
    exact ⟨v, dd, kvt, l, rfl, upd_same, t.keep c13 (by simp), sd.tk c13.tup, al, so, hz, fun e he => (by have := hu e he; have := c0.hu64; omega), fun p vs' ds' H4 c4 hp pm hv' =>
      q p _ vs' ds' (c2.back p (c3.back p (c4.back p hp))) (((c2.trans c3).trans c4).trans (.new hp)) upd_same pm (Chg.dts (T := T) (S := []) (.new hp) hv') (by rw [hv'.len, pm.length_eq, List.length_map, ← Paired.length sd]; exact hz)⟩⟩) hbase hline)
end
end K7
/-! ## K7X -/
set_option Elab.async false
set_option linter.all false
set_option maxRecDepth 100000
set_option maxHeartbeats 4000000
/-! lets_way, state_of, shows, goes_on, the law's row. -/
namespace K7
open PySem PySem.Spec PyProof.Rows L2
theorem lastL_len (c : Code) (way : List Stp) : (lastL c way).length ≤ way.length := by
  unfold lastL
  have : ∀ (l : List Stp) (s : List (Cell × Plc)), (l.foldl (lastS c) s).length ≤ s.length + l.length := by
    intro l
    induction l with
    | nil => intro s; exact Nat.le_refl _
    | cons x l ih =>
      intro s
      rw [List.foldl_cons, List.length_cons]
      have h1 := ih (lastS c s x)
      have h2 := lastS_len c s x
      omega
  have := this way []
  simpa using this
def lpD (e : Cell × Plc) : PyData := .tuple [e.1.d, e.2.d]
theorem lp_map (l : List (Cell × Plc)) : (lastK l).map pairD = l.map lpD := by unfold lastK; rw [List.map_map]; rfl
def wordOf (h : Option Plc) : Str := match h with
  | none => "ends"
  | some _ => "open"
theorem isNon_opt (h : Option Plc) : isNon (optD h) = decide (h = none) := by cases h <;> rfl
structure PreW (a : Code × List Stp) : Prop where
  oc : OkCode a.1
  good : Good a.1 a.2
  len : a.2.length ≤ 900
section
variable {P : Program} {w : World} {K : PySem.W.Frag} {mg : Str → Option Value} {base : Heap} {T : List (Addr × Str)}
/-- a call of gone_way -/
theorem wE_gone {X : Cx} {σ : L2.St} {H : Hp} {Q : VK} {a b : Expr} {n : Nat} {p pos : Pos} {c : Code} {way : List Stp} (G : GDef X.prog X.w X.K X.mg X.base 4 "gone_way" (spGone X.prog X.w X.K T)) (k : Cok n X) (hk : 4 ≤ n) (pre : PreW (c, way)) (ha : EvA T X [a, b] σ H [c.d, wayD way]) {H1 : Hp} (c1 : Ex T H H1) (q : ∀ t H', Ex T H1 H' → GoneR X.K X.prog X.w H' c way t → Q (.ref t) H')
    (hg : Gl X "gone_way" := by rfl) (he : starEach [a, b] X.env = (false, eval a X.env) :: starEach [b] X.env := by rfl) (hpl : (backTo pos (starEach [b] X.env)).any (·.1) = false := by rfl) : wE X (.Call (.Name "gone_way" p) [a, b] [] pos) σ H1 Q :=
  wE_call G k hk hg (ha H1 c1 _ fun vs H2 c2 hv => ⟨c, way, pre.oc, pre.good, pre.len, hv, fun t H3 c3 g => q t H3 (c2.trans c3) g⟩) (by decide) he hpl
/-! ### lets_way -/
theorem sc_lets_way : FnScope ["code", "thing", "here", "calls", "last", "shown"] ["code", "thing"] (defScope (top 40)) := ⟨rfl, rfl, rfl, by decide +kernel, rfl, by decide +kernel, by decide +kernel⟩
def LetsR (a : Code × List Stp) (d : PyData) : Prop := ∃ l : List (Cell × Plc), l.Perm (lastL a.1 a.2) ∧ d = .tuple [.str (wordOf (st a.1 a.2).1), .tuple (l.map lpD)]
abbrev spLets (K : PySem.W.Frag) (T : List (Addr × Str)) : Sp' := spF K T (fun a : Code × List Stp => [a.1.d, wayD a.2]) PreW LetsR
theorem g_lets_way (F : At K mg "lets_way" 40) (B : Blt mg) (G : GDef P w K mg base 4 "gone_way" (spGone P w K T)) : GDef P w K mg base 5 "lets_way" (spLets K T) := by
  refine F.okF sc_lets_way (fun _ _ _ _ _ _ us hl => match us, hl with | [_, _], _ => rfl) (fun _ => rfl) fun f cdv Ar outer s H vs Q ⟨c, way⟩ k pre hv q => ?_
  obtain ⟨v1, v2, rfl, h1, h2⟩ := hv.inv2
  refine wS_cons (ps_asg peW (pg_tup (n := 4) k.calm (pgs_cons (pg_name (i := 2) k.nd rfl (.inl rfl)) (pgs_cons (pg_name (i := 3) k.nd rfl (.inl rfl)) (pgs_cons (pg_name (i := 4) k.nd rfl (.inl rfl)) (pgs_cons (pg_name (i := 5) k.nd rfl (.inl rfl)) pgs_nil))))) rfl rfl (by rfl)) ?_
  refine wE_gone (T := T) G k (Nat.le_refl _) pre (ea_cons (ed_name 0 h1) (ea_cons (ed_name 1 h2) ea_nil)) .refl fun t H1 c1 g => ?_
  obtain ⟨o, w1, w2, w4, dd, kvt, ht, ho, g1, g2, g4, td, sd⟩ := g.ex
  refine ⟨t, _, rfl, .inl (.inr ⟨o, ht⟩), rfl, _, _, rfl, _, _, rfl, _, _, rfl, _, _, rfl, rfl, ?_⟩
  have hll : kvt.length ≤ 900 := by
    have h5 : kvt.length = (lastK (lastL c way)).length := Paired.length sd
    rw [h5]
    unfold lastK
    rw [List.length_map]
    exact Nat.le_trans (lastL_len c way) pre.len
  have ewd : ∀ (k : Bool), k = decide ((st c way).1 = none) → wordOf (st c way).1 = if k = true then "ends" else "open" := fun k e => by
    cases hs : (st c way).1 with
    | none => rw [hs] at e; rw [e]; rfl
    | some p => rw [hs] at e; rw [e]; rfl
  refine ws_retR (T := T) (R := LetsR (c, way)) ?_ fun v H2 d c2 hr hd => q v H2 d (c1.trans c2) hr hd
  intro H2 c2 Q2 q2
  refine wE_tup (wA_cons (EvD.go (T := T) (d := .str (wordOf (st c way).1)) (ed_if (k := isNon (optD (st c way).1)) (et_cmp (ec_isN (ed_name 2 g1))) (fun z => ?_) fun z => ?_) c2 fun x1 H3 c3 hx1 => wA_cons (EvR.go (T := T) (er_tuple B.tuple (el_sortedIT k B.sorted (ev_name 4) td sd ?_ ?_ (by omega) ?_)) (c2.trans c3) fun x2 H4 d2 c4 ⟨ds, pm, ed⟩ hx2 => wA_nil ⟨by show 2 ≤ sizeLine; decide, fun p o hp ho => ?_⟩)))
  · refine EvD.is ed_str ?_
    rw [isNon_opt] at z
    rw [ewd _ rfl, if_pos z]
  · refine EvD.is ed_str ?_
    rw [isNon_opt] at z
    rw [ewd _ rfl, if_neg (by rw [z]; decide)]
  · rw [lp_map]
    exact PySem.W.AllAlike.of fun x y => by simp [lpD, Cell.d, Plc.d, PySem.W.alike, PySem.W.alikeAll]
  · rw [lp_map]
    exact PySem.W.Sortable.tuples fun x => ⟨_, _, rfl⟩
  · intro e he
    obtain ⟨x, _, rfl⟩ := List.mem_map.mp he
    show (lpD x).depth ≤ 60
    simp [lpD, Cell.d, Plc.d, PyData.depth, PyData.depthAll]
  · have c5 : Ex T H4 (upd H4 p (.frz o (.tup [x1, x2]))) := .new hp
    rw [lp_map] at pm
    obtain ⟨l, e, pl⟩ := perm_map_inv lpD pm _ rfl
    exact q2 (.ref p) _ _ ((c3.trans c4).trans c5) ⟨l, pl, rfl⟩ (.new hp ho (.cons (c4.dt hx1) (.one (by rw [← e, ← ed]; exact hx2))))
/-! ### state_of -/
theorem sc_state_of : FnScope ["code", "thing"] ["code", "thing"] (defScope (top 41)) := ⟨rfl, rfl, rfl, by decide +kernel, rfl, by decide +kernel, by decide +kernel⟩
def stD (a : Code × List Stp) : PyData := .tuple [optD (st a.1 a.2).1, plcsD (st a.1 a.2).2]
abbrev spState (K : PySem.W.Frag) (T : List (Addr × Str)) : Sp' := spF K T (fun a : Code × List Stp => [a.1.d, wayD a.2]) PreW fun a d => d = stD a
theorem g_state_of (F : At K mg "state_of" 41) (G : GDef P w K mg base 4 "gone_way" (spGone P w K T)) : GDef P w K mg base 5 "state_of" (spState K T) := by
  refine F.okF sc_state_of (fun _ _ _ _ _ _ us hl => match us, hl with | [_, _], _ => rfl) (fun _ => rfl) fun f cdv Ar outer s H vs Q ⟨c, way⟩ k pre hv q => ?_
  obtain ⟨v1, v2, rfl, h1, h2⟩ := hv.inv2
  refine ws_return (wE.of (pe_slice sl_tupP peW poW poW) (wE_gone (T := T) G k (Nat.le_refl _) pre (ea_cons (ed_name 0 h1) (ea_cons (ed_name 1 h2) ea_nil)) .refl fun t H1 c1 g => ?_))
  obtain ⟨o, w1, w2, w4, dd, kvt, ht, ho, g1, g2, g4, td, sd⟩ := g.ex
  refine eo_none (T := T) (H := H1) H1 .refl _ fun H2 c2 => eo_some (T := T) ed_int H2 .refl _ fun H3 c3 => ⟨t, _, rfl, (c2.trans c3).sq (.inl (.inr ⟨o, ht⟩)), fun z => absurd z.2 (show ¬ ((2 : Nat) = 4) from by decide), fun _ p o2 hp ho2 => ?_⟩
  have c4 : Ex T H3 (upd H3 p (.frz o2 (.tup [w1, w2]))) := .new hp
  exact q (.ref p) _ (stD (c, way)) (((c1.trans c2).trans c3).trans c4) rfl (.new hp ho2 (.cons ((c2.trans c3).dt g1) (.one ((c2.trans c3).dt g2))))
/-! ### shows -/
theorem sc_shows : FnScope ["code", "thing", "shown"] ["code", "thing"] (defScope (top 42)) := ⟨rfl, rfl, rfl, by decide +kernel, rfl, by decide +kernel, by decide +kernel⟩
abbrev spShows (K : PySem.W.Frag) (T : List (Addr × Str)) : Sp' := spF K T (fun a : Code × List Stp => [a.1.d, wayD a.2]) (fun a => PreW a ∧ isNon (shownD a.1 a.2) = false) fun a d => d = shownD a.1 a.2
theorem g_shows (F : At K mg "shows" 42) (Gn : GDef P w K mg base 1 "need_way" (spNeed K T)) (G : GDef P w K mg base 4 "gone_way" (spGone P w K T)) : GDef P w K mg base 5 "shows" (spShows K T) := by
  refine F.okF sc_shows (fun _ _ _ _ _ _ us hl => match us, hl with | [_, _], _ => rfl) (fun _ => rfl) fun f cdv Ar outer s H vs Q ⟨c, way⟩ k ⟨pre, hnn⟩ hv q => ?_
  obtain ⟨v1, v2, rfl, h1, h2⟩ := hv.inv2
  refine ws_set 2 k (wE.of (pe_ix ix_tup peW peW (by exact fun _ _ => rfl)) (wE_gone (T := T) G k (Nat.le_refl _) pre (ea_cons (ed_name 0 h1) (ea_cons (ed_name 1 h2) ea_nil)) .refl fun t H1 c1 g => ?_))
  obtain ⟨o, w1, w2, w4, dd, kvt, ht, ho, g1, g2, g4, td, sd⟩ := g.ex
  refine EvD.go (T := T) (ed_int (i := 3)) .refl fun x H2 c2 hx => ⟨t, _, 3, w4, rfl, hx.inv_int, c2.sq (.inl (.inr ⟨o, ht⟩)), rfl, ?_⟩
  have hnn : isNon (shownD c way) = false := hnn
  refine ws_dropR (T := T) (er_cf Gn k (.str "load", .int (-1)) (ea_cons (EvD.is (ed_cmp (ec_notN (ed_name 2 (c2.dt g4)))) (by rw [hnn]; rfl)) (ea_cons ed_str (ea_cons (ed_neg ed_int) ea_nil))) True.intro) fun H3 c3 => ?_
  exact ws_ret (T := T) (ed_name 2 (c3.dt (c2.dt g4))) fun v H4 c4 hd => q v H4 _ (((c1.trans c2).trans c3).trans c4) rfl hd
end
end K7
/-! ## K7Y -/
set_option Elab.async false
set_option linter.all false
set_option maxRecDepth 100000
set_option maxHeartbeats 4000000
/-! goes_on, the law's row. -/
namespace K7
open PySem PySem.Spec PyProof.Rows L2
section
variable {T : List (Addr × Str)} {X : Cx} {σ : L2.St} {H : Hp} {e a b c o iter elt : Expr} {d : PyData} {ds es ss : List PyData} {D : Ends} {rest : List Stmt} {pos p2 pt : Pos} {n : Nat} {Q : VK} {v w : V}
theorem el_lcMR {scope : Scope} {own : List (Str × Nat)} {x : Str} {R : List PyData → Prop} (j : Nat) (f : PyData → PyData) (c : Cok n X) (ok : BlkOk X.N X.env.scope scope own) (hi : EvR T X iter σ H (fun d => ∃ ss, d = .tuple ss ∧ ss.length ≤ 1000 ∧ R ss))
    (hx : X.N[j]? = some x) (hown : j ∈ own.map (·.2)) (hlx : (relS scope X.env.scope).names.lookup x = some .local)
    (he : ∀ (s : Shared) (Hs : Hp) (C : Addr) (cl : List (Str × Addr)) (fp : List Addr) (ss : List PyData) (src : PyData) (v : V) (H1 : Hp), R ss → src ∈ ss → Ex T H H1 → DT X.K H1 v src → EvD T (X.blk s Hs scope (compEnvC scope cl C X.env) fp) elt ((wipe σ (own.map (·.2))).set j (some v)) H1 (f src))
    (hw : ∀ v, wipe ((wipe σ (own.map (·.2))).set j v) (own.map (·.2)) = wipe σ (own.map (·.2)))
    (hs : ∀ x, foldedSetIterable iter X.env x = pure x := by intro _; rfl) : EvL T X (.ListComp elt [⟨.Name x pt, iter, [], 0⟩] scope pos) σ H (fun ds => ∃ ss, R ss ∧ ds = ss.map f) :=
  EvL.imp (el_lcT (R := fun d => ∃ ss, d = .tuple ss ∧ R ss) j (fun ss' done => done = (ss'.take done.length).map f) c ok (hi.imp fun d ⟨ss, e, hz, hr⟩ => ⟨ss, e, hz, ss, e, hr⟩) (fun _ => rfl) hx hown hlx
    (fun s Hs C cl fp ss' i src done v H1 ⟨ss, e, hR⟩ hsrc hl hd c1 hv => by
      have e : ss' = ss := by injection e
      subst e
      refine (he s Hs C cl fp ss' src v H1 hR (List.mem_of_getElem? hsrc) c1 hv).r ?_
      rw [List.length_append, hl]
      show done ++ [f src] = (ss'.take (i + 1)).map f
      rw [List.take_succ, hsrc, List.map_append, ← hl, ← hd]
      rfl) hw hs) fun ds ⟨ss', ⟨ss, e, hR⟩, hl, hd⟩ => by
    have e : ss' = ss := by injection e
    subst e
    exact ⟨ss', hR, by rw [hd, hl, List.take_length]⟩
end
section
variable {P : Program} {w : World} {K : PySem.W.Frag} {mg : Str → Option Value} {base : Heap} {T : List (Addr × Str)}
/-! ### goes_on -/
theorem sc_goes_on : FnScope ["code", "thing", "here", "calls", "choice"] ["code", "thing"] (defScope (top 44)) := ⟨rfl, rfl, rfl, by decide +kernel, rfl, by decide +kernel, by decide +kernel⟩
structure PreGo (a : Code × List Stp × Plc × Op) : Prop where
  w : PreW (a.1, a.2.1)
  here : (st a.1 a.2.1).1 = some a.2.2.1
  row : a.1.row a.2.2.1 = some a.2.2.2
def GoR (a : Code × List Stp × Plc × Op) (d : PyData) : Prop := ∃ l : List Chc, d = .tuple (l.map fun ch => Stp.d (a.2.2.1, ch)) ∧ (∀ x, x ∈ l ↔ x ∈ a.1.chs a.2.2.2) ∧ l.length ≤ 100
abbrev spGo (K : PySem.W.Frag) (T : List (Addr × Str)) : Sp' := spF K T (fun a : Code × List Stp × Plc × Op => [a.1.d, wayD a.2.1]) PreGo GoR
theorem g_goes_on (F : At K mg "goes_on" 44) (B : Blt mg) (Gs : GDef P w K mg base 5 "state_of" (spState K T)) (Gc : GDef P w K mg base 3 "choices_at" (spChs K T)) : GDef P w K mg base 6 "goes_on" (spGo K T) := by
  refine F.okF sc_goes_on (fun _ _ _ _ _ _ us hl => match us, hl with | [_, _], _ => rfl) (fun _ => rfl) fun f cdv Ar outer s H vs Q ⟨c, way, p, op⟩ k pre hv q => ?_
  obtain ⟨v1, v2, rfl, h1, h2⟩ := hv.inv2
  have hst : (st c way).1 = some p := pre.here
  have hrow : c.row p = some op := pre.row
  refine ws_unp2 (T := T) (d1 := optD (st c way).1) (d2 := plcsD (st c way).2) 2 3 k (ed_cf Gs k (c, way) (ea_cons (ed_name 0 h1) (ea_cons (ed_name 1 h2) ea_nil)) pre.w) fun w1 w2 H1 c1 g1 g2 => ?_
  rw [hst] at g1
  refine ws_when (T := T) (k := false) (EvT.is (et_cmp (ec_isN (ed_name 2 g1))) rfl) (fun z => by cases z) fun _ H2 c2 => ?_
  refine ws_retR (T := T) (er_tuple B.tuple (el_lcMR (R := fun ss => ∃ l : List Chc, ss = l.map Chc.d ∧ (∀ x, x ∈ l ↔ x ∈ c.chs op) ∧ l.length ≤ 100) (own := [("choice", 4)]) 4 (fun d => .tuple [p.d, d]) k (blkOk_by rfl) (EvR.imp (er_cf Gc k (c, p, op) (ea_cons (ed_name 0 ((c1.trans c2).dt h1)) (ea_cons (ed_name 2 (c2.dt g1)) ea_nil)) ⟨pre.w.oc, hrow⟩) fun d ⟨l, e, h5, h6⟩ => ⟨_, e, by rw [List.length_map]; omega, l, rfl, h5, h6⟩) rfl (by simp) rfl (fun s' Hs C cl fp ss src v H3 _ _ c3 hv => ed_tup (ea_cons (ed_name 2 ((c2.trans c3).dt g1)) (ea_cons (ed_name 4 hv) ea_nil))) (fun _ => rfl))) fun v H3 d c3 ⟨ds, ⟨ss, ⟨l, e1, e2, e3⟩, e4⟩, ed⟩ hd => q v H3 d ((c1.trans c2).trans c3) ⟨l, ?_, e2, e3⟩ hd
  rw [ed, e4, e1, List.map_map]
  rfl
/-! ### _law_row_at -/
theorem sc_law_row_at : FnScope ["_law_plan_here", "_law_spot", "_law_rows", "_law_end"] ["_law_plan_here", "_law_spot"] (defScope (top 60)) := ⟨rfl, rfl, rfl, by decide +kernel, rfl, by decide +kernel, by decide +kernel⟩
theorem g_law_row_at (F : At K mg "_law_row_at" 60) (B : Blt mg) : GDef P w K mg base 1 "_law_row_at" (spRow K T) := by
  refine F.okF sc_law_row_at (fun _ _ _ _ _ _ us hl => match us, hl with | [_, _], _ => rfl) (fun _ => rfl) fun f cdv Ar outer s H vs Q a k hp hv q => ?_
  obtain ⟨c, p, op⟩ := a
  obtain ⟨oc, hrow⟩ := hp
  obtain ⟨v1, v2, rfl, h1, h2⟩ := hv.inv2
  obtain ⟨bs, b, e1, e2, e3⟩ := row_inv hrow
  refine ws_unp2 (T := T) 2 3 (d1 := .tuple (b.1.map Op.d)) (d2 := b.2.d) k (ed_ix (ed_rt k B oc (ed_at1 (ed_name 0 h1)) (ed_at0 (ed_name 1 h2)) e1) (ed_at1 (ed_name 1 h2)) (atI_map (f := Blk.d) e2)) fun v3 v4 H1 c1 h3 h4 => ?_
  refine ws_ret (T := T) (d := op.d) (ed_if (k := decide ((p.k : Int) < ((b.1.map Op.d).length : Int))) (et_cmp (ec_lt (ed_at2 (ed_name 1 (c1.dt h2))) (ed_lenT B.len (ed_name 2 h3)))) (fun z => ?_) (fun z => ?_)) fun v H2 c2 hd => q v H2 _ (c1.trans c2) rfl hd
  · have z' : p.k < b.1.length := by have := of_decide_eq_true z; rw [List.length_map] at this; omega
    rw [if_pos z'] at e3
    exact ed_ix (ed_name 2 h3) (ed_at2 (ed_name 1 (c1.dt h2))) (atI_map (f := Op.d) e3)
  · have z' : ¬ p.k < b.1.length := by have := of_decide_eq_false z; rw [List.length_map] at this; omega
    rw [if_neg z'] at e3
    cases e3
    exact ed_name 3 h4
end
end K7
/-! ## K8A -/
set_option Elab.async false
set_option linter.all false
set_option maxRecDepth 100000
set_option maxHeartbeats 4000000
/-! Defs by their addresses, methods, instances. -/
namespace K7
open PySem PySem.Spec PyProof.Rows L2
/-- what the function at f does -/
def FRun (P : Program) (w : World) (K : PySem.W.Frag) (mg : Str → Option Value) (base : Heap) (k : Nat) (f : Addr) (sp : Sp') : Prop :=
  ∀ (A : Around) (outer : List Env) (s : Shared) (H : Hp) (us : List Value) (vs : List V) (Q : VK), Room k A → A.guards = some [] → Env0 P w K mg base A outer s H → Vals vs us → sp vs H Q →
      codeAny (model P w) A (.call (.ref f) ⟨us, []⟩) (CR CX0 outer P w H s Q E0) s
theorem FRun.mono {P : Program} {w : World} {K : PySem.W.Frag} {mg : Str → Option Value} {base : Heap} {j k : Nat} {f : Addr} {sp : Sp'} (G : FRun P w K mg base j f sp) (h : j ≤ k) : FRun P w K mg base k f sp := fun A outer s H us vs Q hr => G A outer s H us vs Q (hr.mono h)
/-- the def st under the names x (plain) and q (in full) -/
structure FAt (K : PySem.W.Frag) (f : Addr) (x q : Str) (st : Stmt) : Prop where
  ex : ∃ (oc : Value) (od : Option Addr) (kV doc pm : Value) (an : Option Addr) (cdv ct : Value) (osl : Array (Option Value)),
    K.lookup f = some ⟨oc, od, .func (PySem.W.fnOf x q (defArgs st) (defBody st) (defScope st) .none kV doc pm an cdv ct), osl⟩ ∧ PySem.W.codeIn K cdv q = true
theorem FAt.run {P : Program} {w : World} {K : PySem.W.Frag} {mg : Str → Option Value} {base : Heap} {k : Nat} {x q : Str} {st : Stmt} {f : Addr} {N ps : List Str} {sp : Sp'} (F : FAt K f x q st)
    (S : FnScope N ps (defScope st)) (hb : ∀ (kV doc pm : Value) (an : Option Addr) (cdv ct : Value) (us : List Value), us.length = ps.length → bindArgs (PySem.W.fnOf x q (defArgs st) (defBody st) (defScope st) .none kV doc pm an cdv ct) ⟨us, []⟩ = pure (ps.zip us))
    (len : ∀ vs H Q, sp vs H Q → vs.length = ps.length)
    (body : ∀ (cdv : Value) (A : Around) (outer : List Env) (s : Shared) (H : Hp) (vs : List V) (Q : VK), Cok k (bcx P w K mg base N q st f cdv A outer s H) → sp vs H Q →
      wS (bcx P w K mg base N q st f cdv A outer s H) (defBody st) { nx := fun _ H' => Q .non H', rt := Q } (L2.start N vs) H) : FRun P w K mg base (k + 1) f sp := by
  obtain ⟨oc, od, kV, doc, pm, an, cdv, ct, osl, lk, hcd⟩ := F.ex
  refine fun A outer s H us vs Q hr hg e0 r hsp => ?_
  have hl := len _ _ _ hsp
  have KX : K.In s.heap := e0.mod.kin.keeps fun b o e => (e0.bs b o e).1
  have lim : s.heap.NoLimit := e0.mod.nolimit.keeps fun b o e => (e0.bs b o e).1
  have hkind : ∀ y ∈ ps.zip us, (defScope st).names.lookup y.1 = some .local ∨ ((defScope st).names.lookup y.1 = some .cell ∧ ((cellsFrom (s.heap.objs.size + 1) (defScope st).names []).lookup y.1).isSome = true) := by
    rintro ⟨n, v⟩ hy
    rcases S.par n (List.of_mem_zip hy).1 with q | q
    · exact .inl q
    · exact .inr ⟨q, PySem.W.cellsFrom_some _ _ _ (.inl q)⟩
  refine codeAny_call_function hr.depth (KX _ _ lk) rfl S.co S.gen rfl (PySem.W.codeRec_of KX hcd) ?_
  rw [hb _ _ _ _ _ _ us (by rw [← r.length]; exact hl)]
  refine wpAny_pure ?_
  refine wpAny_newFunctionEnv_cells S.kind hkind fun env he s1 x1 => ?_
  subst he
  refine ⟨lim.keeps x1.toInCall.keep, codeAny_func ?_⟩
  have I : Inv (bcx P w K mg base N q st f cdv A outer s H) [] (L2.start N vs) H s1 := (inv_start (CX := CX0) (E := E0) S hr.hd e0 hl r x1).wish _
  have go := body cdv A outer s H vs Q ⟨hr.deeper _, hg, rfl, S.nd⟩ hsp [] s1 I
  refine wpAny_mono go (fun fl s' hs => ?_) fun _ _ z => False.elim z
  cases fl with
  | ret u =>
    obtain ⟨v, σ', H', J, rv, q⟩ := hs
    exact ⟨v, H', J.os, J.bare, J.base, J.hok, rv, q⟩
  | next =>
    obtain ⟨σ', H', J, q⟩ := hs
    exact ⟨V.non, H', J.os, J.bare, J.base, J.hok, rfl, q⟩
  | brk =>
    obtain ⟨_, _, _, q⟩ := hs
    exact False.elim q
  | cont =>
    obtain ⟨_, _, _, q⟩ := hs
    exact False.elim q
section
variable {T : List (Addr × Str)} {X : Cx} {σ : L2.St} {H : Hp} {e a b o value : Expr} {es : List Expr} {D : Ends} {rest : List Stmt} {pos apos p : Pos} {n k : Nat} {Q : VK} {C f m dx : Addr} {fs : List (Str × V)} {sp : Sp'} {x : Str}
theorem run_f {pins : List (Addr × Obj)} {s : Shared} {us : List Value} {vs : List V} (F : FRun X.prog X.w X.K X.mg X.base k f sp) (c : Cok n X) (hk : k ≤ n) (I : Inv X pins σ H s) (r : Vals vs us) (h : sp vs H Q) : wpAny (model X.prog X.w) X.A (call (.ref f) us) (EP X pins σ Q) X.xe s :=
  g_call F c hk I r h
/-- o.m(e, ..) of an instance -/
theorem wE_meth {pl : Sem Bool} (c : Cok n X) (cl : Cls X.K C) (hm : Meth X.K C x f) (F : FRun X.prog X.w X.K X.mg X.base k f sp) (hk : k ≤ n) (h : wE X o σ H fun y H1 => ∃ i dx fs, y = .ref i ∧ H1 i = some (.ins C dx fs) ∧ fs.lookup x = none ∧ wA X (e :: es) σ H1 fun vs H2 => sp (.ref i :: vs) H2 Q)
    (hst : starEach (e :: es) X.env = (false, eval e X.env) :: starEach es X.env := by rfl) (hpl : (backTo pos (starEach es X.env)).any (·.1) = false := by rfl)
    (ht : eval (.Call (.Attribute o x apos) (e :: es) [] pos) X.env = (do
      let ov ← eval o X.env
      standAt apos.atName
      let (f, first) ← holding [ov] (getMethod ov x pl)
      callWith pos f first (backTo pos (starEach (e :: es) X.env)) (backToKw pos (keywordEach [] X.env))) := by rfl) : wE X (.Call (.Attribute o x apos) (e :: es) [] pos) σ H Q := by
  intro pins s I
  refine PySem.W.methodCall_KW (pl := pl) (thn (h pins s I) fun u s1 ⟨y, H1, I1, rx, i, dx, fs, ex, ea, l, q⟩ => ?_) ht
  subst ex
  obtain rfl : u = Value.ref i := rx
  refine getmeth_ok I1 ea cl hm l ?_
  refine PySem.W.callWith_K (first := [.ref i]) (h₀ := X.base) I.ok.mod.kin hm.kp (thn (q pos pins s1 I1) fun us s2 ⟨vs, H2, I2, r, q2⟩ => ⟨I2.kIn, ?_⟩) hst hpl
  exact run_f (us := .ref i :: us) (vs := .ref i :: vs) F c hk I2 (.cons rfl r) q2
theorem wE_meth0 {pl : Sem Bool} (c : Cok n X) (cl : Cls X.K C) (hm : Meth X.K C x f) (F : FRun X.prog X.w X.K X.mg X.base k f sp) (hk : k ≤ n) (h : wE X o σ H fun y H1 => ∃ i dx fs, y = .ref i ∧ H1 i = some (.ins C dx fs) ∧ fs.lookup x = none ∧ sp [.ref i] H1 Q)
    (ht : eval (.Call (.Attribute o x apos) [] [] pos) X.env = (do
      let ov ← eval o X.env
      standAt apos.atName
      let (f, first) ← holding [ov] (getMethod ov x pl)
      callWith pos f first (backTo pos (starEach [] X.env)) (backToKw pos (keywordEach [] X.env))) := by rfl) : wE X (.Call (.Attribute o x apos) [] [] pos) σ H Q := by
  intro pins s I
  refine PySem.W.methodCall_KW (pl := pl) (thn (h pins s I) fun u s1 ⟨y, H1, I1, rx, i, dx, fs, ex, ea, l, q⟩ => ?_) ht
  subst ex
  obtain rfl : u = Value.ref i := rx
  refine getmeth_ok I1 ea cl hm l ?_
  exact PySem.W.callWith_K0 (first := [.ref i]) I1.kIn hm.kp (run_f (us := [.ref i]) (vs := [.ref i]) F c hk I1 (.cons rfl .nil) q)
theorem make_guards {A : Around} {C : Addr} {us : List Value} {kw : List (Str × Value)} (h : A.guards = some []) : (A.under (.builtin "type.__call__" ⟨.ref C :: us, kw⟩)).guards = some [] := by
  first | exact h | (simp [Around.under, Code.isGuard, guardIds, h])
/-- C(e, ..) -/
theorem wE_make (c : Cok n X) (M : Mk X.K C f) (F : FRun X.prog X.w X.K X.mg X.base k f sp) (hk : k + 1 ≤ n) (hmg : X.mg x = some (.ref C)) (h : wA X (e :: es) σ H fun vs H1 => ∀ y dx, H1 y = none → H1 dx = none → dx ≠ y → sp (.ref y :: vs) (upd (upd H1 dx (.own y)) y (.ins C dx [])) (fun v H2 => v = .non ∧ Q (.ref y) H2))
    (hg : Gl X x := by rfl) (hdb : (x == ("__debug__" : Str)) = false := by decide) (he : starEach (e :: es) X.env = (false, eval e X.env) :: starEach es X.env := by rfl) (hpl : (backTo pos (starEach es X.env)).any (·.1) = false := by rfl) : wE X (.Call (.Name x p) (e :: es) [] pos) σ H Q := by
  intro pins s I
  refine wpAny_Call_Name_kw (ld_glob I hg hmg ?_ hdb)
  refine PySem.W.callWith_K (h₀ := X.base) I.ok.mod.kin M.kp (thn (h pos pins s I) fun us s1 ⟨vs, H1, I1, r, q⟩ => ⟨I1.kIn, ?_⟩) he hpl
  have hr : Room (k + 1) X.A := c.room.mono hk
  have hq := q (s1.heap.objs.size + 1) s1.heap.objs.size (I1.hok.fresh (Nat.le_succ _)) (I1.hok.fresh (Nat.le_refl _)) (Nat.ne_of_lt (Nat.lt_succ_self _))
  have I2 := Inv.made (C := C) I1
  have r2 : Vals (V.ref (s1.heap.objs.size + 1) :: vs) (Value.ref (s1.heap.objs.size + 1) :: us) := .cons rfl r
  refine wpAny_call (make_map (f := f) I1.kIn M.makes M.init (beq_iff_eq.mp M.fn) (codeAny_mono (F _ X.stack _ _ (Value.ref (s1.heap.objs.size + 1) :: us) _ _ (hr.make C us []) (make_guards c.gd) (I2.env0.make C us []) r2 hq) fun r s' hq' => ?_))
  cases r with
  | error e => exact False.elim hq'
  | ok fl =>
    cases fl with
    | ret u =>
      obtain ⟨v, H', I3, rv, ev, q3⟩ := I2.after hq'
      subst ev
      exact ⟨rv, ⟨V.ref (s1.heap.objs.size + 1), H', I3, rfl, q3⟩⟩
    | next => exact False.elim hq'
    | brk => exact False.elim hq'
    | cont => exact False.elim hq'
end
end K7
/-! ## K8B -/
set_option Elab.async false
set_option linter.all false
set_option maxRecDepth 100000
set_option maxHeartbeats 4000000
/-! The machine: its state as it stands, what a step does. -/
namespace K7
open PySem PySem.Spec PyProof.Rows L2
structure Mac where
  m : Addr
  dx : Addr
  nd : Addr
  cd : Addr
  hd : Addr
  sd : Addr
  ld : Addr
structure MS where
  nm : Str → Option Int
  cl : Cell → Option Int
  steps : List Stp
  calls : List Plc
  fuel : Nat
  word : Str
/-! ### what it does, plainly -/
def fby (w : Str) (a b : Int) : Int := if w = "+" then a + b else if w = "-" then a - b else if w = "*" then a * b else if a < b then 1 else 0
def setF {α : Type} [DecidableEq α] (f : α → Option Int) (x : α) (i : Int) : α → Option Int := fun y => if y = x then some i else f y
def MS.keep (s : MS) (p : Plc) (ch : Chc) : MS := { s with steps := s.steps ++ [(p, ch)] }
def MS.fault (s : MS) : MS := { s with word := "fault" }
def mrow (c : Code) (p : Plc) (s : MS) : Op → MS
  | .load x a => match metCell c s.nm a with
    | some k => { s.keep p (.cell k) with nm := setF s.nm x ((s.cl k).getD 0) }
    | none => s.fault
  | .store a o => match metCell c s.nm a with
    | some k => { s.keep p (.cell k) with cl := setF s.cl k (amt s.nm o) }
    | none => s.fault
  | .touch a => match metCell c s.nm a with
    | some k => s.keep p (.cell k)
    | none => s.fault
  | .set x w o1 o2 => { s.keep p .non with nm := setF s.nm x (fby w (amt s.nm o1) (amt s.nm o2)) }
  | .tell _ => s.keep p .non
  | .need o => if amt s.nm o = 0 then s.fault else s.keep p .non
  | _ => s
def MS.out (s : MS) : MS := { s with word := "fuel" }
def MS.pay (s : MS) : MS := { s with fuel := s.fuel - 1 }
def one (c : Code) (s : MS) (p : Plc) : MS × Plc := match c.row p with
  | some (.call r) => if s.fuel = 0 then (s.out, p) else ({ s.pay.keep p .non with calls := s.calls ++ [p.next] }, ⟨r, 0, 0⟩)
  | some .back => match s.calls.getLast? with
    | none => ({ s.keep p .non with word := "ends" }, p)
    | some q => ({ s.keep p .non with calls := s.calls.dropLast }, q)
  | some (.go b) => if s.fuel = 0 then (s.out, p) else (s.pay.keep p .non, ⟨p.r, b, 0⟩)
  | some (.iff o b1 b2) => if s.fuel = 0 then (s.out, p) else (s.pay.keep p (.blk (if amt s.nm o ≠ 0 then b1 else b2)), ⟨p.r, if amt s.nm o ≠ 0 then b1 else b2, 0⟩)
  | some op => (mrow c p s op, p.next)
  | none => (s, p)
/-! ### as it stands -/
structure ClAt (P : Program) (w : World) (K : PySem.W.Frag) (H : Hp) (dd : Addr) (L : Nat) (cl : Cell → Option Int) : Prop where
  ex : ∃ kvt, TD P w K H dd kvt ∧ kvt.length ≤ L ∧ (∀ x, valV kvt (cellK x) = (cl x).map V.int) ∧ ∀ e ∈ kvt, ∃ x i, e = (cellK x, V.int i)
def flds (a : Mac) (v : V) (fuel : Nat) (word : Str) : List (Str × V) := [("code_here", v), ("by_names", .ref a.nd), ("in_cells", .ref a.cd), ("heard_now", .ref a.hd), ("steps_now", .ref a.sd), ("calls_now", .ref a.ld), ("fuel_left", .int fuel), ("word", .str word)]
structure Ap (a : Mac) : Prop where
  mn : a.m ≠ a.nd
  mc : a.m ≠ a.cd
  mh : a.m ≠ a.hd
  ms : a.m ≠ a.sd
  ml : a.m ≠ a.ld
  nc : a.nd ≠ a.cd
  nh : a.nd ≠ a.hd
  ns : a.nd ≠ a.sd
  nl : a.nd ≠ a.ld
  ch : a.cd ≠ a.hd
  cs : a.cd ≠ a.sd
  cl : a.cd ≠ a.ld
  hs : a.hd ≠ a.sd
  hl : a.hd ≠ a.ld
  sl : a.sd ≠ a.ld
structure MOK (P : Program) (w : World) (K : PySem.W.Frag) (C : Addr) (H : Hp) (a : Mac) (v : V) (c : Code) (s : MS) (L : Nat) : Prop where
  ins : H a.m = some (.ins C a.dx (flds a v s.fuel s.word))
  code : DT K H v c.d
  nm : NmAt H a.nd L s.nm
  cl : ClAt P w K H a.cd L s.cl
  hr : ∃ hs, H a.hd = some (.lst hs) ∧ hs.length ≤ L
  st : ∃ ss, H a.sd = some (.lst ss) ∧ DTs K H ss (s.steps.map Stp.d) ∧ ss.length ≤ L
  ca : ∃ ls, H a.ld = some (.lst ls) ∧ DTs K H ls (s.calls.map Plc.d) ∧ ls.length ≤ L
  ap : Ap a
def fp (a : Mac) : List Addr := [a.m, a.nd, a.cd, a.hd, a.sd, a.ld]
section
variable {P : Program} {w : World} {K : PySem.W.Frag} {C : Addr} {T : List (Addr × Str)} {S : List Addr} {H H' : Hp} {a : Mac} {v : V} {c : Code} {s s' : MS} {L L' : Nat}
theorem ClAt.keep {dd : Addr} {cl : Cell → Option Int} (h : ClAt P w K H dd L cl) (cg : Chg T S H H') (hS : dd ∉ S := by simp) : ClAt P w K H' dd L cl := by
  obtain ⟨kvt, h1, h2⟩ := h.ex
  exact ⟨kvt, h1.keep cg hS, h2⟩
theorem NmAt.le {dd : Addr} {nm : Str → Option Int} (h : NmAt H dd L nm) (hl : L ≤ L') : NmAt H dd L' nm := by
  obtain ⟨kvs, h1, h2, h3⟩ := h.ex
  exact ⟨kvs, h1, by omega, h3⟩
theorem ClAt.le {dd : Addr} {cl : Cell → Option Int} (h : ClAt P w K H dd L cl) (hl : L ≤ L') : ClAt P w K H dd L' cl := by
  obtain ⟨kvt, h1, h2, h3⟩ := h.ex
  exact ⟨kvt, h1, by omega, h3⟩
theorem MOK.le (M : MOK P w K C H a v c s L) (hl : L ≤ L') : MOK P w K C H a v c s L' := by
  obtain ⟨hs, a1, a2⟩ := M.hr
  obtain ⟨ss, b1, b2, b3⟩ := M.st
  obtain ⟨ls, c1, c2, c3⟩ := M.ca
  exact ⟨M.ins, M.code, M.nm.le hl, M.cl.le hl, ⟨hs, a1, by omega⟩, ⟨ss, b1, b2, by omega⟩, ⟨ls, c1, c2, by omega⟩, M.ap⟩
theorem MOK.keep (M : MOK P w K C H a v c s L) (cg : Chg T S H H') (h1 : a.m ∉ S) (h2 : a.nd ∉ S) (h3 : a.cd ∉ S) (h4 : a.hd ∉ S) (h5 : a.sd ∉ S) (h6 : a.ld ∉ S) : MOK P w K C H' a v c s L := by
  obtain ⟨hs, a1, a2⟩ := M.hr
  obtain ⟨ss, b1, b2, b3⟩ := M.st
  obtain ⟨ls, c1, c2, c3⟩ := M.ca
  exact ⟨cg.get M.ins h1, cg.dt M.code, M.nm.keep cg h2, M.cl.keep cg h3, ⟨hs, cg.get a1 h4, a2⟩, ⟨ss, cg.get b1 h5, cg.dts b2, b3⟩, ⟨ls, cg.get c1 h6, cg.dts c2, c3⟩, M.ap⟩
theorem MOK.ex (M : MOK P w K C H a v c s L) (cg : Ex T H H') : MOK P w K C H' a v c s L := M.keep cg (by simp) (by simp) (by simp) (by simp) (by simp) (by simp)
theorem MOK.setIns {fs : List (Str × V)} (M : MOK P w K C H a v c s L) (cg : Chg T [a.m] H H') (h : H' a.m = some (.ins C a.dx (flds a v s'.fuel s'.word))) (e1 : s'.nm = s.nm) (e2 : s'.cl = s.cl) (e3 : s'.steps = s.steps) (e4 : s'.calls = s.calls) : MOK P w K C H' a v c s' L := by
  obtain ⟨hs, a1, a2⟩ := M.hr
  obtain ⟨ss, b1, b2, b3⟩ := M.st
  obtain ⟨ls, c1, c2, c3⟩ := M.ca
  have ap := M.ap
  refine ⟨h, cg.dt M.code, e1 ▸ M.nm.keep cg (by simpa using ap.mn.symm), e2 ▸ M.cl.keep cg (by simpa using ap.mc.symm), ⟨hs, cg.get a1 (by simpa using ap.mh.symm), a2⟩, ⟨ss, cg.get b1 (by simpa using ap.ms.symm), ?_, b3⟩, ⟨ls, cg.get c1 (by simpa using ap.ml.symm), ?_, c3⟩, ap⟩
  · rw [e3]; exact cg.dts b2
  · rw [e4]; exact cg.dts c2
theorem MOK.setSteps {ss : List V} {sts : List Stp} (M : MOK P w K C H a v c s L) (cg : Chg T [a.sd] H H') (h : H' a.sd = some (.lst ss)) (hd : DTs K H' ss (sts.map Stp.d)) (hz : ss.length ≤ L') (hl : L ≤ L') : MOK P w K C H' a v c { s with steps := sts } L' := by
  obtain ⟨hs, a1, a2⟩ := M.hr
  obtain ⟨ls, c1, c2, c3⟩ := M.ca
  have ap := M.ap
  exact ⟨cg.get M.ins (by simpa using ap.ms), cg.dt M.code, (M.nm.keep cg (by simpa using ap.ns)).le hl, (M.cl.keep cg (by simpa using ap.cs)).le hl, ⟨hs, cg.get a1 (by simpa using ap.hs), by omega⟩, ⟨ss, h, hd, hz⟩, ⟨ls, cg.get c1 (by simpa using ap.sl.symm), cg.dts c2, by omega⟩, ap⟩
theorem MOK.setCalls {ls : List V} {cs : List Plc} (M : MOK P w K C H a v c s L) (cg : Chg T [a.ld] H H') (h : H' a.ld = some (.lst ls)) (hd : DTs K H' ls (cs.map Plc.d)) (hz : ls.length ≤ L') (hl : L ≤ L') : MOK P w K C H' a v c { s with calls := cs } L' := by
  obtain ⟨hs, a1, a2⟩ := M.hr
  obtain ⟨ss, b1, b2, b3⟩ := M.st
  have ap := M.ap
  exact ⟨cg.get M.ins (by simpa using ap.ml), cg.dt M.code, (M.nm.keep cg (by simpa using ap.nl)).le hl, (M.cl.keep cg (by simpa using ap.cl)).le hl, ⟨hs, cg.get a1 (by simpa using ap.hl), by omega⟩, ⟨ss, cg.get b1 (by simpa using ap.sl), cg.dts b2, by omega⟩, ⟨ls, h, hd, hz⟩, ap⟩
theorem MOK.setHeard {hs : List V} (M : MOK P w K C H a v c s L) (cg : Chg T [a.hd] H H') (h : H' a.hd = some (.lst hs)) (hz : hs.length ≤ L') (hl : L ≤ L') : MOK P w K C H' a v c s L' := by
  obtain ⟨ss, b1, b2, b3⟩ := M.st
  obtain ⟨ls, c1, c2, c3⟩ := M.ca
  have ap := M.ap
  exact ⟨cg.get M.ins (by simpa using ap.mh), cg.dt M.code, (M.nm.keep cg (by simpa using ap.nh)).le hl, (M.cl.keep cg (by simpa using ap.ch)).le hl, ⟨hs, h, hz⟩, ⟨ss, cg.get b1 (by simpa using ap.hs.symm), cg.dts b2, by omega⟩, ⟨ls, cg.get c1 (by simpa using ap.hl.symm), cg.dts c2, by omega⟩, ap⟩
theorem MOK.setNm {nm : Str → Option Int} (M : MOK P w K C H a v c s L) (cg : Chg T [a.nd] H H') (h : NmAt H' a.nd L' nm) (hl : L ≤ L') : MOK P w K C H' a v c { s with nm := nm } L' := by
  obtain ⟨hs, a1, a2⟩ := M.hr
  obtain ⟨ss, b1, b2, b3⟩ := M.st
  obtain ⟨ls, c1, c2, c3⟩ := M.ca
  have ap := M.ap
  exact ⟨cg.get M.ins (by simpa using ap.mn), cg.dt M.code, h, (M.cl.keep cg (by simpa using ap.nc.symm)).le hl, ⟨hs, cg.get a1 (by simpa using ap.nh.symm), by omega⟩, ⟨ss, cg.get b1 (by simpa using ap.ns.symm), cg.dts b2, by omega⟩, ⟨ls, cg.get c1 (by simpa using ap.nl.symm), cg.dts c2, by omega⟩, ap⟩
theorem MOK.setCl {cl : Cell → Option Int} (M : MOK P w K C H a v c s L) (cg : Chg T [a.cd] H H') (h : ClAt P w K H' a.cd L' cl) (hl : L ≤ L') : MOK P w K C H' a v c { s with cl := cl } L' := by
  obtain ⟨hs, a1, a2⟩ := M.hr
  obtain ⟨ss, b1, b2, b3⟩ := M.st
  obtain ⟨ls, c1, c2, c3⟩ := M.ca
  have ap := M.ap
  exact ⟨cg.get M.ins (by simpa using ap.mc), cg.dt M.code, (M.nm.keep cg (by simpa using ap.nc)).le hl, h, ⟨hs, cg.get a1 (by simpa using ap.ch.symm), by omega⟩, ⟨ss, cg.get b1 (by simpa using ap.cs.symm), cg.dts b2, by omega⟩, ⟨ls, cg.get c1 (by simpa using ap.cl.symm), cg.dts c2, by omega⟩, ap⟩
end
/-! ### the class, and reading fields -/
structure Cl (K : PySem.W.Frag) (C : Addr) : Prop where
  cl : Cls K C
  na : ∀ f ∈ (["code_here", "by_names", "in_cells", "heard_now", "steps_now", "calls_now", "fuel_left", "word"] : List Str), NoAttr K C f
section
variable {T : List (Addr × Str)} {X : Cx} {σ : L2.St} {H : Hp} {e o value : Expr} {D : Ends} {rest : List Stmt} {pos p' : Pos} {n : Nat} {Q : VK} {C : Addr} {a : Mac} {v u : V} {c : Code} {s : MS} {L : Nat} {f : Str}
theorem ev_mf (k : Cl X.K C) (M : MOK X.prog X.w X.K C H a v c s L) (ho : EvV T X o σ H (.ref a.m)) (hf : f ∈ (["code_here", "by_names", "in_cells", "heard_now", "steps_now", "calls_now", "fuel_left", "word"] : List Str)) (hl : (flds a v s.fuel s.word).lookup f = some u) (hb : attributeBase o f X.env (eval o X.env) = eval o X.env := by rfl) : EvV T X (.Attribute o f pos) σ H u :=
  ev_fld ho M.ins k.cl (k.na f hf) hl hb
theorem ev_code (k : Cl X.K C) (M : MOK X.prog X.w X.K C H a v c s L) (ho : EvV T X o σ H (.ref a.m)) (hb : attributeBase o "code_here" X.env (eval o X.env) = eval o X.env := by rfl) : EvD T X (.Attribute o "code_here" pos) σ H c.d := (ev_mf k M ho (by simp) rfl hb).dat M.code
theorem ev_nm (k : Cl X.K C) (M : MOK X.prog X.w X.K C H a v c s L) (ho : EvV T X o σ H (.ref a.m)) (hb : attributeBase o "by_names" X.env (eval o X.env) = eval o X.env := by rfl) : EvV T X (.Attribute o "by_names" pos) σ H (.ref a.nd) := ev_mf k M ho (by simp) rfl hb
theorem ev_cl (k : Cl X.K C) (M : MOK X.prog X.w X.K C H a v c s L) (ho : EvV T X o σ H (.ref a.m)) (hb : attributeBase o "in_cells" X.env (eval o X.env) = eval o X.env := by rfl) : EvV T X (.Attribute o "in_cells" pos) σ H (.ref a.cd) := ev_mf k M ho (by simp) rfl hb
theorem ev_hr (k : Cl X.K C) (M : MOK X.prog X.w X.K C H a v c s L) (ho : EvV T X o σ H (.ref a.m)) (hb : attributeBase o "heard_now" X.env (eval o X.env) = eval o X.env := by rfl) : EvV T X (.Attribute o "heard_now" pos) σ H (.ref a.hd) := ev_mf k M ho (by simp) rfl hb
theorem ev_st (k : Cl X.K C) (M : MOK X.prog X.w X.K C H a v c s L) (ho : EvV T X o σ H (.ref a.m)) (hb : attributeBase o "steps_now" X.env (eval o X.env) = eval o X.env := by rfl) : EvV T X (.Attribute o "steps_now" pos) σ H (.ref a.sd) := ev_mf k M ho (by simp) rfl hb
theorem ev_ca (k : Cl X.K C) (M : MOK X.prog X.w X.K C H a v c s L) (ho : EvV T X o σ H (.ref a.m)) (hb : attributeBase o "calls_now" X.env (eval o X.env) = eval o X.env := by rfl) : EvV T X (.Attribute o "calls_now" pos) σ H (.ref a.ld) := ev_mf k M ho (by simp) rfl hb
theorem ed_fuel (k : Cl X.K C) (M : MOK X.prog X.w X.K C H a v c s L) (ho : EvV T X o σ H (.ref a.m)) (hb : attributeBase o "fuel_left" X.env (eval o X.env) = eval o X.env := by rfl) : EvD T X (.Attribute o "fuel_left" pos) σ H (.int s.fuel) := (ev_mf k M ho (by simp) rfl hb).dat (.int _)
theorem ed_word (k : Cl X.K C) (M : MOK X.prog X.w X.K C H a v c s L) (ho : EvV T X o σ H (.ref a.m)) (hb : attributeBase o "word" X.env (eval o X.env) = eval o X.env := by rfl) : EvD T X (.Attribute o "word" pos) σ H (.str s.word) := (ev_mf k M ho (by simp) rfl hb).dat (.str _)
/-- m.word = .. -/
theorem ws_word {x : Str} (k : Cl X.K C) (M : MOK X.prog X.w X.K C H a v c s L) (hv : EvD T X value σ H (.str x)) (ho : EvV T X o σ H (.ref a.m)) (q : ∀ H', Chg T [a.m] H H' → MOK X.prog X.w X.K C H' a v c { s with word := x } L → wS X rest D σ H') (hs : swapsWith value (some (.Attribute o "word" p')) pos.line X.env = pure false := by rfl) : wS X (.Assign [.Attribute o "word" p'] value pos :: rest) D σ H :=
  wS_cons (ps_fld peW peW hs) (hv H .refl _ fun y H1 c1 hy => ho H1 c1 _ fun H2 c2 => by
    have c12 := c1.trans c2
    have M2 := M.ex c12
    rw [hy.inv_str]
    have cg : Chg T [a.m] H2 (upd H2 a.m (.ins C a.dx (putF "word" (.str x) (flds a v s.fuel s.word)))) := .set M2.ins wr_ins (by simp)
    exact ⟨a.m, C, a.dx, _, rfl, M2.ins, k.cl, k.na _ (by simp), by show 8 < 1000; decide, q _ (c12.then_ cg) (M2.setIns (fs := []) cg (by rw [upd_same]; rfl) rfl rfl rfl rfl)⟩)
/-- m.fuel_left -= 1 -/
theorem ws_pay {j : Nat} {p1 : Pos} (k : Cl X.K C) (M : MOK X.prog X.w X.K C H a v c s L) (hf : s.fuel ≠ 0) (ho : EvV T X o σ H (.ref a.m)) (q : ∀ H', Chg T [a.m] H H' → MOK X.prog X.w X.K C H' a v c s.pay L → wS X rest D σ H') : wS X (.AugAssign (.Attribute o "fuel_left" p') .Sub (.Constant (.int 1) j p1) pos :: rest) D σ H :=
  wS_cons (ps_fldaug peW peW in_sub) (ho H .refl _ fun H1 c1 => by
    have M1 := M.ex c1
    refine ⟨a.m, C, a.dx, _, .int s.fuel, rfl, M1.ins, k.cl, k.na _ (by simp), rfl, EvD.go (T := T) (ed_int (i := 1)) .refl fun y H2 c2 hy => ?_⟩
    have M2 := M1.ex c2
    rw [hy.inv_int]
    have cg : Chg T [a.m] H2 (upd H2 a.m (.ins C a.dx (putF "fuel_left" (.int ((s.fuel : Int) - 1)) (flds a v s.fuel s.word)))) := .set M2.ins wr_ins (by simp)
    refine ⟨s.fuel, 1, rfl, rfl, a.dx, _, M2.ins, by show 8 < 1000; decide, q _ ((c1.trans c2).then_ cg) (M2.setIns (fs := []) cg ?_ rfl rfl rfl rfl)⟩
    rw [upd_same]
    have e : ((s.fuel : Int) - 1) = ((s.pay.fuel : Nat) : Int) := by show _ = ((s.fuel - 1 : Nat) : Int); omega
    rw [e]
    rfl)
end
end K7
/-! ## K8C -/
set_option Elab.async false
set_option linter.all false
set_option maxRecDepth 100000
set_option maxHeartbeats 4000000
/-! keep_step, may_enter, at_cell, found_by. -/
namespace K7
open PySem PySem.Spec PyProof.Rows L2
abbrev sKeep : Stmt := inClass (top 10) 3
abbrev sEnter : Stmt := inClass (top 10) 2
abbrev sLay : Stmt := inClass (top 10) 1
abbrev sInit : Stmt := inClass (top 10) 0
section
variable {P : Program} {w : World} {K : PySem.W.Frag} {mg : Str → Option Value} {base : Heap} {T : List (Addr × Str)} {C : Addr}
theorem fp_ms {a : Mac} {T : List (Addr × Str)} {H H' : Hp} (c : Chg T [a.sd] H H') : Chg T (fp a) H H' := c.mono fun b hb => by rw [List.mem_singleton.mp hb]; simp [fp]
theorem fp_mm {a : Mac} {T : List (Addr × Str)} {H H' : Hp} (c : Chg T [a.m] H H') : Chg T (fp a) H H' := c.mono fun b hb => by rw [List.mem_singleton.mp hb]; simp [fp]
theorem fp_ml {a : Mac} {T : List (Addr × Str)} {H H' : Hp} (c : Chg T [a.ld] H H') : Chg T (fp a) H H' := c.mono fun b hb => by rw [List.mem_singleton.mp hb]; simp [fp]
theorem fp_mh {a : Mac} {T : List (Addr × Str)} {H H' : Hp} (c : Chg T [a.hd] H H') : Chg T (fp a) H H' := c.mono fun b hb => by rw [List.mem_singleton.mp hb]; simp [fp]
theorem fp_mn {a : Mac} {T : List (Addr × Str)} {H H' : Hp} (c : Chg T [a.nd] H H') : Chg T (fp a) H H' := c.mono fun b hb => by rw [List.mem_singleton.mp hb]; simp [fp]
theorem fp_mc {a : Mac} {T : List (Addr × Str)} {H H' : Hp} (c : Chg T [a.cd] H H') : Chg T (fp a) H H' := c.mono fun b hb => by rw [List.mem_singleton.mp hb]; simp [fp]
/-! ### keep_step -/
theorem sc_keep : FnScope ["self", "place", "choice"] ["self", "place", "choice"] (defScope sKeep) := ⟨rfl, rfl, rfl, by decide +kernel, rfl, by decide +kernel, by decide +kernel⟩
def spKeep (P : Program) (w : World) (K : PySem.W.Frag) (T : List (Addr × Str)) (C : Addr) : Sp' := fun vs H Q => ∃ (a : Mac) (v : V) (c : Code) (s : MS) (L : Nat) (p : Plc) (ch : Chc) (vp vc : V), vs = [.ref a.m, vp, vc] ∧ MOK P w K C H a v c s L ∧ DT K H vp p.d ∧ DT K H vc ch.d ∧ L < 1000 ∧
  ∀ H', Chg T (fp a) H H' → MOK P w K C H' a v c (s.keep p ch) (L + 1) → Q .non H'
theorem r_keep {f : Addr} (F : FAt K f "keep_step" "Machine.keep_step" sKeep) (k : Cl K C) : FRun P w K mg base 1 f (spKeep P w K T C) := by
  refine F.run sc_keep (fun _ _ _ _ _ _ us hl => match us, hl with | [_, _, _], _ => rfl) (fun vs H Q ⟨_, _, _, _, _, _, _, _, _, e, _⟩ => by rw [e]; rfl) fun cdv Ar outer s H vs Q ck ⟨a, v, c, ms, L, p, ch, vp, vc, e, M, hp, hc, hL, q⟩ => ?_
  subst e
  obtain ⟨ss, b1, b2, b3⟩ := M.st
  refine ws_append (T := T) (R := fun d => d = Stp.d (p, ch)) (ev_st k M (ev_name 0)) b1 (by omega) (EvD.r (ed_tup (ea_cons (ed_name 1 hp) (ea_cons (ed_name 2 hc) ea_nil))) rfl) fun u H1 d c1 e hu => wS_nil ?_
  subst e
  have cg : Chg T [a.sd] H1 (upd H1 a.sd (.lst (ss ++ [u]))) := .set (c1.get b1) wr_lst (by simp)
  refine q _ (fp_ms (c1.then_ cg)) ((M.ex c1).setSteps cg upd_same ?_ (by rw [List.length_append]; simp only [List.length_cons, List.length_nil]; omega) (Nat.le_succ _))
  rw [List.map_append]
  exact (cg.dts (c1.dts b2)).app (.one (cg.dt hu))
/-! ### may_enter -/
theorem sc_enter : FnScope ["self"] ["self"] (defScope sEnter) := ⟨rfl, rfl, rfl, by decide +kernel, rfl, by decide +kernel, by decide +kernel⟩
def spEnter (P : Program) (w : World) (K : PySem.W.Frag) (T : List (Addr × Str)) (C : Addr) : Sp' := fun vs H Q => ∃ (a : Mac) (v : V) (c : Code) (s : MS) (L : Nat), vs = [.ref a.m] ∧ MOK P w K C H a v c s L ∧
  ∀ H', Chg T (fp a) H H' → (s.fuel = 0 → MOK P w K C H' a v c s.out L → Q (.bl false) H') ∧ (s.fuel ≠ 0 → MOK P w K C H' a v c s.pay L → Q (.bl true) H')
theorem r_enter {f : Addr} (F : FAt K f "may_enter" "Machine.may_enter" sEnter) (k : Cl K C) : FRun P w K mg base 1 f (spEnter P w K T C) := by
  refine F.run sc_enter (fun _ _ _ _ _ _ us hl => match us, hl with | [_], _ => rfl) (fun vs H Q ⟨_, _, _, _, _, e, _⟩ => by rw [e]; rfl) fun cdv Ar outer s H vs Q ck ⟨a, v, c, ms, L, e, M, q⟩ => ?_
  subst e
  refine ws_when (T := T) (k := decide ((ms.fuel : Int) = 0)) (et_cmp (ec_eqI (ed_fuel k M (ev_name 0)) ed_int)) (fun z H1 c1 => ?_) fun z H1 c1 => ?_
  · have hf : ms.fuel = 0 := by have := of_decide_eq_true z; omega
    refine ws_word (T := T) k (M.ex c1) ed_str (ev_name 0) fun H2 c2 M2 => ?_
    exact ws_retV (T := T) (v := .bl false) (EvD.vb ed_bl) fun H3 c3 => (q H3 (fp_mm ((c1.then_ c2).and_ c3))).1 hf (M2.ex c3)
  · have hf : ms.fuel ≠ 0 := fun e => of_decide_eq_false z (by rw [e]; rfl)
    refine ws_pay (T := T) k (M.ex c1) hf (ev_name 0) fun H2 c2 M2 => ?_
    exact ws_retV (T := T) (v := .bl true) (EvD.vb ed_bl) fun H3 c3 => (q H3 (fp_mm ((c1.then_ c2).and_ c3))).2 hf (M2.ex c3)
/-! ### found_by -/
theorem sc_found_by : FnScope ["word", "one", "other"] ["word", "one", "other"] (defScope (top 9)) := ⟨rfl, rfl, rfl, by decide +kernel, rfl, by decide +kernel, by decide +kernel⟩
abbrev spFby (K : PySem.W.Frag) (T : List (Addr × Str)) : Sp' := spF K T (fun a : Str × Int × Int => [.str a.1, .int a.2.1, .int a.2.2]) (fun a => a.1 = "*" → CMul a.2.1 a.2.2) fun a d => d = .int (fby a.1 a.2.1 a.2.2)
theorem g_found_by (F : At K mg "found_by" 9) (hi : mg "int" = none) : GDef P w K mg base 1 "found_by" (spFby K T) := by
  refine F.okF sc_found_by (fun _ _ _ _ _ _ us hl => match us, hl with | [_, _, _], _ => rfl) (fun _ => rfl) fun f cdv Ar outer s H vs Q ⟨x, i, j⟩ k hp hv q => ?_
  obtain ⟨v1, v2, v3, rfl, h1, h2, h3⟩ := hv.inv3
  refine ws_when (T := T) (k := decide (x = "+")) (et_cmp (ec_eqS (ed_name 0 h1) ed_str)) (fun z H1 c1 => ?_) fun z H1 c1 => ?_
  · exact ws_ret (T := T) (ed_add (ed_name 1 (c1.dt h2)) (ed_name 2 (c1.dt h3))) fun v H2 c2 hd => q v H2 _ (c1.trans c2) (by show PyData.int (i + j) = .int (fby x i j); unfold fby; rw [if_pos (of_decide_eq_true z)]) hd
  refine ws_when (T := T) (k := decide (x = "-")) (et_cmp (ec_eqS (ed_name 0 (c1.dt h1)) ed_str)) (fun z2 H2 c2 => ?_) fun z2 H2 c2 => ?_
  · have d2 := c1.trans c2
    exact ws_ret (T := T) (ed_sub (ed_name 1 (d2.dt h2)) (ed_name 2 (d2.dt h3))) fun v H3 c3 hd => q v H3 _ (d2.trans c3) (by show PyData.int (i - j) = .int (fby x i j); unfold fby; rw [if_neg (of_decide_eq_false z), if_pos (of_decide_eq_true z2)]) hd
  have d2 := c1.trans c2
  refine ws_ret (T := T) (d := .int (fby x i j)) (ed_if (k := decide (x = "*")) (et_cmp (ec_eqS (ed_name 0 (d2.dt h1)) ed_str)) (fun z3 => ?_) fun z3 => ?_) fun v H3 c3 hd => q v H3 _ (d2.trans c3) rfl hd
  · refine EvD.is (ed_mul (ed_name 1 (d2.dt h2)) (ed_name 2 (d2.dt h3)) (hp (of_decide_eq_true z3))) ?_
    unfold fby
    rw [if_neg (of_decide_eq_false z), if_neg (of_decide_eq_false z2), if_pos (of_decide_eq_true z3)]
  · intro H3 c3 Q3 q3
    refine wE.of (pe_callTy call_int1 rfl hi (by decide +kernel) (pa_cons peW pa_nil rfl) (by decide) (by decide) rfl (by rfl)) (EvD.go (T := T) (ed_cmp (ec_lt (ed_name 1 (d2.dt h2)) (ed_name 2 (d2.dt h3)))) c3 fun u H4 c4 hu => .inr ⟨decide (i < j), by rw [hu.inv_bl], ?_⟩)
    refine q3 _ H4 c4 ?_
    have e : fby x i j = if decide (i < j) = true then 1 else 0 := by
      unfold fby
      rw [if_neg (of_decide_eq_false z), if_neg (of_decide_eq_false z2), if_neg (of_decide_eq_false z3)]
      by_cases h : i < j <;> simp [h]
    rw [e]
    exact .int _
/-! ### at_cell -/
structure Ms (P : Program) (w : World) (K : PySem.W.Frag) (mg : Str → Option Value) (base : Heap) (T : List (Addr × Str)) (C : Addr) : Prop where
  k : Cl K C
  keep : ∃ f, Meth K C "keep_step" f ∧ FRun P w K mg base 1 f (spKeep P w K T C)
  enter : ∃ f, Meth K C "may_enter" f ∧ FRun P w K mg base 1 f (spEnter P w K T C)
theorem flds_no {a : Mac} {v : V} {fuel : Nat} {word m : Str} (h : m ∉ (["code_here", "by_names", "in_cells", "heard_now", "steps_now", "calls_now", "fuel_left", "word"] : List Str)) : (flds a v fuel word).lookup m = none := by
  simp only [List.mem_cons, List.mem_nil_iff, or_false, not_or] at h
  obtain ⟨h1, h2, h3, h4, h5, h6, h7, h8⟩ := h
  simp [flds, List.lookup, beq_eq_false_iff_ne.mpr h1, beq_eq_false_iff_ne.mpr h2, beq_eq_false_iff_ne.mpr h3, beq_eq_false_iff_ne.mpr h4, beq_eq_false_iff_ne.mpr h5, beq_eq_false_iff_ne.mpr h6, beq_eq_false_iff_ne.mpr h7, beq_eq_false_iff_ne.mpr h8]
end
/-- m.keep_step(place, choice) -/
theorem ws_keep {T : List (Addr × Str)} {X : Cx} {σ : L2.St} {H : Hp} {o e1 e2 : Expr} {D : Ends} {rest : List Stmt} {pos apos cpos : Pos} {n : Nat} {C : Addr} {a : Mac} {v : V} {c : Code} {s : MS} {L : Nat} {p : Plc} {ch : Chc} (MM : Ms X.prog X.w X.K X.mg X.base T C) (ck : Cok n X) (hk : 1 ≤ n) (M : MOK X.prog X.w X.K C H a v c s L) (hL : L < 1000) (ho : EvV T X o σ H (.ref a.m)) (h1 : EvD T X e1 σ H p.d) (h2 : EvD T X e2 σ H ch.d)
    (q : ∀ H', Chg T (fp a) H H' → MOK X.prog X.w X.K C H' a v c (s.keep p ch) (L + 1) → wS X rest D σ H') (hs : swapsWith (.Call (.Attribute o "keep_step" apos) [e1, e2] [] cpos) none pos.line X.env = pure false := by rfl)
    (hst : starEach [e1, e2] X.env = (false, eval e1 X.env) :: starEach [e2] X.env := by rfl) (hst2 : starEach [e2] X.env = (false, eval e2 X.env) :: starEach [] X.env := by rfl) (hpl : (backTo cpos (starEach [e2] X.env)).any (·.1) = false := by rfl) {pl : Sem Bool}
    (ht : eval (.Call (.Attribute o "keep_step" apos) [e1, e2] [] cpos) X.env = (do
      let ov ← eval o X.env
      standAt apos.atName
      let (f, first) ← holding [ov] (getMethod ov "keep_step" pl)
      callWith cpos f first (backTo cpos (starEach [e1, e2] X.env)) (backToKw cpos (keywordEach [] X.env))) := by rfl) : wS X (.Expr (.Call (.Attribute o "keep_step" apos) [e1, e2] [] cpos) pos :: rest) D σ H := by
  obtain ⟨f, hm, F⟩ := MM.keep
  refine ws_drop (wE_meth (pl := pl) ck MM.k.cl hm F hk (ho H .refl _ fun H1 c1 => ⟨a.m, a.dx, _, rfl, c1.get M.ins, flds_no (by decide +kernel), wA_cons (h1.go c1 fun u1 H2 c2 g1 => wA_cons (h2.go (c1.trans c2) fun u2 H3 c3 g2 => wA_nil ?_) hst2) hst⟩) hst hpl ht) hs
  have c13 := (c1.trans c2).trans c3
  exact ⟨a, v, c, s, L, p, ch, u1, u2, rfl, M.ex c13, c3.dt g1, g2, hL, fun H' cg M' => q H' (c13.then_ cg) M'⟩
end K7
/-! ## K8D -/
set_option Elab.async false
set_option linter.all false
set_option maxRecDepth 100000
set_option maxHeartbeats 4000000
/-! at_cell, the rows' defs. -/
namespace K7
open PySem PySem.Spec PyProof.Rows L2
theorem wE_cl {X : Cx} {σ : L2.St} {H : Hp} {Q : VK} {j k : Nat} {x : Str} {sp : Sp'} {e : Expr} {es : List Expr} {p pos : Pos} (G : GDef X.prog X.w X.K X.mg X.base j x sp) (c : Cok k X) (q : wA X (e :: es) σ H fun vs H1 => sp vs H1 Q) (hk : j ≤ k := by omega) (hg : Gl X x := by rfl)
    (hdb : (x == ("__debug__" : Str)) = false := by decide) (he : starEach (e :: es) X.env = (false, eval e X.env) :: starEach es X.env := by rfl) (hpl : (backTo pos (starEach es X.env)).any (·.1) = false := by rfl) : wE X (.Call (.Name x p) (e :: es) [] pos) σ H Q := wE_call G c hk hg q hdb he hpl
section
variable {P : Program} {w : World} {K : PySem.W.Frag} {mg : Str → Option Value} {base : Heap} {T : List (Addr × Str)} {C : Addr}
/-! ### at_cell -/
theorem sc_at_cell : FnScope ["machine", "place", "address", "cell"] ["machine", "place", "address"] (defScope (top 11)) := ⟨rfl, rfl, rfl, by decide +kernel, rfl, by decide +kernel, by decide +kernel⟩
def atS (c : Code) (p : Plc) (s : MS) (adr : Adr) : MS := match metCell c s.nm adr with
  | some k => s.keep p (.cell k)
  | none => s.fault
def spAt (P : Program) (w : World) (K : PySem.W.Frag) (T : List (Addr × Str)) (C : Addr) : Sp' := fun vs H Q => ∃ (a : Mac) (v : V) (c : Code) (s : MS) (L : Nat) (p : Plc) (adr : Adr) (vp va : V), vs = [.ref a.m, vp, va] ∧ MOK P w K C H a v c s L ∧ DT K H vp p.d ∧ DT K H va adr.d ∧ OkCode c ∧ OkAdr c adr ∧ L < 1000 ∧
  ∀ u H', Chg T (fp a) H H' → MOK P w K C H' a v c (atS c p s adr) (L + 1) → DT K H' u (cellD (metCell c s.nm adr)) → Q u H'
theorem g_at_cell (F : At K mg "at_cell" 11) (MM : Ms P w K mg base T C) (G : GDef P w K mg base 3 "met_cell" (spMet K T)) : GDef P w K mg base 4 "at_cell" (spAt P w K T C) := by
  refine F.ok sc_at_cell (fun _ _ _ _ _ _ us hl => match us, hl with | [_, _, _], _ => rfl) (fun vs H Q ⟨_, _, _, _, _, _, _, _, _, e, _⟩ => by rw [e]; rfl) fun f cdv Ar outer s H vs Q ck ⟨a, v, c, ms, L, p, adr, vp, va, e, M, hp, ha, oc, oa, hL, q⟩ => ?_
  subst e
  refine ws_set 3 ck ?_
  refine wE_cl G ck (wA_cons (EvD.go (T := T) (ev_code MM.k M (ev_name 0)) .refl fun u1 H1 c1 g1 => wA_cons (EvD.go (T := T) (ed_name 2 (c1.dt ha)) .refl fun u2 H2 c2 g2 => wA_cons (EvV.go (T := T) (ev_nm MM.k (M.ex (c1.trans c2)) (ev_name 0)) .refl fun H3 c3 => wA_nil ⟨c, adr, u1, u2, a.nd, L, ms.nm, rfl, (c2.trans c3).dt g1, c3.dt g2, oc, oa, (M.ex ((c1.trans c2).trans c3)).nm, fun u H4 c4 hu => ?_⟩))))
  have d4 := ((c1.trans c2).trans c3).trans c4
  have M4 := M.ex d4
  cases hm : metCell c ms.nm adr with
  | none =>
    rw [hm] at hu
    refine ws_if (T := T) (k := true) (EvT.is (et_cmp (ec_isN (ed_name 3 hu))) rfl) (fun _ H5 c5 => ?_) fun z => by cases z
    refine ws_word (T := T) MM.k (M4.ex c5) ed_str (ev_name 0) fun H6 c6 M6 => wS_nil ?_
    refine ws_ret (T := T) (ed_name 3 (c6.dt (c5.dt hu))) fun u2 H7 c7 hu2 => q u2 H7 (fp_mm (((d4.trans c5).then_ c6).and_ c7)) ?_ (by rw [hm]; exact hu2)
    have e : atS c p ms adr = ms.fault := by unfold atS; rw [hm]
    rw [e]
    exact (M6.ex c7).le (Nat.le_succ _)
  | some kc =>
    rw [hm] at hu
    have hu' : DT K H4 u (Chc.cell kc).d := hu
    refine ws_if (T := T) (k := false) (EvT.is (et_cmp (ec_isN (ed_name 3 hu))) rfl) (fun z => by cases z) fun _ H5 c5 => ?_
    refine ws_keep (T := T) MM ck (by decide) (M4.ex c5) hL (ev_name 0) (ed_name 1 ((d4.trans c5).dt hp)) (ed_name 3 (c5.dt hu')) fun H6 c6 M6 => wS_nil ?_
    refine ws_ret (T := T) (ed_name 3 (c6.dt (c5.dt hu))) fun u2 H7 c7 hu2 => q u2 H7 (((d4.trans c5).then_ c6).and_ c7) ?_ (by rw [hm]; exact hu2)
    have e : atS c p ms adr = ms.keep p (.cell kc) := by unfold atS; rw [hm]
    rw [e]
    exact M6.ex c7
/-! ### what one of a row's defs promises -/
def CellsIn (c : Code) (cl : Cell → Option Int) : Prop := ∀ (x : Cell) (m : Nat), c.size x.1 = some m → x.2 < m → (cl x).isSome = true
theorem metCell_in {c : Code} {nm : Str → Option Int} {adr : Adr} {k : Cell} (h : metCell c nm adr = some k) : ∃ m, c.size k.1 = some m ∧ k.2 < m := by
  unfold metCell at h
  split at h
  · split at h
    · rename_i w' hw
      split at h
      · rename_i m hm
        split at h
        · rename_i h2
          cases h
          exact ⟨m, hm, by show (amt nm adr.ix).toNat < m; omega⟩
        · cases h
      · cases h
    · cases h
  · cases h
def spDo (P : Program) (w : World) (K : PySem.W.Frag) (T : List (Addr × Str)) (C : Addr) (wd : Str) : Sp' := fun vs H Q => ∃ (a : Mac) (v : V) (c : Code) (s : MS) (L : Nat) (p : Plc) (op : Op) (vp vr : V), vs = [.ref a.m, vp, vr] ∧ MOK P w K C H a v c s L ∧ DT K H vp p.d ∧ DT K H vr op.d ∧ OkCode c ∧ OkRow c op ∧ CellsIn c s.cl ∧ op.word = wd ∧ L < 900 ∧
  ∀ u H', Chg T (fp a) H H' → MOK P w K C H' a v c (mrow c p s op) (L + 2) → Q u H'
theorem NmAt.put {T : List (Addr × Str)} {H H' : Hp} {dd : Addr} {L : Nat} {nm : Str → Option Int} {kvs : List (Key × V)} {x : Str} {i : Int} (h2 : kvs.length ≤ L) (h3 : ∀ x, valV kvs (.inr x) = (nm x).map V.int) (h : H' dd = some (.dK (putK kvs (.inr x) (.int i)))) : NmAt H' dd (L + 1) (setF nm x i) := by
  refine ⟨_, h, by have := length_putK kvs (.inr x) (V.int i); omega, fun y => ?_⟩
  rw [valV_put]
  unfold setF
  by_cases e : y = x
  · rw [if_pos e, if_pos (by rw [e])]; rfl
  · rw [if_neg e, if_neg (fun z => e (Sum.inr.inj z)), h3]
theorem ClAt.put {H' : Hp} {dd : Addr} {L : Nat} {cl : Cell → Option Int} {kvt : List (List Key × V)} {x : Cell} {i : Int} (h2 : kvt.length ≤ L) (h3 : ∀ x, valV kvt (cellK x) = (cl x).map V.int) (h4 : ∀ e ∈ kvt, ∃ x i, e = (cellK x, V.int i)) (h : TD P w K H' dd (putK kvt (cellK x) (.int i))) : ClAt P w K H' dd (L + 1) (setF cl x i) := by
  refine ⟨_, h, by have := length_putK kvt (cellK x) (V.int i); omega, fun y => ?_, fun e he => ?_⟩
  · rw [valV_put]
    unfold setF
    by_cases e : y = x
    · rw [if_pos e, if_pos (by rw [e])]; rfl
    · rw [if_neg e, if_neg (fun z => e (cellK_inj z)), h3]
  · unfold putK at he
    split at he
    · obtain ⟨e', he', rfl⟩ := List.mem_map.mp he
      split
      · rename_i hk
        exact ⟨x, i, by rw [hk]⟩
      · exact h4 e' he'
    · rcases List.mem_append.mp he with h | h
      · exact h4 e h
      · rw [List.mem_singleton.mp h]; exact ⟨x, i, rfl⟩
/-! ### do_touch -/
theorem sc_do_touch : FnScope ["machine", "place", "row"] ["machine", "place", "row"] (defScope (top 14)) := ⟨rfl, rfl, rfl, by decide +kernel, rfl, by decide +kernel, by decide +kernel⟩
theorem g_do_touch (F : At K mg "do_touch" 14) (G : GDef P w K mg base 4 "at_cell" (spAt P w K T C)) : GDef P w K mg base 5 "do_touch" (spDo P w K T C "touch") := by
  refine F.ok sc_do_touch (fun _ _ _ _ _ _ us hl => match us, hl with | [_, _, _], _ => rfl) (fun vs H Q ⟨_, _, _, _, _, _, _, _, _, e, _⟩ => by rw [e]; rfl) fun f cdv Ar outer s H vs Q ck ⟨a, v, c, ms, L, p, op, vp, vr, e, M, hp, hr, oc, ok, hci, hw, hL, q⟩ => ?_
  subst e
  obtain ⟨adr, rfl⟩ := w_touch hw
  refine ws_drop (wE_cl G ck (wA_cons (EvV.go (T := T) (ev_name 0) .refl fun H1 c1 => wA_cons (EvD.go (T := T) (ed_name 1 (c1.dt hp)) .refl fun u2 H2 c2 g2 => wA_cons (EvD.go (T := T) (ed_at1 (ed_name 2 ((c1.trans c2).dt hr))) .refl fun u3 H3 c3 g3 => wA_nil ⟨a, v, c, ms, L, p, adr, u2, u3, rfl, M.ex ((c1.trans c2).trans c3), c3.dt g2, g3, oc, ok, by omega, fun u H4 c4 M4 hu => wS_nil ?_⟩)))))
  exact q .non H4 (((c1.trans c2).trans c3).then_ c4) (by
    have e : mrow c p ms (.touch adr) = atS c p ms adr := rfl
    rw [e]
    exact M4.le (by omega))
/-! ### do_load -/
theorem sc_do_load : FnScope ["machine", "place", "row", "cell"] ["machine", "place", "row"] (defScope (top 12)) := ⟨rfl, rfl, rfl, by decide +kernel, rfl, by decide +kernel, by decide +kernel⟩
theorem g_do_load (F : At K mg "do_load" 12) (MM : Ms P w K mg base T C) (G : GDef P w K mg base 4 "at_cell" (spAt P w K T C)) : GDef P w K mg base 5 "do_load" (spDo P w K T C "load") := by
  refine F.ok sc_do_load (fun _ _ _ _ _ _ us hl => match us, hl with | [_, _, _], _ => rfl) (fun vs H Q ⟨_, _, _, _, _, _, _, _, _, e, _⟩ => by rw [e]; rfl) fun f cdv Ar outer s H vs Q ck ⟨a, v, c, ms, L, p, op, vp, vr, e, M, hp, hr, oc, ok, hci, hw, hL, q⟩ => ?_
  subst e
  obtain ⟨x, adr, rfl⟩ := w_load hw
  refine ws_set 3 ck (wE_cl G ck (wA_cons (EvV.go (T := T) (ev_name 0) .refl fun H1 c1 => wA_cons (EvD.go (T := T) (ed_name 1 (c1.dt hp)) .refl fun u2 H2 c2 g2 => wA_cons (EvD.go (T := T) (ed_at2 (ed_name 2 ((c1.trans c2).dt hr))) .refl fun u3 H3 c3 g3 => wA_nil ⟨a, v, c, ms, L, p, adr, u2, u3, rfl, M.ex ((c1.trans c2).trans c3), c3.dt g2, g3, oc, ok.2, by omega, fun u H4 c4 M4 hu => ?_⟩)))))
  have d4 : Chg T (fp a) H H4 := ((c1.trans c2).trans c3).then_ c4
  have hr4 := d4.dt hr
  cases hm : metCell c ms.nm adr with
  | none =>
    rw [hm] at hu
    refine ws_when (T := T) (k := false) (EvT.is (et_cmp (ec_notN (ed_name 3 hu))) rfl) (fun z => by cases z) fun _ H5 c5 => wS_nil ?_
    refine q .non H5 (d4.and_ c5) ?_
    have e : mrow c p ms (.load x adr) = atS c p ms adr := by simp only [mrow, atS, hm]
    rw [e]
    exact (M4.ex c5).le (by omega)
  | some kc =>
    rw [hm] at hu
    refine ws_when (T := T) (k := true) (EvT.is (et_cmp (ec_notN (ed_name 3 hu))) rfl) (fun _ H5 c5 => ?_) fun z => by cases z
    have e0 : atS c p ms adr = ms.keep p (.cell kc) := by unfold atS; rw [hm]
    rw [e0] at M4
    have M5 := M4.ex c5
    obtain ⟨kvs, n1, n2, n3⟩ := M5.nm.ex
    obtain ⟨kvt, t1, t2, t3, t4⟩ := M5.cl.ex
    obtain ⟨m, hm1, hm2⟩ := metCell_in hm
    obtain ⟨i, hi⟩ := Option.isSome_iff_exists.mp (hci kc m hm1 hm2)
    have hval : valV kvt (cellK kc) = some (.int i) := by rw [t3 kc]; show (ms.cl kc).map V.int = _; rw [hi]; rfl
    refine ws_putK (T := T) (v := .int i) ck (ev_getT ck (ev_cl MM.k M5 (ev_name 0)) (ed_name (d := keyDs (cellK kc)) 3 (c5.dt hu)) t1 hval) (ev_nm MM.k M5 (ev_name 0)) (ed_at1 (ed_name 2 (c5.dt hr4))) n1 (by omega) fun H6 c6 n6 => wS_nil (wS_nil ?_)
    have cg : Chg T [a.nd] H6 (upd H6 a.nd (.dK (putK kvs (.inr x) (.int i)))) := .set n6 wr_dK (by simp)
    refine q .non _ (((d4.and_ c5).and_ c6).trans (fp_mn cg)) ?_
    have e : mrow c p ms (.load x adr) = { ms.keep p (.cell kc) with nm := setF ms.nm x i } := by
      simp only [mrow, hm, hi, Option.getD_some]
    rw [e]
    exact ((M5.ex c6).setNm cg (NmAt.put (T := T) (H := H6) n2 n3 upd_same) (Nat.le_succ _))
/-! ### do_store -/
theorem sc_do_store : FnScope ["machine", "place", "row", "number", "cell"] ["machine", "place", "row"] (defScope (top 13)) := ⟨rfl, rfl, rfl, by decide +kernel, rfl, by decide +kernel, by decide +kernel⟩
theorem g_do_store (F : At K mg "do_store" 13) (MM : Ms P w K mg base T C) (G : GDef P w K mg base 4 "at_cell" (spAt P w K T C)) (Ga : GDef P w K mg base 2 "amount" (spAmt T)) : GDef P w K mg base 5 "do_store" (spDo P w K T C "store") := by
  refine F.ok sc_do_store (fun _ _ _ _ _ _ us hl => match us, hl with | [_, _, _], _ => rfl) (fun vs H Q ⟨_, _, _, _, _, _, _, _, _, e, _⟩ => by rw [e]; rfl) fun f cdv Ar outer s H vs Q ck ⟨a, v, c, ms, L, p, op, vp, vr, e, M, hp, hr, oc, ok, hci, hw, hL, q⟩ => ?_
  subst e
  obtain ⟨adr, o, rfl⟩ := w_store hw
  refine ws_asg (T := T) 3 ck (ed_amt Ga ck (by decide) (o := o) (ed_at2 (ed_name 2 hr)) (ev_nm MM.k M (ev_name 0)) M.nm) fun vn H0 c0 hvn => ?_
  refine ws_set 4 ck (wE_cl G ck (wA_cons (EvV.go (T := T) (ev_name 0) .refl fun H1 c1 => wA_cons (EvD.go (T := T) (ed_name 1 ((c0.trans c1).dt hp)) .refl fun u2 H2 c2 g2 => wA_cons (EvD.go (T := T) (ed_at1 (ed_name 2 (((c0.trans c1).trans c2).dt hr))) .refl fun u3 H3 c3 g3 => wA_nil ⟨a, v, c, ms, L, p, adr, u2, u3, rfl, M.ex (((c0.trans c1).trans c2).trans c3), c3.dt g2, g3, oc, ok.1, by omega, fun u H4 c4 M4 hu => ?_⟩)))))
  have d4 : Chg T (fp a) H H4 := (((c0.trans c1).trans c2).trans c3).then_ c4
  have hvn4 : DT K H4 vn (.int (amt ms.nm o)) := c4.dt (((c1.trans c2).trans c3).dt hvn)
  cases hm : metCell c ms.nm adr with
  | none =>
    rw [hm] at hu
    refine ws_when (T := T) (k := false) (EvT.is (et_cmp (ec_notN (ed_name 4 hu))) rfl) (fun z => by cases z) fun _ H5 c5 => wS_nil ?_
    refine q .non H5 (d4.and_ c5) ?_
    have e : mrow c p ms (.store adr o) = atS c p ms adr := by simp only [mrow, atS, hm]
    rw [e]
    exact (M4.ex c5).le (by omega)
  | some kc =>
    rw [hm] at hu
    refine ws_when (T := T) (k := true) (EvT.is (et_cmp (ec_notN (ed_name 4 hu))) rfl) (fun _ H5 c5 => ?_) fun z => by cases z
    have e0 : atS c p ms adr = ms.keep p (.cell kc) := by unfold atS; rw [hm]
    rw [e0] at M4
    have M5 := M4.ex c5
    obtain ⟨kvt, t1, t2, t3, t4⟩ := M5.cl.ex
    refine ws_putT (T := T) (ks := cellK kc) (v := .int (amt ms.nm o)) ck (EvD.val (ed_name 3 (c5.dt hvn4))) (ev_cl MM.k M5 (ev_name 0)) (ed_name 4 (c5.dt hu)) t1 (by omega) fun H6 c6 t6 => wS_nil (wS_nil ?_)
    refine q .non _ ((d4.and_ c5).trans (fp_mc c6)) ?_
    have e : mrow c p ms (.store adr o) = { ms.keep p (.cell kc) with cl := setF ms.cl kc (amt ms.nm o) } := by simp only [mrow, hm]
    rw [e]
    exact M5.setCl c6 (ClAt.put t2 t3 t4 t6) (Nat.le_succ _)
/-! ### do_set -/
theorem sc_do_set : FnScope ["machine", "place", "row", "word", "name", "sign", "one", "other"] ["machine", "place", "row"] (defScope (top 15)) := ⟨rfl, rfl, rfl, by decide +kernel, rfl, by decide +kernel, by decide +kernel⟩
theorem w_set {op : Op} (h : op.word = "set") : ∃ x w o1 o2, op = .set x w o1 o2 := by
  cases op with
  | set x w o1 o2 => exact ⟨x, w, o1, o2, rfl⟩
  | _ => exfalso; simp only [Op.word] at h; revert h; decide
theorem w_tell {op : Op} (h : op.word = "tell") : ∃ o, op = .tell o := by
  cases op with
  | tell o => exact ⟨o, rfl⟩
  | _ => exfalso; simp only [Op.word] at h; revert h; decide
theorem w_need {op : Op} (h : op.word = "need") : ∃ o, op = .need o := by
  cases op with
  | need o => exact ⟨o, rfl⟩
  | _ => exfalso; simp only [Op.word] at h; revert h; decide
theorem g_do_set (F : At K mg "do_set" 15) (MM : Ms P w K mg base T C) (Gf : GDef P w K mg base 1 "found_by" (spFby K T)) (Ga : GDef P w K mg base 2 "amount" (spAmt T)) : GDef P w K mg base 5 "do_set" (spDo P w K T C "set") := by
  refine F.ok sc_do_set (fun _ _ _ _ _ _ us hl => match us, hl with | [_, _, _], _ => rfl) (fun vs H Q ⟨_, _, _, _, _, _, _, _, _, e, _⟩ => by rw [e]; rfl) fun f cdv Ar outer s H vs Q ck ⟨a, v, c, ms, L, p, op, vp, vr, e, M, hp, hr, oc, ok, hci, hw, hL, q⟩ => ?_
  subst e
  obtain ⟨x, wd, o1, o2, rfl⟩ := w_set hw
  obtain ⟨_, hwd, _, _, hmul⟩ := id ok
  refine wS_cons (ps_asg peW (pg_tup (n := 5) ck.calm (pgs_cons (pg_name (i := 3) ck.nd rfl (.inl rfl)) (pgs_cons (pg_name (i := 4) ck.nd rfl (.inl rfl)) (pgs_cons (pg_name (i := 5) ck.nd rfl (.inl rfl)) (pgs_cons (pg_name (i := 6) ck.nd rfl (.inl rfl)) (pgs_cons (pg_name (i := 7) ck.nd rfl (.inl rfl)) pgs_nil)))))) rfl rfl (by rfl)) ?_
  refine EvD.go (T := T) (ed_name 2 hr) .refl fun vr2 H1 c1 hr2 => ?_
  obtain ⟨ra, rs, rfl, hsq, hrs⟩ := hr2.inv_tup
  cases hrs with
  | cons r1 hrs =>
  cases hrs with
  | cons r2 hrs =>
  obtain ⟨r3, r4, r5, rfl, g3, g4, g5⟩ := hrs.inv3
  refine ⟨ra, _, rfl, hsq.t, rfl, _, _, rfl, _, _, rfl, _, _, rfl, _, _, rfl, _, _, rfl, rfl, ?_⟩
  have M1 := M.ex c1
  obtain ⟨kvs, n1, n2, n3⟩ := M1.nm.ex
  refine ws_putK (T := T) (v := .int (fby wd (amt ms.nm o1) (amt ms.nm o2))) (x := x) ck (EvD.val (ed_cf Gf ck (wd, amt ms.nm o1, amt ms.nm o2) (ea_cons (ed_name 5 g3) (ea_cons (ed_amt Ga ck (by decide) (o := o1) (ed_name 6 g4) (ev_nm MM.k M1 (ev_name 0)) M1.nm) (ea_cons (ed_amt Ga ck (by decide) (o := o2) (ed_name 7 g5) (ev_nm MM.k M1 (ev_name 0)) M1.nm) ea_nil))) ?_)) (ev_nm MM.k M1 (ev_name 0)) (ed_name 4 r2) n1 (by omega) fun H2 c2 n4 => ?_
  · intro hst
    obtain ⟨i, hi, h1, h2⟩ := hmul hst
    rw [hi]
    exact .inr ⟨by show -(2 ^ 64) < i; omega, by show i < 2 ^ 64; omega⟩
  have cg : Chg T [a.nd] H2 (upd H2 a.nd (.dK (putK kvs (.inr x) (.int (fby wd (amt ms.nm o1) (amt ms.nm o2)))))) := .set n4 wr_dK (by simp)
  have M3 := (M1.ex c2).setNm cg (NmAt.put (T := T) (H := H2) n2 n3 upd_same) (Nat.le_succ _)
  have d3 : Chg T (fp a) H (upd H2 a.nd (.dK (putK kvs (.inr x) (.int (fby wd (amt ms.nm o1) (amt ms.nm o2)))))) := (c1.trans c2).then_ (fp_mn cg)
  exact ws_keep (T := T) (ch := .non) MM ck (by decide) M3 (by omega) (ev_name 0) (ed_name 1 (d3.dt hp)) ed_non fun H4 c4 M4 => wS_nil (q .non H4 (d3.trans c4) M4)
/-! ### do_tell, do_need -/
theorem sc_do_tell : FnScope ["machine", "place", "row"] ["machine", "place", "row"] (defScope (top 16)) := ⟨rfl, rfl, rfl, by decide +kernel, rfl, by decide +kernel, by decide +kernel⟩
theorem g_do_tell (F : At K mg "do_tell" 16) (MM : Ms P w K mg base T C) (Ga : GDef P w K mg base 2 "amount" (spAmt T)) : GDef P w K mg base 5 "do_tell" (spDo P w K T C "tell") := by
  refine F.ok sc_do_tell (fun _ _ _ _ _ _ us hl => match us, hl with | [_, _, _], _ => rfl) (fun vs H Q ⟨_, _, _, _, _, _, _, _, _, e, _⟩ => by rw [e]; rfl) fun f cdv Ar outer s H vs Q ck ⟨a, v, c, ms, L, p, op, vp, vr, e, M, hp, hr, oc, ok, hci, hw, hL, q⟩ => ?_
  subst e
  obtain ⟨o, rfl⟩ := w_tell hw
  obtain ⟨hs, a1, a2⟩ := M.hr
  refine ws_append (T := T) (R := fun d => d = .int (amt ms.nm o)) (ev_hr MM.k M (ev_name 0)) a1 (by omega) (EvD.r (ed_amt Ga ck (by decide) (o := o) (ed_at1 (ed_name 2 hr)) (ev_nm MM.k M (ev_name 0)) M.nm) rfl) fun u H1 d c1 _ hu => ?_
  have cg : Chg T [a.hd] H1 (upd H1 a.hd (.lst (hs ++ [u]))) := .set (c1.get a1) wr_lst (by simp)
  have M2 := (M.ex c1).setHeard (L' := L + 1) cg upd_same (by rw [List.length_append]; simp only [List.length_cons, List.length_nil]; omega) (Nat.le_succ _)
  exact ws_keep (T := T) (ch := .non) MM ck (by decide) M2 (by omega) (ev_name 0) (ed_name 1 (cg.dt (c1.dt hp))) ed_non fun H4 c4 M4 => wS_nil (q .non H4 ((c1.then_ (fp_mh cg)).trans c4) M4)
theorem sc_do_need : FnScope ["machine", "place", "row"] ["machine", "place", "row"] (defScope (top 17)) := ⟨rfl, rfl, rfl, by decide +kernel, rfl, by decide +kernel, by decide +kernel⟩
theorem g_do_need (F : At K mg "do_need" 17) (MM : Ms P w K mg base T C) (Ga : GDef P w K mg base 2 "amount" (spAmt T)) : GDef P w K mg base 5 "do_need" (spDo P w K T C "need") := by
  refine F.ok sc_do_need (fun _ _ _ _ _ _ us hl => match us, hl with | [_, _, _], _ => rfl) (fun vs H Q ⟨_, _, _, _, _, _, _, _, _, e, _⟩ => by rw [e]; rfl) fun f cdv Ar outer s H vs Q ck ⟨a, v, c, ms, L, p, op, vp, vr, e, M, hp, hr, oc, ok, hci, hw, hL, q⟩ => ?_
  subst e
  obtain ⟨o, rfl⟩ := w_need hw
  refine ws_if (T := T) (k := decide (amt ms.nm o = 0)) (et_cmp (ec_eqI (ed_amt Ga ck (by decide) (o := o) (ed_at1 (ed_name 2 hr)) (ev_nm MM.k M (ev_name 0)) M.nm) ed_int)) (fun z H1 c1 => ?_) fun z H1 c1 => ?_
  · refine ws_word (T := T) MM.k (M.ex c1) ed_str (ev_name 0) fun H2 c2 M2 => wS_nil (wS_nil (q .non H2 (c1.then_ (fp_mm c2)) ?_))
    have e : mrow c p ms (.need o) = ms.fault := by simp only [mrow, if_pos (of_decide_eq_true z)]
    rw [e]
    exact M2.le (by omega)
  · refine ws_keep (T := T) (ch := .non) MM ck (by decide) (M.ex c1) (by omega) (ev_name 0) (ed_name 1 (c1.dt hp)) ed_non fun H4 c4 M4 => wS_nil (wS_nil (q .non H4 (c1.then_ c4) ?_))
    have e : mrow c p ms (.need o) = ms.keep p .non := by simp only [mrow, if_neg (of_decide_eq_false z)]
    rw [e]
    exact M4.le (by omega)
end
end K7
/-! ## K8E -/
set_option Elab.async false
set_option linter.all false
set_option maxRecDepth 100000
set_option maxHeartbeats 4000000
/-! do_call, do_end, one_step. -/
namespace K7
open PySem PySem.Spec PyProof.Rows L2
section
variable {P : Program} {w : World} {K : PySem.W.Frag} {mg : Str → Option Value} {base : Heap} {T : List (Addr × Str)} {C : Addr}
/-- what a step promises: from the state s at p to one c s p -/
def StepQ (P : Program) (w : World) (K : PySem.W.Frag) (T : List (Addr × Str)) (C : Addr) (H : Hp) (a : Mac) (v : V) (c : Code) (s : MS) (L : Nat) (p : Plc) (Q : VK) : Prop :=
  ∀ u H', Chg T (fp a) H H' → MOK P w K C H' a v c (one c s p).1 (L + 2) → DT K H' u (one c s p).2.d → Q u H'
theorem fp_calm {a : Mac} {H H' : Hp} (c : Ex T H H') : Chg T (fp a) H H' := c.any
/-- if not m.may_enter(): return place -/
theorem ws_enter {X : Cx} {σ : L2.St} {H : Hp} {o : Expr} {yes : List Stmt} {D : Ends} {rest : List Stmt} {pos p1 apos cpos : Pos} {n : Nat} {a : Mac} {v : V} {c : Code} {s : MS} {L : Nat} (MM : Ms X.prog X.w X.K X.mg X.base T C) (ck : Cok n X) (hk : 1 ≤ n) (M : MOK X.prog X.w X.K C H a v c s L) (ho : EvV T X o σ H (.ref a.m))
    (h0 : s.fuel = 0 → ∀ H', Chg T (fp a) H H' → MOK X.prog X.w X.K C H' a v c s.out L → wS X yes { D with nx := wS X rest D } σ H') (h1 : s.fuel ≠ 0 → ∀ H', Chg T (fp a) H H' → MOK X.prog X.w X.K C H' a v c s.pay L → wS X rest D σ H')
    {pl : Sem Bool} (ht : eval (.Call (.Attribute o "may_enter" apos) [] [] cpos) X.env = (do
      let ov ← eval o X.env
      standAt apos.atName
      let (f, first) ← holding [ov] (getMethod ov "may_enter" pl)
      callWith cpos f first (backTo cpos (starEach [] X.env)) (backToKw cpos (keywordEach [] X.env))) := by rfl)
    (he : ∀ whole, isTrue (.Call (.Attribute o "may_enter" apos) [] [] cpos) X.env whole = (do let v ← whole; standAt cpos; holding [v] (truthy v)) := by intro _; rfl) :
    wS X (.If (.UnaryOp .Not (.Call (.Attribute o "may_enter" apos) [] [] cpos) p1) yes [] pos :: rest) D σ H := by
  obtain ⟨f, hm, F⟩ := MM.enter
  refine wS_cons (ps_if ptW pssW pssW) (wT.of (pt_not ptW) (wT.of (pt_val peW he) (wE_meth0 (pl := pl) ck MM.k.cl hm F hk (ho H .refl _ fun H1 c1 => ⟨a.m, a.dx, _, rfl, c1.get M.ins, flds_no (by decide +kernel), a, v, c, s, L, rfl, M.ex c1, fun H2 c2 => ⟨fun hf M2 => ⟨false, rfl, ?_⟩, fun hf M2 => ⟨true, rfl, ?_⟩⟩⟩) ht)))
  · exact h0 hf H2 (c1.then_ c2) M2
  · exact wS_nil (h1 hf H2 (c1.then_ c2) M2)
/-! ### do_call -/
theorem sc_do_call : FnScope ["machine", "place", "row"] ["machine", "place", "row"] (defScope (top 19)) := ⟨rfl, rfl, rfl, by decide +kernel, rfl, by decide +kernel, by decide +kernel⟩
def spCallS (P : Program) (w : World) (K : PySem.W.Frag) (T : List (Addr × Str)) (C : Addr) : Sp' := fun vs H Q => ∃ (a : Mac) (v : V) (c : Code) (s : MS) (L : Nat) (p : Plc) (r : Str) (vp vr : V), vs = [.ref a.m, vp, vr] ∧ MOK P w K C H a v c s L ∧ DT K H vp p.d ∧ DT K H vr (Op.call r).d ∧ c.row p = some (.call r) ∧ L < 900 ∧ StepQ P w K T C H a v c s L p Q
theorem g_do_call (F : At K mg "do_call" 19) (MM : Ms P w K mg base T C) : GDef P w K mg base 2 "do_call" (spCallS P w K T C) := by
  refine F.ok sc_do_call (fun _ _ _ _ _ _ us hl => match us, hl with | [_, _, _], _ => rfl) (fun vs H Q ⟨_, _, _, _, _, _, _, _, _, e, _⟩ => by rw [e]; rfl) fun f cdv Ar outer s H vs Q ck ⟨a, v, c, ms, L, p, r, vp, vr, e, M, hp, hr, hrow, hL, q⟩ => ?_
  subst e
  refine ws_enter (T := T) MM ck (by decide) M (ev_name 0) (fun hf H1 c1 M1 => ?_) fun hf H1 c1 M1 => ?_
  · have e1 : one c ms p = (ms.out, p) := by simp only [one, hrow, if_pos hf]
    exact ws_ret (T := T) (ed_name 1 (c1.dt hp)) fun u H2 c2 hu => q u H2 (c1.and_ c2) (by rw [e1]; exact (M1.ex c2).le (by omega)) (by rw [e1]; exact hu)
  · have e1 : one c ms p = ({ ms.pay.keep p .non with calls := ms.calls ++ [p.next] }, ⟨r, 0, 0⟩) := by simp only [one, hrow, if_neg hf]
    refine ws_keep (T := T) (ch := .non) MM ck (by decide) M1 (by omega) (ev_name 0) (ed_name 1 (c1.dt hp)) ed_non fun H2 c2 M2 => ?_
    obtain ⟨ls, l1, l2, l3⟩ := M2.ca
    have hp2 := c2.dt (c1.dt hp)
    refine ws_append (T := T) (R := fun d => d = p.next.d) (ev_ca MM.k M2 (ev_name 0)) l1 (by omega) (EvD.r (ed_tup (ds := [.str p.r, .int p.b, .int (p.k + 1)]) (ea_cons (ed_at0 (ed_name 1 hp2)) (ea_cons (ed_at1 (ed_name 1 hp2)) (ea_cons (ed_add (ed_at2 (ed_name 1 hp2)) ed_int) ea_nil)))) rfl) fun u H3 d c3 e hu => ?_
    subst e
    have cg : Chg T [a.ld] H3 (upd H3 a.ld (.lst (ls ++ [u]))) := .set (c3.get l1) wr_lst (by simp)
    have M4 := (M2.ex c3).setCalls (cs := ms.calls ++ [p.next]) (L' := L + 2) cg upd_same (by rw [List.map_append]; exact (cg.dts (c3.dts l2)).app (.one (cg.dt hu))) (by rw [List.length_append]; simp only [List.length_cons, List.length_nil]; omega) (by omega)
    have d4 : Chg T (fp a) H (upd H3 a.ld (.lst (ls ++ [u]))) := ((c1.trans c2).and_ c3).trans (fp_ml cg)
    exact ws_ret (T := T) (d := .tuple [.str r, .int 0, .int 0]) (ed_tup (ea_cons (ed_at1 (ed_name 2 (d4.dt hr))) (ea_cons ed_int (ea_cons ed_int ea_nil)))) fun u2 H5 c5 hu2 => q u2 H5 (d4.and_ c5) (by rw [e1]; exact M4.ex c5) (by rw [e1]; exact hu2)
/-! ### do_end -/
theorem sc_do_end : FnScope ["machine", "place", "end", "choice", "block"] ["machine", "place", "end"] (defScope (top 20)) := ⟨rfl, rfl, rfl, by decide +kernel, rfl, by decide +kernel, by decide +kernel⟩
def isEnd : Op → Prop
  | .back => True
  | .go _ => True
  | .iff _ _ _ => True
  | _ => False
def spEndS (P : Program) (w : World) (K : PySem.W.Frag) (T : List (Addr × Str)) (C : Addr) : Sp' := fun vs H Q => ∃ (a : Mac) (v : V) (c : Code) (s : MS) (L : Nat) (p : Plc) (op : Op) (vp vr : V), vs = [.ref a.m, vp, vr] ∧ MOK P w K C H a v c s L ∧ DT K H vp p.d ∧ DT K H vr op.d ∧ c.row p = some op ∧ isEnd op ∧ (∀ q ∈ s.calls, q.r ∈ rn3) ∧ L < 900 ∧ StepQ P w K T C H a v c s L p Q
theorem Dp.lstOf {H : Hp} {l : Addr} {vs : List V} {ds : List PyData} (h : H l = some (.lst vs)) (hd : DTs K H vs ds) : Dp K H (.ref l) (.list ds) := .lst (SqL.of h) hd.dp
theorem shaped_list {ds : List PyData} (h : SeqAt.shaped (.tuple ds) = true) : SeqAt.shaped (.list ds) = true := by
  unfold SeqAt.shaped at h ⊢
  simp only [PyData.canLay0, PyData.depth] at h ⊢
  exact h
theorem g_do_end (F : At K mg "do_end" 20) (MM : Ms P w K mg base T C) (Ga : GDef P w K mg base 2 "amount" (spAmt T)) : GDef P w K mg base 3 "do_end" (spEndS P w K T C) := by
  refine F.ok sc_do_end (fun _ _ _ _ _ _ us hl => match us, hl with | [_, _, _], _ => rfl) (fun vs H Q ⟨_, _, _, _, _, _, _, _, _, e, _⟩ => by rw [e]; rfl) fun f cdv Ar outer s H vs Q ck ⟨a, v, c, ms, L, p, op, vp, vr, e, M, hp, hr, hrow, hend, hrn, hL, q⟩ => ?_
  subst e
  refine ws_when (T := T) (k := decide (op.word = "back")) (et_cmp (ec_eqS (ed_at0 (ds := .str op.word :: op.more) (ed_name 2 hr)) ed_str)) (fun z H1 c1 => ?_) fun z H1 c1 => ?_
  · obtain rfl := w_back (of_decide_eq_true z)
    refine ws_keep (T := T) (ch := .non) MM ck (by decide) (M.ex c1) (by omega) (ev_name 0) (ed_name 1 (c1.dt hp)) ed_non fun H2 c2 M2 => ?_
    obtain ⟨ls, l1, l2, l3⟩ := M2.ca
    have d2 : Chg T (fp a) H H2 := c1.then_ c2
    have l2' : DTs K H2 ls (ms.calls.map Plc.d) := l2
    refine ws_when (T := T) (k := ms.calls.isEmpty) (et_cmp (fun H3 c3 Q3 q3 => ?_)) (fun z2 H3 c3 => ?_) fun z2 H3 c3 => ?_
    · refine (ev_ca MM.k M2 (ev_name 0)).go c3 fun H4 c4 => (el_lst (T := T) ea_nil).go .refl fun l5 H5 vs5 ds5 hl5 c5 g5 e5 hd5 _ => ?_
      subst e5
      have c35 := (c3.trans c4).trans c5
      refine ⟨_, op_eqD ck.hu64, .list (ms.calls.map Plc.d), .list [], Dp.lstOf (c35.get l1) (c35.dts l2'), Dp.lstOf g5 hd5, shaped_list (shaped_plcs hrn), by decide, ?_⟩
      have e : PyData.eqv (.list (ms.calls.map Plc.d)) (.list []) = ms.calls.isEmpty := by cases ms.calls <;> simp [PyData.eqv, PyData.eqvAll]
      rw [e]
      exact q3 H5 (c4.trans c5)
    · have e0 : ms.calls = [] := List.isEmpty_iff.mp z2
      have e1 : one c ms p = ({ ms.keep p .non with word := "ends" }, p) := by simp only [one, hrow, e0, List.getLast?_nil]
      refine ws_word (T := T) MM.k (M2.ex c3) ed_str (ev_name 0) fun H4 c4 M4 => ?_
      have d4 := (d2.and_ c3).trans (fp_mm c4)
      exact ws_ret (T := T) (ed_name 1 (d4.dt hp)) fun u H5 c5 hu => q u H5 (d4.and_ c5) (by rw [e1]; exact (M4.ex c5).le (by omega)) (by rw [e1]; exact hu)
    · obtain ⟨init, l, e0⟩ : ∃ init l, ms.calls = init ++ [l] := by
        rcases List.eq_nil_or_concat ms.calls with z | ⟨init, l, z⟩
        · rw [z] at z2; cases z2
        · exact ⟨init, l, by rw [z]; try simp⟩
      have e1 : one c ms p = ({ ms.keep p .non with calls := init }, l) := by simp only [one, hrow, e0, List.getLast?_concat, List.dropLast_concat]
      rw [e0, List.map_append] at l2'
      obtain ⟨ls1, ls2, rfl, k1, k2⟩ : ∃ ls1 ls2, ls = ls1 ++ [ls2] ∧ DTs K H2 ls1 (init.map Plc.d) ∧ DT K H2 ls2 l.d := by
        have hlen : ls.length = init.length + 1 := by rw [l2'.len]; simp
        have t1 := l2'.take init.length
        have t2 := l2'.drop init.length
        rw [List.take_left' (by simp)] at t1
        rw [List.drop_left' (by simp)] at t2
        obtain ⟨u, e, hu⟩ := t2.inv1
        exact ⟨ls.take init.length, u, by rw [← e, List.take_append_drop], t1, hu⟩
      refine ws_return (wE.of (pe_bm0 PySem.F.plainAttrs_list PySem.F.slot_list_pop PySem.F.type_list_pop mt_pop peW) ((ev_ca MM.k M2 (ev_name 0)).go c3 fun H4 c4 => ⟨tyL ((c3.trans c4).get l1), a.ld, _, ls2, rfl, rfl, (c3.trans c4).get l1, by simp, ?_⟩))
      have cg : Chg T [a.ld] H4 (upd H4 a.ld (.lst (ls1 ++ [ls2]).dropLast)) := .set ((c3.trans c4).get l1) wr_lst (by simp)
      have c34 := c3.trans c4
      refine q ls2 _ ((d2.and_ c34).trans (fp_ml cg)) ?_ (by rw [e1]; exact cg.dt (c34.dt k2))
      rw [e1]
      have hh : ∀ xs, xs = ls1 → DTs K (upd H4 a.ld (.lst (ls1 ++ [ls2]).dropLast)) xs (init.map Plc.d) := by
        rintro xs rfl
        exact cg.dts (c34.dts k1)
      exact ((M2.ex c34).setCalls (cs := init) (L' := L + 2) cg upd_same (hh _ List.dropLast_concat) (by rw [List.dropLast_concat]; rw [List.length_append] at l3; omega) (by omega))
  · -- go, if
    have hcase : (∃ b, op = .go b) ∨ ∃ o b1 b2, op = .iff o b1 b2 := by
      have z := of_decide_eq_false z
      cases op <;> first | exact hend.elim | exact .inl ⟨_, rfl⟩ | exact .inr ⟨_, _, _, rfl⟩ | exact absurd rfl z
    let ch : Chc := match op with
      | .iff o b1 b2 => .blk (if amt ms.nm o ≠ 0 then b1 else b2)
      | _ => .non
    let b : Nat := match op with
      | .iff o b1 b2 => if amt ms.nm o ≠ 0 then b1 else b2
      | .go b => b
      | _ => 0
    have e1 : one c ms p = if ms.fuel = 0 then (ms.out, p) else (ms.pay.keep p ch, ⟨p.r, b, 0⟩) := by
      rcases hcase with ⟨b, rfl⟩ | ⟨o, b1, b2, rfl⟩ <;> simp only [one, hrow, ch, b]
    have h1o : ∃ d1, op.more[0]? = some d1 := by rcases hcase with ⟨b, rfl⟩ | ⟨o, b1, b2, rfl⟩ <;> exact ⟨_, rfl⟩
    obtain ⟨d1, hd1⟩ := h1o
    refine ws_par2 (T := T) (d1 := .none) (d2 := d1) 3 4 ck (ea_cons ed_non (ea_cons (ed_at1 (ds := .str op.word :: op.more) (ed_name 2 (c1.dt hr)) (by rw [List.getElem?_cons_succ]; exact hd1)) ea_nil)) fun u3 u4 H2 c2 g3 g4 => ?_
    refine ws_ifJ (T := T) (k := decide (op.word = "if")) (fun σ' H' => ∃ w3 w4, σ' = [some (.ref a.m), some vp, some vr, some w3, some w4] ∧ Ex T H H' ∧ DT K H' w3 ch.d ∧ DT K H' w4 (.int b)) (et_cmp (ec_eqS (ed_at0 (ds := .str op.word :: op.more) (ed_name 2 ((c1.trans c2).dt hr))) ed_str)) (fun z3 H3 c3 => ?_) (fun z3 H3 c3 => wS_nil ⟨u3, u4, rfl, (c1.trans c2).trans c3, ?_, ?_⟩) ?_
    · obtain ⟨o, b1, b2, rfl⟩ := w_if (of_decide_eq_true z3)
      have d3 := (c1.trans c2).trans c3
      have hr3 := d3.dt hr
      refine ws_asg (T := T) (d := .int b) 3 ck (ed_if (k := !decide (amt ms.nm o = 0)) (et_cmp (ec_neI (ed_amt Ga ck (by decide) (o := o) (ed_at1 (ed_name 2 hr3)) (ev_nm MM.k (M.ex d3) (ev_name 0)) (M.ex d3).nm) ed_int)) (fun z4 => ?_) fun z4 => ?_) fun w3 H4 c4 hw3 => ?_
      · refine EvD.is (ed_at2 (ed_name 2 hr3)) ?_
        have : amt ms.nm o ≠ 0 := by simpa using z4
        show PyData.int (b1 : Int) = .int ((if amt ms.nm o ≠ 0 then b1 else b2 : Nat) : Int)
        rw [if_pos this]
      · refine EvD.is (ed_at3 (ed_name 2 hr3)) ?_
        have : ¬ amt ms.nm o ≠ 0 := by simpa using z4
        show PyData.int (b2 : Int) = .int ((if amt ms.nm o ≠ 0 then b1 else b2 : Nat) : Int)
        rw [if_neg this]
      · exact ws_asg (T := T) (d := .int b) 4 ck (ed_name 3 hw3) fun w4 H5 c5 hw4 => wS_nil ⟨w3, w4, rfl, (d3.trans c4).trans c5, c5.dt hw3, hw4⟩
    · rcases hcase with ⟨b, rfl⟩ | ⟨o, b1, b2, rfl⟩
      · exact c3.dt g3
      · exact absurd rfl (of_decide_eq_false z3)
    · rcases hcase with ⟨b, rfl⟩ | ⟨o, b1, b2, rfl⟩
      · cases hd1; exact c3.dt g4
      · exact absurd rfl (of_decide_eq_false z3)
    · rintro σ' H4 ⟨w3, w4, rfl, d4, hw3, hw4⟩
      refine ws_enter (T := T) MM ck (by decide) (M.ex d4) (ev_name 0) (fun hf H5 c5 M5 => ?_) fun hf H5 c5 M5 => ?_
      · rw [if_pos hf] at e1
        have d5 : Chg T (fp a) H H5 := d4.then_ c5
        exact ws_ret (T := T) (ed_name 1 (d5.dt hp)) fun u H6 c6 hu => q u H6 (d5.and_ c6) (by rw [e1]; exact (M5.ex c6).le (by omega)) (by rw [e1]; exact hu)
      · rw [if_neg hf] at e1
        have d5 : Chg T (fp a) H H5 := d4.then_ c5
        refine ws_keep (T := T) (ch := ch) MM ck (by decide) M5 (by omega) (ev_name 0) (ed_name 1 (d5.dt hp)) (ed_name 3 (c5.dt hw3)) fun H6 c6 M6 => ?_
        have d6 := d5.trans c6
        exact ws_ret (T := T) (d := .tuple [.str p.r, .int b, .int 0]) (ed_tup (ea_cons (ed_at0 (ed_name 1 (d6.dt hp))) (ea_cons (ed_name 4 (c6.dt (c5.dt hw4))) (ea_cons ed_int ea_nil)))) fun u H7 c7 hu => q u H7 (d6.and_ c7) (by rw [e1]; exact (M6.ex c7).le (by omega)) (by rw [e1]; exact hu)
end
end K7
/-! ## K8F -/
set_option Elab.async false
set_option linter.all false
set_option maxRecDepth 100000
set_option maxHeartbeats 4000000
/-! one_step. -/
namespace K7
open PySem PySem.Spec PyProof.Rows L2
theorem GDef.frun {P : Program} {w : World} {K : PySem.W.Frag} {mg : Str → Option Value} {base : Heap} {k : Nat} {x : Str} {sp : Sp'} {f : Addr} (G : GDef P w K mg base k x sp) (hm : mg x = some (.ref f)) : PySem.W.keepIn K (.ref f) = true ∧ FRun P w K mg base k f sp := by
  obtain ⟨f', h1, h2, r⟩ := G.ex
  rw [hm] at h1
  cases h1
  exact ⟨h2, r⟩
/-- the table of the rows' defs -/
structure DoesT (w : World) (K : PySem.W.Frag) (mg : Str → Option Value) : Prop where
  ex : ∃ dA : Addr, mg "DOES" = some (.ref dA) ∧ ∀ e ∈ ([("load", "do_load"), ("store", "do_store"), ("touch", "do_touch"), ("set", "do_set"), ("tell", "do_tell"), ("need", "do_need")] : List (Str × Str)), ∃ f : Addr, KDct K w dA e.1 (.ref f) ∧ mg e.2 = some (.ref f)
structure Dos (P : Program) (w : World) (K : PySem.W.Frag) (mg : Str → Option Value) (base : Heap) (T : List (Addr × Str)) (C : Addr) : Prop where
  t : DoesT w K mg
  load : GDef P w K mg base 5 "do_load" (spDo P w K T C "load")
  store : GDef P w K mg base 5 "do_store" (spDo P w K T C "store")
  touch : GDef P w K mg base 5 "do_touch" (spDo P w K T C "touch")
  set : GDef P w K mg base 5 "do_set" (spDo P w K T C "set")
  tell : GDef P w K mg base 5 "do_tell" (spDo P w K T C "tell")
  need : GDef P w K mg base 5 "do_need" (spDo P w K T C "need")
section
variable {P : Program} {w : World} {K : PySem.W.Frag} {mg : Str → Option Value} {base : Heap} {T : List (Addr × Str)} {C : Addr}
theorem Dos.get (D : Dos P w K mg base T C) {op : Op} {c : Code} (ho : OkRow c op) (hc : op.word ≠ "call") : ∃ dA f, mg "DOES" = some (.ref dA) ∧ KDct K w dA op.word (.ref f) ∧ PySem.W.keepIn K (.ref f) = true ∧ FRun P w K mg base 5 f (spDo P w K T C op.word) := by
  obtain ⟨dA, h1, h2⟩ := D.t.ex
  cases op with
  | load x a =>
    obtain ⟨f, k1, k2⟩ := h2 ("load", "do_load") (by simp)
    obtain ⟨k3, k4⟩ := D.load.frun k2
    exact ⟨dA, f, h1, k1, k3, k4⟩
  | store a o =>
    obtain ⟨f, k1, k2⟩ := h2 ("store", "do_store") (by simp)
    obtain ⟨k3, k4⟩ := D.store.frun k2
    exact ⟨dA, f, h1, k1, k3, k4⟩
  | touch a =>
    obtain ⟨f, k1, k2⟩ := h2 ("touch", "do_touch") (by simp)
    obtain ⟨k3, k4⟩ := D.touch.frun k2
    exact ⟨dA, f, h1, k1, k3, k4⟩
  | set x w1 o1 o2 =>
    obtain ⟨f, k1, k2⟩ := h2 ("set", "do_set") (by simp)
    obtain ⟨k3, k4⟩ := D.set.frun k2
    exact ⟨dA, f, h1, k1, k3, k4⟩
  | tell o =>
    obtain ⟨f, k1, k2⟩ := h2 ("tell", "do_tell") (by simp)
    obtain ⟨k3, k4⟩ := D.tell.frun k2
    exact ⟨dA, f, h1, k1, k3, k4⟩
  | need o =>
    obtain ⟨f, k1, k2⟩ := h2 ("need", "do_need") (by simp)
    obtain ⟨k3, k4⟩ := D.need.frun k2
    exact ⟨dA, f, h1, k1, k3, k4⟩
  | call r => exact absurd rfl hc
  | go b => exact ho.elim
  | iff o b1 b2 => exact ho.elim
  | back => exact ho.elim
end
/-- D[x](e, ..), D a written dict of the module -/
theorem wE_dcall {X : Cx} {σ : L2.St} {H : Hp} {Q : VK} {j k : Nat} {sp : Sp'} {b e : Expr} {es : List Expr} {d x : Str} {dA f : Addr} {p p1 pos : Pos} (F : FRun X.prog X.w X.K X.mg X.base j f sp) (hkp : PySem.W.keepIn X.K (.ref f) = true) (c : Cok k X) (hk : j ≤ k) (hm : X.mg d = some (.ref dA)) (hd : KDct X.K X.w dA x (.ref f))
    (hb : wE X b σ H fun y H1 => y = .str x ∧ wA X (e :: es) σ H1 fun vs H2 => sp vs H2 Q) (hs : PlainIx b := by exact fun _ _ => rfl) (hg : Gl X d := by rfl) (hdb : (d == ("__debug__" : Str)) = false := by decide) (he : starEach (e :: es) X.env = (false, eval e X.env) :: starEach es X.env := by rfl) (hpl : (backTo pos (starEach es X.env)).any (·.1) = false := by rfl)
    (ht : eval (.Call (.Subscript (.Name d p) b p1) (e :: es) [] pos) X.env = (do callWith pos (← eval (.Subscript (.Name d p) b p1) X.env) [] (backTo pos (starEach (e :: es) X.env)) (backToKw pos (keywordEach [] X.env))) := by rfl) : wE X (.Call (.Subscript (.Name d p) b p1) (e :: es) [] pos) σ H Q := by
  intro pins s I
  rw [ht]
  refine wpAny_bind (thn ((pe_ix ix_kdict (pe_glob (v := .ref dA) hg hm rfl hdb) peW hs).run pins s σ H (fun v H1 => v = .ref f ∧ wA X (e :: es) σ H1 fun vs H2 => sp vs H2 Q) I (hb.imp fun y H1 ⟨ey, q⟩ => ⟨dA, x, .ref f, rfl, ey, hd, rfl, q⟩)) fun u s1 ⟨v, H1, I1, r1, ev, q⟩ => ?_)
  subst ev
  cases r1
  refine PySem.W.callWith_K (h₀ := X.base) I.ok.mod.kin hkp (thn (q pos pins s1 I1) fun us s2 ⟨vs, H2, I2, r, q1⟩ => ⟨I2.kIn, ?_⟩) he hpl
  exact g_call F c hk I2 r q1
section
variable {P : Program} {w : World} {K : PySem.W.Frag} {mg : Str → Option Value} {base : Heap} {T : List (Addr × Str)} {C : Addr}
theorem sc_one_step : FnScope ["machine", "blocks", "place", "rows", "end", "row"] ["machine", "blocks", "place"] (defScope (top 21)) := ⟨rfl, rfl, rfl, by decide +kernel, rfl, by decide +kernel, by decide +kernel⟩
def spOne (P : Program) (w : World) (K : PySem.W.Frag) (T : List (Addr × Str)) (C : Addr) : Sp' := fun vs H Q => ∃ (a : Mac) (v : V) (c : Code) (s : MS) (L : Nat) (p : Plc) (vp : V) (bd : Addr) (kvs : List (Key × V)), vs = [.ref a.m, .ref bd, vp] ∧ MOK P w K C H a v c s L ∧ DT K H vp p.d ∧ H bd = some (.dK kvs) ∧ SD K H kvs (rtsL c) ∧ OkCode c ∧ c.has p ∧ CellsIn c s.cl ∧ (∀ q ∈ s.calls, q.r ∈ rn3) ∧ L < 900 ∧ StepQ P w K T C H a v c s L p Q
theorem g_one_step (F : At K mg "one_step" 21) (B : Blt mg) (D : Dos P w K mg base T C) (Gc : GDef P w K mg base 2 "do_call" (spCallS P w K T C)) (Ge : GDef P w K mg base 3 "do_end" (spEndS P w K T C)) : GDef P w K mg base 6 "one_step" (spOne P w K T C) := by
  refine F.ok sc_one_step (fun _ _ _ _ _ _ us hl => match us, hl with | [_, _, _], _ => rfl) (fun vs H Q ⟨_, _, _, _, _, _, _, _, _, e, _⟩ => by rw [e]; rfl) fun f cdv Ar outer s H vs Q ck ⟨a, v, c, ms, L, p, vp, bd, kvs, e, M, hp, hbd, sd, oc, hh, hci, hrn, hL, q⟩ => ?_
  subst e
  obtain ⟨op, hrow⟩ := OkCode.has_row hh
  obtain ⟨bs, b, e1, e2, e3⟩ := row_inv hrow
  have hk3 : p.k ≤ b.1.length := by
    obtain ⟨b', h1, h2⟩ := hh
    unfold Code.blk at h1
    rw [e1, Option.bind_some, e2] at h1
    cases h1
    exact h2
  obtain ⟨vb, hvb, hdb⟩ := sd.some (k := .inr p.r) (by rw [rtsL_look, e1]; rfl)
  refine ws_unp2 (T := T) 3 4 (d1 := .tuple (b.1.map Op.d)) (d2 := b.2.d) ck (ed_ix (EvV.dat (ev_getK ck (ev_name 1) (ed_at0 (ed_name 2 hp)) hbd hvb) hdb) (ed_at1 (ed_name 2 hp)) (atI_map (f := Blk.d) e2)) fun w3 w4 H1 c1 g3 g4 => ?_
  have M1 := M.ex c1
  have hp1 := c1.dt hp
  refine ws_when (T := T) (k := decide ((p.k : Int) = ((b.1.map Op.d).length : Int))) (et_cmp (ec_eqI (ed_at2 (ed_name 2 hp1)) (ed_lenT B.len (ed_name 3 g3)))) (fun z H2 c2 => ?_) fun z H2 c2 => ?_
  · have hk : ¬ p.k < b.1.length := by have := of_decide_eq_true z; rw [List.length_map] at this; omega
    rw [if_neg hk] at e3
    cases e3
    obtain ⟨hok, _, _⟩ := oc.row_ok hrow
    have hend : isEnd b.2 := by
      have hfin := ((oc.bs _ (blks_mem e1)).2.2 b (List.mem_of_getElem? e2)).fin
      revert hfin
      cases b.2 <;> (intro h; first | exact True.intro | exact h.elim)
    exact ws_return (wE_cl Ge ck (wA_cons (EvV.go (T := T) (ev_name 0) .refl fun H3 c3 => wA_cons (EvD.go (T := T) (ed_name 2 ((c2.trans c3).dt hp1)) .refl fun u2 H4 c4 hu2 => wA_cons (EvD.go (T := T) (ed_name 4 (((c2.trans c3).trans c4).dt g4)) .refl fun u3 H5 c5 hu3 => wA_nil ⟨a, v, c, ms, L, p, b.2, u2, u3, rfl, M1.ex (((c2.trans c3).trans c4).trans c5), c5.dt hu2, hu3, hrow, hend, hrn, hL, fun u H' cg M' hu => q u H' ((c1.trans (((c2.trans c3).trans c4).trans c5)).then_ cg) M' hu⟩)))))
  · have hk : p.k < b.1.length := by have := of_decide_eq_false z; rw [List.length_map] at this; omega
    rw [if_pos hk] at e3
    have hrw : OkRow c op := ((oc.bs _ (blks_mem e1)).2.2 b (List.mem_of_getElem? e2)).rows op (List.mem_of_getElem? e3)
    refine ws_asg (T := T) (d := op.d) 5 ck (ed_ix (ed_name 3 (c2.dt g3)) (ed_at2 (ed_name 2 (c2.dt hp1))) (atI_map (f := Op.d) e3)) fun w5 H3 c3 g5 => ?_
    have c23 := c2.trans c3
    refine ws_when (T := T) (k := decide (op.word = "call")) (et_cmp (ec_eqS (ed_at0 (ds := .str op.word :: op.more) (ed_name 5 g5)) ed_str)) (fun z2 H4 c4 => ?_) fun z2 H4 c4 => ?_
    · obtain ⟨r, rfl⟩ := w_call (of_decide_eq_true z2)
      have c24 := c23.trans c4
      exact ws_return (wE_cl Gc ck (wA_cons (EvV.go (T := T) (ev_name 0) .refl fun H5 c5 => wA_cons (EvD.go (T := T) (ed_name 2 ((c24.trans c5).dt hp1)) .refl fun u2 H6 c6 hu2 => wA_cons (EvD.go (T := T) (ed_name 5 (((c4.trans c5).trans c6).dt g5)) .refl fun u3 H7 c7 hu3 => wA_nil ⟨a, v, c, ms, L, p, r, u2, u3, rfl, M1.ex (((c24.trans c5).trans c6).trans c7), c7.dt hu2, hu3, hrow, hL, fun u H' cg M' hu => q u H' ((c1.trans (((c24.trans c5).trans c6).trans c7)).then_ cg) M' hu⟩)))))
    · obtain ⟨dA, fd, hmD, hKD, hkp, FR⟩ := D.get hrw (of_decide_eq_false z2)
      have c24 := c23.trans c4
      refine ws_drop (wE_dcall FR hkp ck (by decide) hmD hKD (EvD.go (T := T) (ed_at0 (ds := .str op.word :: op.more) (ed_name 5 (c4.dt g5))) .refl fun u1 H5 c5 hu1 => ⟨hu1.inv_str, wA_cons (EvV.go (T := T) (ev_name 0) .refl fun H6 c6 => wA_cons (EvD.go (T := T) (ed_name 2 (((c24.trans c5).trans c6).dt hp1)) .refl fun u2 H7 c7 hu2 => wA_cons (EvD.go (T := T) (ed_name 5 ((((c4.trans c5).trans c6).trans c7).dt g5)) .refl fun u3 H8 c8 hu3 => wA_nil ⟨a, v, c, ms, L, p, op, u2, u3, rfl, M1.ex ((((c24.trans c5).trans c6).trans c7).trans c8), c8.dt hu2, hu3, oc, hrw, hci, rfl, hL, fun u H9 cg M9 => ?_⟩)))⟩))
      have d9 : Chg T (fp a) H H9 := (c1.trans ((((c24.trans c5).trans c6).trans c7).trans c8)).then_ cg
      have hp9 := d9.dt hp
      have e9 : one c ms p = (mrow c p ms op, p.next) := by
        have z2 := of_decide_eq_false z2
        cases op <;> first | (simp only [one, hrow]; done) | exact hrw.elim | exact absurd rfl z2
      exact ws_ret (T := T) (d := .tuple [.str p.r, .int p.b, .int (p.k + 1)]) (ed_tup (ea_cons (ed_at0 (ed_name 2 hp9)) (ea_cons (ed_at1 (ed_name 2 hp9)) (ea_cons (ed_add (ed_at2 (ed_name 2 hp9)) ed_int) ea_nil)))) fun u2 H10 c10 hu2 => q u2 H10 (d9.and_ c10) (by rw [e9]; exact M9.ex c10) (by rw [e9]; exact hu2)
end
end K7
/-! ## K8G -/
set_option Elab.async false
set_option linter.all false
set_option maxRecDepth 100000
set_option maxHeartbeats 4000000
/-! lay_all, __init__. -/
namespace K7
open PySem PySem.Spec PyProof.Rows L2
structure Start where
  nms : List (Str × Int)
  cls : List (Cell × Int)
def nmD (e : Str × Int) : PyData := .tuple [.str e.1, .int e.2]
def ciD (e : Cell × Int) : PyData := .tuple [e.1.d, .int e.2]
def startD : Option Start → PyData
  | none => .none
  | some s => .tuple [.tuple (s.nms.map nmD), .tuple (s.cls.map ciD)]
def layObj (cl : Cell → Option Int) (e : Str × Nat) : Cell → Option Int := (List.range e.2).foldl (fun cl k => setF cl (e.1, k) 0) cl
def layCells (cl : Cell → Option Int) (l : List (Cell × Int)) : Cell → Option Int := l.foldl (fun cl e => setF cl e.1 e.2) cl
def layAll (c : Code) (l : List (Cell × Int)) (cl : Cell → Option Int) : Cell → Option Int := layCells (c.objs.foldl layObj cl) l
section
variable {T : List (Addr × Str)} {X : Cx} {σ : L2.St} {H : Hp} {e : Expr} {D : Ends} {rest body : List Stmt} {pos p1 p2 pt : Pos} {n : Nat} {Q : VK}
/-- for x in range(e) -/
theorem ws_forR (j : Nat) {x : Str} (c : Cok n X) (hmr : X.mg "range" = none) (h : wE X e σ H fun v H1 => ∃ m : Nat, v = .int m ∧ m ≤ 100000 ∧ ∃ Pv : Nat → L2.St → Hp → Prop, Pv 0 σ H1 ∧
      (∀ i σ2 H2, i < m → Pv i σ2 H2 → wS X body { D with nx := Pv (i + 1), ct := Pv (i + 1), bk := wS X rest D } (σ2.set j (some (.int (i : Nat)))) H2) ∧ ∀ σ2 H2, Pv m σ2 H2 → wS X rest D σ2 H2)
    (hN : X.N[j]? = some x := by rfl) (hx : Loc X.env.scope x := by first | exact Or.inl rfl | exact Or.inr rfl) (hf : X.fn x = true ∨ X.env.scope.names.lookup x = some .local := by first | exact .inl rfl | exact .inr rfl)
    (hg : Gl X "range" := by rfl) (h1 : starEach [e] X.env = [(false, eval e X.env)] := by rfl) (hp : PassesOwn (model X.prog X.w) X.A X.env X.xe := by exact PassesOwn.never) (hs : ∀ x, foldedSetIterable (.Call (.Name "range" p1) [e] [] p2) X.env x = pure x := by intro _; rfl) : wS X (.For (.Name x pt) (.Call (.Name "range" p1) [e] [] p2) body [] pos :: rest) D σ H :=
  ws_for c (pi_range1 hg hmr paW h1) (pg_name c.nd hN hx hf) (wA_cons (h.imp fun v H1 ⟨m, ev, hm, Pv, h0, ht, hd⟩ => wA_nil ⟨m, by rw [ev], by omega, by omega, (m : Int).toNat, _, _, walk_range, Pv, h0, fun _ _ _ _ => True.intro, fun i x σ2 H2 H3 hi p ⟨e1, e2⟩ => by
    subst e1
    subst e2
    have e0 : (0 : Int) + (i : Int) = i := by omega
    dsimp only
    rw [e0]
    exact ht i σ2 H3 (by have : i < (m : Int).toNat := hi; omega) p, fun σ2 H2 p => hd σ2 H2 (by rw [Int.toNat_natCast] at p; exact p)⟩) h1) hp hs
end
section
variable {P : Program} {w : World} {K : PySem.W.Frag} {mg : Str → Option Value} {base : Heap} {T : List (Addr × Str)} {C : Addr}
/-! ### lay_all -/
theorem sc_lay : FnScope ["self", "cells", "name", "size", "k", "cell", "number"] ["self", "cells"] (defScope sLay) := ⟨rfl, rfl, rfl, by decide +kernel, rfl, by decide +kernel, by decide +kernel⟩
def spLay (P : Program) (w : World) (K : PySem.W.Frag) (T : List (Addr × Str)) (C : Addr) : Sp' := fun vs H Q => ∃ (a : Mac) (v : V) (c : Code) (s : MS) (L : Nat) (l : List (Cell × Int)) (vl : V), vs = [.ref a.m, vl] ∧ MOK P w K C H a v c s L ∧ DT K H vl (.tuple (l.map ciD)) ∧ OkCode c ∧ l.length ≤ 20 ∧ L ≤ 100 ∧
  ∀ H', Chg T (fp a) H H' → MOK P w K C H' a v c { s with cl := layAll c l s.cl } (L + 30) → Q .non H'
theorem r_lay {f : Addr} (F : FAt K f "lay_all" "Machine.lay_all" sLay) (B : Blt mg) (k : Cl K C) : FRun P w K mg base 1 f (spLay P w K T C) := by
  refine F.run sc_lay (fun _ _ _ _ _ _ us hl => match us, hl with | [_, _], _ => rfl) (fun vs H Q ⟨_, _, _, _, _, _, _, e, _⟩ => by rw [e]; rfl) fun cdv Ar outer s H vs Q ck ⟨a, v, c, ms, L, l, vl, e, M, hvl, oc, hz, hL, q⟩ => ?_
  subst e
  have ho3 := oc.len
  refine ws_forT2 (T := T) (ss := c.objs.map obD) 2 3 ck (ed_at0 (ev_code k M (ev_name 0))) fun H1 c1 => ⟨fun i σ2 H2 => ∃ u2 u3 u4, σ2 = [some (.ref a.m), some vl, u2, u3, u4, none, none] ∧ Chg T (fp a) H1 H2 ∧ MOK P w K C H2 a v c { ms with cl := (c.objs.take i).foldl layObj ms.cl } (L + 3 * i), ⟨none, none, none, rfl, .refl, M.ex c1⟩, fun i σ2 H2 ⟨_, _, _, _, c2, _⟩ => c2.tup, fun i d σ2 H2 hd ⟨u2, u3, u4, eσ, c2, M2⟩ => ?_, fun σ2 H2 ⟨u2, u3, u4, eσ, c2, M2⟩ => ?_⟩
  · subst eσ
    rw [List.getElem?_map] at hd
    obtain ⟨⟨x, m⟩, hx, rfl⟩ := Option.map_eq_some_iff.mp hd
    have hm3 : m ≤ 3 := (oc.ws _ (List.mem_of_getElem? hx)).2.2
    have hi3 : i < 3 := Nat.lt_of_lt_of_le (List.getElem?_eq_some_iff.mp hx).1 ho3
    refine ⟨.str x, .int m, rfl, fun v1 v2 g1 g2 => ?_⟩
    rw [g1.inv_str, g2.inv_int]
    refine ws_forR 4 ck B.range (EvD.go (T := T) (ed_name 3 (.int (m : Int))) .refl fun u H3 c3 hu => ⟨m, hu.inv_int, by omega, fun j σ3 H4 => ∃ u4, σ3 = [some (.ref a.m), some vl, some (.str x), some (.int m), u4, none, none] ∧ Chg T (fp a) H1 H4 ∧ MOK P w K C H4 a v c { ms with cl := (List.range j).foldl (fun cl k => setF cl (x, k) 0) ((c.objs.take i).foldl layObj ms.cl) } (L + 3 * i + j), ⟨u4, rfl, c2.and_ c3, M2.ex c3⟩, fun j σ3 H4 hj ⟨u5, eσ, c4, M4⟩ => ?_, fun σ3 H4 ⟨u5, eσ, c4, M4⟩ => wS_nil ⟨_, _, u5, eσ, c4, ?_⟩⟩)
    · subst eσ
      obtain ⟨kvt, t1, t2, t3, t4⟩ := M4.cl.ex
      refine ws_putT (T := T) (ks := cellK (x, j)) (v := .int 0) ck (EvD.val ed_int) (ev_cl k M4 (ev_name 0)) (ed_tup (ds := [.str x, .int j]) (ea_cons (ed_name 2 (.str x)) (ea_cons (ed_name 4 (.int _)) ea_nil))) t1 (by omega) fun H5 c5 t5 => wS_nil ⟨_, rfl, c4.trans (fp_mc c5), ?_⟩
      rw [List.range_succ, List.foldl_append]
      exact M4.setCl c5 (ClAt.put t2 t3 t4 t5) (by omega)
    · rw [take_snoc hx, List.foldl_append]
      exact M4.le (by omega)
  · subst eσ
    rw [List.length_map, List.take_length] at M2
    have M2' := M2.le (show L + 3 * c.objs.length ≤ L + 10 by omega)
    refine ws_forT2 (T := T) (ss := l.map ciD) 5 6 ck (ed_name 1 (c2.dt (c1.dt hvl))) fun H3 c3 => ⟨fun i σ2 H4 => ∃ u5 u6, σ2 = [some (.ref a.m), some vl, u2, u3, u4, u5, u6] ∧ Chg T (fp a) H3 H4 ∧ MOK P w K C H4 a v c { ms with cl := layCells (c.objs.foldl layObj ms.cl) (l.take i) } (L + 10 + i), ⟨none, none, rfl, .refl, M2'.ex c3⟩, fun i σ2 H2 ⟨_, _, _, c2, _⟩ => c2.tup, fun i d σ2 H4 hd ⟨u5, u6, eσ, c4, M4⟩ => ?_, fun σ2 H4 ⟨u5, u6, eσ, c4, M4⟩ => wS_nil (q H4 ((c1.then_ c2).trans (c3.then_ c4)) ?_)⟩
    · subst eσ
      rw [List.getElem?_map] at hd
      obtain ⟨⟨x, m⟩, hx, rfl⟩ := Option.map_eq_some_iff.mp hd
      have hi3 : i < 20 := Nat.lt_of_lt_of_le (List.getElem?_eq_some_iff.mp hx).1 hz
      refine ⟨x.d, .int m, rfl, fun v1 v2 g1 g2 => ?_⟩
      rw [g2.inv_int]
      obtain ⟨kvt, t1, t2, t3, t4⟩ := M4.cl.ex
      refine ws_putT (T := T) (ks := cellK x) (v := .int m) ck (EvD.val (ed_name 6 (.int m))) (ev_cl k M4 (ev_name 0)) (ed_name 5 g1) t1 (by omega) fun H5 c5 t5 => wS_nil ⟨_, _, rfl, c4.trans (fp_mc c5), ?_⟩
      have e : layCells (c.objs.foldl layObj ms.cl) (l.take (i + 1)) = setF (layCells (c.objs.foldl layObj ms.cl) (l.take i)) x m := by
        unfold layCells
        rw [take_snoc hx, List.foldl_append]
        rfl
      rw [e]
      exact M4.setCl c5 (ClAt.put t2 t3 t4 t5) (by omega)
    · rw [List.length_map, List.take_length] at M4
      exact M4.le (by omega)
end
end K7
/-! ## K8H -/
set_option Elab.async false
set_option linter.all false
set_option maxRecDepth 100000
set_option maxHeartbeats 4000000
/-! __init__. -/
namespace K7
open PySem PySem.Spec PyProof.Rows L2
def Start.nm (s : Start) : Str → Option Int := fun x => (s.nms.find? fun e => decide (e.1 = x)).map (·.2)
def nmO : Option Start → Str → Option Int
  | none => fun _ => none
  | some s => s.nm
def clO : Option Start → List (Cell × Int)
  | none => []
  | some s => s.cls
def nmsO : Option Start → List (Str × Int)
  | none => []
  | some s => s.nms
structure OkStart (c : Code) (s : Option Start) : Prop where
  nd : ((nmsO s).map (·.1)).Nodup
  len : (nmsO s).length ≤ 4
  cl : (clO s).length ≤ 20
def s0 (c : Code) (s : Option Start) (fuel : Nat) : MS := ⟨nmO s, layAll c (clO s) fun _ => none, [], [], fuel, ""⟩
def nmL (l : List (Str × Int)) : List (Key × PyData) := l.map fun e => (.inr e.1, .int e.2)
theorem nmL_d (l : List (Str × Int)) : (nmL l).map (fun e => PyData.tuple [kD e.1, e.2]) = l.map nmD := by unfold nmL nmD; rw [List.map_map]; rfl
theorem nmL_look (l : List (Str × Int)) (x : Str) : lookD (nmL l) (.inr x) = ((l.find? fun e => decide (e.1 = x)).map (·.2)).map fun i => .int i := look_map (fun i : Int => .int i) x l
theorem nmO_eq (s : Option Start) (x : Str) : nmO s x = ((nmsO s).find? fun e => decide (e.1 = x)).map (·.2) := by cases s <;> rfl
section
variable {T : List (Addr × Str)} {X : Cx} {σ : L2.St} {H : Hp} {o value : Expr} {D : Ends} {rest : List Stmt} {pos p' : Pos} {C m dx : Addr} {f : Str}
theorem ws_fld (k : Cl X.K C) (hf : f ∈ (["code_here", "by_names", "in_cells", "heard_now", "steps_now", "calls_now", "fuel_left", "word"] : List Str)) (h : wE X value σ H fun v H1 => wE X o σ H1 fun x H2 => ∃ fs, x = .ref m ∧ H2 m = some (.ins C dx fs) ∧ fs.length < 1000 ∧ wS X rest D σ (upd H2 m (.ins C dx (putF f v fs))))
    (hs : swapsWith value (some (.Attribute o f p')) pos.line X.env = pure false := by rfl) : wS X (.Assign [.Attribute o f p'] value pos :: rest) D σ H :=
  wS_cons (ps_fld peW peW hs) (h.imp fun v H1 q => q.imp fun x H2 ⟨fs, e, h2, hl, q⟩ => ⟨m, C, dx, fs, e, h2, k.cl, k.na f hf, hl, q⟩)
end
section
variable {P : Program} {w : World} {K : PySem.W.Frag} {mg : Str → Option Value} {base : Heap} {T : List (Addr × Str)} {C : Addr}
theorem sc_init : FnScope ["self", "code", "start", "fuel", "names", "cells"] ["self", "code", "start", "fuel"] (defScope sInit) := ⟨rfl, rfl, rfl, by decide +kernel, rfl, by decide +kernel, by decide +kernel⟩
def spInit (P : Program) (w : World) (K : PySem.W.Frag) (T : List (Addr × Str)) (C : Addr) : Sp' := fun vs H Q => ∃ (m dx : Addr) (c : Code) (s : Option Start) (fuel : Nat) (vc vs' : V), vs = [.ref m, vc, vs', .int fuel] ∧ H m = some (.ins C dx []) ∧ DT K H vc c.d ∧ DT K H vs' (startD s) ∧ OkCode c ∧ OkStart c s ∧
  ∀ a v H', a.m = m → (∀ x ∈ fp a, x = m ∨ H x = none) → Chg T (fp a) H H' → MOK P w K C H' a v c (s0 c s fuel) 50 → Q .non H'
theorem r_init {f : Addr} (F : FAt K f "__init__" "Machine.__init__" sInit) (B : Blt mg) (k : Cl K C) {fl : Addr} (ml : Meth K C "lay_all" fl) (Fl : FRun P w K mg base 1 fl (spLay P w K T C)) : FRun P w K mg base 2 f (spInit P w K T C) := by
  refine F.run sc_init (fun _ _ _ _ _ _ us hl => match us, hl with | [_, _, _, _], _ => rfl) (fun vs H Q ⟨_, _, _, _, _, _, _, e, _⟩ => by rw [e]; rfl) fun cdv Ar outer s H vs Q ck ⟨m, dx, c, st, fuel, vc, vst, e, hm, hc, hst, oc, os, q⟩ => ?_
  subst e
  refine ws_unp2 (T := T) (d1 := .tuple ((nmsO st).map nmD)) (d2 := .tuple ((clO st).map ciD)) 4 5 ck (ed_if (k := isNon (startD st)) (et_cmp (ec_isN (ed_name 2 hst))) (fun z => ?_) fun z => ?_) fun vn vl H1 c1 hvn hvl => ?_
  · cases st with
    | none => exact ed_tup (ds := [.tuple [], .tuple []]) (ea_cons (ed_tup ea_nil) (ea_cons (ed_tup ea_nil) ea_nil))
    | some st => cases z
  · cases st with
    | none => cases z
    | some st => exact ed_name 2 hst
  have hm1 := c1.get hm
  -- code_here
  refine ws_fld (m := m) (dx := dx) k (by simp) (EvD.go (T := T) (ed_name 1 (c1.dt hc)) .refl fun v H2 c2 hv => EvV.go (T := T) (ev_name 0) .refl fun H3 c3 => ⟨[], rfl, (c2.trans c3).get hm1, by decide, ?_⟩)
  have c13 : Ex T H H3 := (c1.trans c2).trans c3
  have g4 : Chg T [m] H3 (upd H3 m (.ins C dx (putF "code_here" v []))) := .set (c13.get hm) wr_ins (by simp)
  have d4 : Chg T [m] H (upd H3 m (.ins C dx (putF "code_here" v []))) := c13.then_ g4
  have hv4 := g4.dt (c3.dt hv)
  have m4 : (upd H3 m (.ins C dx (putF "code_here" v []))) m = some (.ins C dx [("code_here", v)]) := by rw [upd_same]; rfl
  generalize upd H3 m (.ins C dx (putF "code_here" v [])) = H4 at *
  have fr4 : ∀ x, H4 x = none → H x = none := d4.back
  -- by_names
  refine ws_fld (m := m) (dx := dx) k (by simp) (wE_dictK (T := T) (l := nmL (nmsO st)) ck B.dict ((ed_name 4 (g4.dt ((c2.trans c3).dt hvn))).is (by rw [nmL_d])) ?_ ?_ fun nd H5 kvs hnd c5 h5 sd5 => EvV.go (T := T) (ev_name 0) .refl fun H6 c6 => ⟨_, rfl, (c5.trans c6).get m4, by simp, ?_⟩)
  · have := nd_inr os.nd
    unfold nmL
    rw [List.map_map] at this ⊢
    exact this
  · unfold nmL; rw [List.length_map]; have := os.len; omega
  have c46 := c5.trans c6
  have g7 : Chg T [m] H6 (upd H6 m (.ins C dx (putF "by_names" (.ref nd) [("code_here", v)]))) := .set (c46.get m4) wr_ins (by simp)
  have hndm : nd ≠ m := fun z => by rw [z, m4] at hnd; cases hnd
  have d7 : Chg T [m] H (upd H6 m (.ins C dx (putF "by_names" (.ref nd) [("code_here", v)]))) := (d4.and_ c46).trans g7
  have hv7 := g7.dt (c46.dt hv4)
  have n7 : NmAt (upd H6 m (.ins C dx (putF "by_names" (.ref nd) [("code_here", v)]))) nd 10 (nmO st) := by
    refine ⟨kvs, g7.get (c6.get h5) (by simpa using hndm), ?_, fun x => ?_⟩
    · have h6 : kvs.length = (nmL (nmsO st)).length := Paired.length sd5
      rw [h6]; unfold nmL; rw [List.length_map]; have := os.len; omega
    · have h6 := sd5.val (.inr x : Key)
      rw [nmL_look, ← nmO_eq] at h6
      cases hx : nmO st x with
      | none => rw [hx] at h6; exact h6
      | some i => rw [hx] at h6; obtain ⟨v', e1, e2⟩ := h6; rw [e1, e2.inv_int]; rfl
  have m7 : (upd H6 m (.ins C dx (putF "by_names" (.ref nd) [("code_here", v)]))) m = some (.ins C dx [("code_here", v), ("by_names", .ref nd)]) := by rw [upd_same]; rfl
  have fnd : H nd = none := fr4 nd hnd
  have hnd7 : (upd H6 m (.ins C dx (putF "by_names" (.ref nd) [("code_here", v)]))) nd ≠ none := by obtain ⟨_, h8, _⟩ := n7.ex; rw [h8]; simp
  have hvl7 := g7.dt (c46.dt (g4.dt ((c2.trans c3).dt hvl)))
  generalize upd H6 m (.ins C dx (putF "by_names" (.ref nd) [("code_here", v)])) = H7 at *
  -- in_cells
  refine ws_fld (m := m) (dx := dx) k (by simp) (wE_newT (T := T) fun cd H8 hcd c8 t8 => EvV.go (T := T) (ev_name 0) .refl fun H9 c9 => ⟨_, rfl, (c8.trans c9).get m7, by simp, ?_⟩)
  have hcdm : cd ≠ m := fun z => by rw [z, m7] at hcd; cases hcd
  have hcdn : nd ≠ cd := fun z => by rw [← z] at hcd; exact hnd7 hcd
  have c79 := c8.trans c9
  have g10 : Chg T [m] H9 (upd H9 m (.ins C dx (putF "in_cells" (.ref cd) [("code_here", v), ("by_names", .ref nd)]))) := .set (c79.get m7) wr_ins (by simp)
  have d10 : Chg T [m] H _ := (d7.and_ c79).trans g10
  have hv10 := g10.dt (c79.dt hv7)
  have n10 := n7.keep (c79.then_ g10) (by simpa using hndm)
  have t10 := (t8.keep c9 (by simp)).keep g10 (by simpa using hcdm)
  have m10 : (upd H9 m (.ins C dx (putF "in_cells" (.ref cd) [("code_here", v), ("by_names", .ref nd)]))) m = some (.ins C dx [("code_here", v), ("by_names", .ref nd), ("in_cells", .ref cd)]) := by rw [upd_same]; rfl
  have hvl10 := g10.dt (c79.dt hvl7)
  have fcd : H cd = none := d7.back cd hcd
  have hnd10 : (upd H9 m (.ins C dx (putF "in_cells" (.ref cd) [("code_here", v), ("by_names", .ref nd)]))) nd ≠ none := by obtain ⟨_, h8, _⟩ := n10.ex; rw [h8]; simp
  have hcd10 : (upd H9 m (.ins C dx (putF "in_cells" (.ref cd) [("code_here", v), ("by_names", .ref nd)]))) cd ≠ none := by obtain ⟨⟨_, h8, _⟩, _⟩ := t10; rw [h8]; simp
  generalize upd H9 m (.ins C dx (putF "in_cells" (.ref cd) [("code_here", v), ("by_names", .ref nd)])) = H10 at *
  -- heard_now
  refine ws_fld (m := m) (dx := dx) k (by simp) (EvL.go (T := T) (el_lst ea_nil) .refl fun hd H11 vs11 ds11 hhd c11 h11 e11 hv11 _ => EvV.go (T := T) (ev_name 0) .refl fun H12 c12 => ⟨_, rfl, (c11.trans c12).get m10, by simp, ?_⟩)
  subst e11
  cases hv11
  have hhm : hd ≠ m := fun z => by rw [z, m10] at hhd; cases hhd
  have hhn : nd ≠ hd := fun z => by rw [← z] at hhd; exact hnd10 hhd
  have hhc : cd ≠ hd := fun z => by rw [← z] at hhd; exact hcd10 hhd
  have c1012 := c11.trans c12
  have g13 : Chg T [m] H12 (upd H12 m (.ins C dx (putF "heard_now" (.ref hd) [("code_here", v), ("by_names", .ref nd), ("in_cells", .ref cd)]))) := .set (c1012.get m10) wr_ins (by simp)
  have d13 : Chg T [m] H _ := (d10.and_ c1012).trans g13
  have hv13 := g13.dt (c1012.dt hv10)
  have n13 := n10.keep (c1012.then_ g13) (by simpa using hndm)
  have t13 := t10.keep (c1012.then_ g13) (by simpa using hcdm)
  have hd13 := g13.get (c12.get h11) (by simpa using hhm)
  have m13 : (upd H12 m (.ins C dx (putF "heard_now" (.ref hd) [("code_here", v), ("by_names", .ref nd), ("in_cells", .ref cd)]))) m = some (.ins C dx [("code_here", v), ("by_names", .ref nd), ("in_cells", .ref cd), ("heard_now", .ref hd)]) := by rw [upd_same]; rfl
  have hvl13 := g13.dt (c1012.dt hvl10)
  have fhd : H hd = none := d10.back hd hhd
  have hnd13 : (upd H12 m (.ins C dx (putF "heard_now" (.ref hd) [("code_here", v), ("by_names", .ref nd), ("in_cells", .ref cd)]))) nd ≠ none := by obtain ⟨_, h8, _⟩ := n13.ex; rw [h8]; simp
  have hcd13 : (upd H12 m (.ins C dx (putF "heard_now" (.ref hd) [("code_here", v), ("by_names", .ref nd), ("in_cells", .ref cd)]))) cd ≠ none := by obtain ⟨⟨_, h8, _⟩, _⟩ := t13; rw [h8]; simp
  generalize upd H12 m (.ins C dx (putF "heard_now" (.ref hd) [("code_here", v), ("by_names", .ref nd), ("in_cells", .ref cd)])) = H13 at *
  -- steps_now
  refine ws_fld (m := m) (dx := dx) k (by simp) (EvL.go (T := T) (el_lst ea_nil) .refl fun sd H14 vs14 ds14 hsd c14 h14 e14 hv14 _ => EvV.go (T := T) (ev_name 0) .refl fun H15 c15 => ⟨_, rfl, (c14.trans c15).get m13, by simp, ?_⟩)
  subst e14
  cases hv14
  have hsm : sd ≠ m := fun z => by rw [z, m13] at hsd; cases hsd
  have hsn : nd ≠ sd := fun z => by rw [← z] at hsd; exact hnd13 hsd
  have hsc : cd ≠ sd := fun z => by rw [← z] at hsd; exact hcd13 hsd
  have hsh : hd ≠ sd := fun z => by rw [← z, hd13] at hsd; cases hsd
  have c1315 := c14.trans c15
  have g16 : Chg T [m] H15 (upd H15 m (.ins C dx (putF "steps_now" (.ref sd) [("code_here", v), ("by_names", .ref nd), ("in_cells", .ref cd), ("heard_now", .ref hd)]))) := .set (c1315.get m13) wr_ins (by simp)
  have d16 : Chg T [m] H _ := (d13.and_ c1315).trans g16
  have hv16 := g16.dt (c1315.dt hv13)
  have n16 := n13.keep (c1315.then_ g16) (by simpa using hndm)
  have t16 := t13.keep (c1315.then_ g16) (by simpa using hcdm)
  have hd16 := g16.get (c1315.get hd13) (by simpa using hhm)
  have sd16 := g16.get (c15.get h14) (by simpa using hsm)
  have m16 : (upd H15 m (.ins C dx (putF "steps_now" (.ref sd) [("code_here", v), ("by_names", .ref nd), ("in_cells", .ref cd), ("heard_now", .ref hd)]))) m = some (.ins C dx [("code_here", v), ("by_names", .ref nd), ("in_cells", .ref cd), ("heard_now", .ref hd), ("steps_now", .ref sd)]) := by rw [upd_same]; rfl
  have hvl16 := g16.dt (c1315.dt hvl13)
  have fsd : H sd = none := d13.back sd hsd
  have hnd16 : (upd H15 m (.ins C dx (putF "steps_now" (.ref sd) [("code_here", v), ("by_names", .ref nd), ("in_cells", .ref cd), ("heard_now", .ref hd)]))) nd ≠ none := by obtain ⟨_, h8, _⟩ := n16.ex; rw [h8]; simp
  have hcd16 : (upd H15 m (.ins C dx (putF "steps_now" (.ref sd) [("code_here", v), ("by_names", .ref nd), ("in_cells", .ref cd), ("heard_now", .ref hd)]))) cd ≠ none := by obtain ⟨⟨_, h8, _⟩, _⟩ := t16; rw [h8]; simp
  generalize upd H15 m (.ins C dx (putF "steps_now" (.ref sd) [("code_here", v), ("by_names", .ref nd), ("in_cells", .ref cd), ("heard_now", .ref hd)])) = H16 at *
  -- calls_now
  refine ws_fld (m := m) (dx := dx) k (by simp) (EvL.go (T := T) (el_lst ea_nil) .refl fun ld H17 vs17 ds17 hld c17 h17 e17 hv17 _ => EvV.go (T := T) (ev_name 0) .refl fun H18 c18 => ⟨_, rfl, (c17.trans c18).get m16, by simp, ?_⟩)
  subst e17
  cases hv17
  have hlm : ld ≠ m := fun z => by rw [z, m16] at hld; cases hld
  have hln : nd ≠ ld := fun z => by rw [← z] at hld; exact hnd16 hld
  have hlc : cd ≠ ld := fun z => by rw [← z] at hld; exact hcd16 hld
  have hlh : hd ≠ ld := fun z => by rw [← z, hd16] at hld; cases hld
  have hls : sd ≠ ld := fun z => by rw [← z, sd16] at hld; cases hld
  have c1618 := c17.trans c18
  have g19 : Chg T [m] H18 (upd H18 m (.ins C dx (putF "calls_now" (.ref ld) [("code_here", v), ("by_names", .ref nd), ("in_cells", .ref cd), ("heard_now", .ref hd), ("steps_now", .ref sd)]))) := .set (c1618.get m16) wr_ins (by simp)
  have d19 : Chg T [m] H _ := (d16.and_ c1618).trans g19
  have hv19 := g19.dt (c1618.dt hv16)
  have n19 := n16.keep (c1618.then_ g19) (by simpa using hndm)
  have t19 := t16.keep (c1618.then_ g19) (by simpa using hcdm)
  have hd19 := g19.get (c1618.get hd16) (by simpa using hhm)
  have sd19 := g19.get (c1618.get sd16) (by simpa using hsm)
  have ld19 := g19.get (c18.get h17) (by simpa using hlm)
  have m19 : (upd H18 m (.ins C dx (putF "calls_now" (.ref ld) [("code_here", v), ("by_names", .ref nd), ("in_cells", .ref cd), ("heard_now", .ref hd), ("steps_now", .ref sd)]))) m = some (.ins C dx [("code_here", v), ("by_names", .ref nd), ("in_cells", .ref cd), ("heard_now", .ref hd), ("steps_now", .ref sd), ("calls_now", .ref ld)]) := by rw [upd_same]; rfl
  have hvl19 := g19.dt (c1618.dt hvl16)
  have fld : H ld = none := d16.back ld hld
  generalize upd H18 m (.ins C dx (putF "calls_now" (.ref ld) [("code_here", v), ("by_names", .ref nd), ("in_cells", .ref cd), ("heard_now", .ref hd), ("steps_now", .ref sd)])) = H19 at *
  -- fuel_left
  refine ws_fld (m := m) (dx := dx) k (by simp) (EvV.go (T := T) (ev_name 3) .refl fun H20 c20 => EvV.go (T := T) (ev_name 0) .refl fun H21 c21 => ⟨_, rfl, (c20.trans c21).get m19, by simp, ?_⟩)
  have c1921 := c20.trans c21
  have g22 : Chg T [m] H21 (upd H21 m (.ins C dx (putF "fuel_left" (.int fuel) [("code_here", v), ("by_names", .ref nd), ("in_cells", .ref cd), ("heard_now", .ref hd), ("steps_now", .ref sd), ("calls_now", .ref ld)]))) := .set (c1921.get m19) wr_ins (by simp)
  have e22 : Chg T [m] H19 _ := c1921.then_ g22
  have m22 : (upd H21 m (.ins C dx (putF "fuel_left" (.int fuel) [("code_here", v), ("by_names", .ref nd), ("in_cells", .ref cd), ("heard_now", .ref hd), ("steps_now", .ref sd), ("calls_now", .ref ld)]))) m = some (.ins C dx [("code_here", v), ("by_names", .ref nd), ("in_cells", .ref cd), ("heard_now", .ref hd), ("steps_now", .ref sd), ("calls_now", .ref ld), ("fuel_left", .int fuel)]) := by rw [upd_same]; rfl
  generalize upd H21 m (.ins C dx (putF "fuel_left" (.int fuel) [("code_here", v), ("by_names", .ref nd), ("in_cells", .ref cd), ("heard_now", .ref hd), ("steps_now", .ref sd), ("calls_now", .ref ld)])) = H22 at *
  -- word
  refine ws_fld (m := m) (dx := dx) k (by simp) (EvV.go (T := T) (EvD.vs ed_str) .refl fun H23 c23 => EvV.go (T := T) (ev_name 0) .refl fun H24 c24 => ⟨_, rfl, (c23.trans c24).get m22, by simp, ?_⟩)
  have c2224 := c23.trans c24
  have g25 : Chg T [m] H24 (upd H24 m (.ins C dx (putF "word" (.str "") [("code_here", v), ("by_names", .ref nd), ("in_cells", .ref cd), ("heard_now", .ref hd), ("steps_now", .ref sd), ("calls_now", .ref ld), ("fuel_left", .int fuel)]))) := .set (c2224.get m22) wr_ins (by simp)
  have e25 : Chg T [m] H19 _ := (e22.and_ c2224).trans g25
  have m25 : (upd H24 m (.ins C dx (putF "word" (.str "") [("code_here", v), ("by_names", .ref nd), ("in_cells", .ref cd), ("heard_now", .ref hd), ("steps_now", .ref sd), ("calls_now", .ref ld), ("fuel_left", .int fuel)]))) m = some (.ins C dx (flds ⟨m, dx, nd, cd, hd, sd, ld⟩ v fuel "")) := by rw [upd_same]; rfl
  generalize upd H24 m (.ins C dx (putF "word" (.str "") [("code_here", v), ("by_names", .ref nd), ("in_cells", .ref cd), ("heard_now", .ref hd), ("steps_now", .ref sd), ("calls_now", .ref ld), ("fuel_left", .int fuel)])) = H25 at *
  have M : MOK P w K C H25 ⟨m, dx, nd, cd, hd, sd, ld⟩ v c ⟨nmO st, fun _ => none, [], [], fuel, ""⟩ 10 :=
    ⟨m25, e25.dt hv19, n19.keep e25 (by simpa using hndm), ⟨[], t19.keep e25 (by simpa using hcdm), by decide, fun _ => rfl, fun e he => (nomatch he)⟩, ⟨[], e25.get hd19 (by simpa using hhm), by decide⟩, ⟨[], e25.get sd19 (by simpa using hsm), .nil, by decide⟩, ⟨[], e25.get ld19 (by simpa using hlm), .nil, by decide⟩,
      ⟨hndm.symm, hcdm.symm, hhm.symm, hsm.symm, hlm.symm, hcdn, hhn, hsn, hln, hhc, hsc, hlc, hsh, hlh, hls⟩⟩
  have d25 : Chg T (fp ⟨m, dx, nd, cd, hd, sd, ld⟩) H H25 := fp_mm (a := ⟨m, dx, nd, cd, hd, sd, ld⟩) (d19.trans e25)
  refine ws_drop (wE_meth ck k.cl ml Fl (by decide) (EvV.go (T := T) (ev_name 0) .refl fun H26 c26 => ⟨m, dx, _, rfl, c26.get m25, flds_no (a := ⟨m, dx, nd, cd, hd, sd, ld⟩) (by decide +kernel), wA_cons (EvD.go (T := T) (ed_name 5 (c26.dt (e25.dt hvl19))) .refl fun vl2 H27 c27 hvl2 => wA_nil ⟨_, v, c, _, 10, clO st, vl2, rfl, M.ex (c26.trans c27), hvl2, oc, os.cl, by decide, fun H28 c28 M28 => wS_nil ?_⟩)⟩))
  refine q _ v H28 rfl (fun x hx => ?_) ((d25.and_ (c26.trans c27)).trans c28) (M28.le (by decide))
  simp only [fp, List.mem_cons, List.mem_nil_iff, or_false] at hx
  rcases hx with h | h | h | h | h | h
  · exact .inl h
  · exact .inr (h ▸ fnd)
  · exact .inr (h ▸ fcd)
  · exact .inr (h ▸ fhd)
  · exact .inr (h ▸ fsd)
  · exact .inr (h ▸ fld)
end
end K7
/-! ## K8I -/
set_option Elab.async false
set_option linter.all false
set_option maxRecDepth 100000
set_option maxHeartbeats 4000000
/-! A run, plainly. -/
namespace K7
open PySem PySem.Spec PyProof.Rows L2
inductive Runs (c : Code) : MS → Plc → MS → Prop
  | stop {s : MS} {p : Plc} : s.word ≠ "" → Runs c s p s
  | step {s s' : MS} {p : Plc} : s.word = "" → Runs c (one c s p).1 (one c s p).2 s' → Runs c s p s'
theorem Runs.det {c : Code} {s s1 s2 : MS} {p : Plc} (h1 : Runs c s p s1) : Runs c s p s2 → s1 = s2 := by
  induction h1 with
  | stop hw => intro h2; cases h2 with
    | stop _ => rfl
    | step h _ => exact absurd h hw
  | step hw _ ih => intro h2; cases h2 with
    | stop h => exact absurd hw h
    | step _ h => exact ih h
structure Ivt (c : Code) (s : MS) (p : Plc) : Prop where
  good : Good c s.steps
  has : s.word = "" → c.has p
  cs : ∀ q ∈ s.calls, c.has q
  cells : CellsIn c s.cl
  at_ : s.word = "" → st c s.steps = (some p, s.calls)
  op_ : s.word ≠ "" → s.word ≠ "ends" → ∃ q, (st c s.steps).1 = some q
  ends : s.word = "ends" → (st c s.steps).1 = none
def rem (c : Code) (p : Plc) : Nat := match c.blk p with
  | some b => b.1.length - p.k
  | none => 0
def sumR (c : Code) (l : List Plc) : Nat := (l.map fun q => rem c q + 1).sum
def mu (c : Code) (s : MS) (p : Plc) : Nat := if s.word = "" then 1 + s.fuel * 10 + sumR c s.calls + rem c p else 0
theorem rem_le {c : Code} (oc : OkCode c) {p : Plc} (h : c.has p) : rem c p ≤ 3 := by
  obtain ⟨b, h1, h2⟩ := h
  unfold rem
  rw [h1]
  unfold Code.blk at h1
  cases h5 : c.blks p.r with
  | none => rw [h5] at h1; cases h1
  | some bs =>
    rw [h5, Option.bind_some] at h1
    have := ((oc.bs _ (blks_mem h5)).2.2 b (List.mem_of_getElem? h1)).len
    show b.1.length - p.k ≤ 3
    omega
theorem rem_next {c : Code} (oc : OkCode c) {p : Plc} {op : Op} (h : c.has p) (hr : c.row p = some op) (ho : OkRow c op) : rem c p.next + 1 = rem c p := by
  obtain ⟨b, h1, h2⟩ := next_has oc h hr ho
  have e : c.blk p = some b := h1
  unfold rem
  rw [h1, e]
  have : p.k + 1 ≤ b.1.length := h2
  show b.1.length - (p.k + 1) + 1 = b.1.length - p.k
  omega
theorem sumR_snoc (c : Code) (l : List Plc) (q : Plc) : sumR c (l ++ [q]) = sumR c l + (rem c q + 1) := by
  unfold sumR
  rw [List.map_append, List.sum_append]
  simp
theorem metCell_face {c : Code} {nm : Str → Option Int} {a : Adr} {k : Cell} (h : metCell c nm a = some k) : k ∈ c.face a := by
  unfold metCell at h
  split at h
  · rename_i hp
    split at h
    · rename_i w' hw
      split at h
      · rename_i m hm
        split at h
        · rename_i h2
          cases h
          rw [face_eq]
          refine List.mem_flatMap.mpr ⟨w', ?_, ?_⟩
          · unfold words_of
            cases hpk : a.pick with
            | num i =>
              rw [hpk] at hw
              have hw : a.objs[i.toNat]? = some w' := hw
              show w' ∈ (a.objs[i.toNat]?).toList
              rw [hw]; simp
            | nm y => exact List.mem_of_getElem? hw
          · unfold faceW
            refine List.mem_map.mpr ⟨(amt nm a.ix).toNat, List.mem_filter.mpr ⟨?_, ?_⟩, rfl⟩
            · rw [hm]; exact List.mem_range.mpr (by show (amt nm a.ix).toNat < m; omega)
            · cases hix : a.ix with
              | num i =>
                rw [hix] at h2
                have : amt nm (.num i) = i := rfl
                rw [this] at h2
                show decide ((((amt nm (.num i)).toNat : Nat) : Int) = i) = true
                rw [this]
                exact decide_eq_true (by omega)
              | nm y => rfl
        · cases h
      · cases h
    · cases h
  · cases h
theorem setF_some {α : Type} [DecidableEq α] {f : α → Option Int} {x y : α} {i : Int} (h : (f y).isSome = true) : (setF f x i y).isSome = true := by
  unfold setF
  split
  · rfl
  · exact h
theorem ends_ne : ("" : Str) ≠ "ends" := by decide
theorem fault_ne : ("fault" : Str) ≠ "ends" := by decide
theorem fuel_ne : ("fuel" : Str) ≠ "ends" := by decide
theorem fault_ne0 : ("fault" : Str) ≠ "" := by decide
theorem fuel_ne0 : ("fuel" : Str) ≠ "" := by decide
theorem ends_ne0 : ("ends" : Str) ≠ "" := by decide
/-- a row that is done, kept as a step -/
theorem ivt_row {c : Code} {s : MS} {p : Plc} {op : Op} {ch : Chc} {s' : MS} (oc : OkCode c) (iv : Ivt c s p) (hw : s.word = "") (hrow : c.row p = some op) (ho : OkRow c op) (hc : ch ∈ c.chs op) (hl : led p ch s.calls op = (some p.next, s.calls))
    (e1 : s'.steps = s.steps ++ [(p, ch)]) (e2 : s'.calls = s.calls) (e3 : s'.fuel = s.fuel) (e4 : s'.word = s.word) (e5 : CellsIn c s'.cl) : Ivt c s' p.next ∧ mu c s' p.next < mu c s p := by
  have hst := iv.at_ hw
  have hhas := iv.has hw
  refine ⟨⟨?_, fun _ => next_has oc hhas hrow ho, by rw [e2]; exact iv.cs, e5, fun _ => ?_, fun z => absurd (e4.trans hw) z, fun z => absurd z (by rw [e4, hw]; exact ends_ne)⟩, ?_⟩
  · rw [e1]
    exact iv.good.snoc (by rw [hst]) hrow hc
  · rw [e1, st_snoc, hst]
    unfold stp
    simp only [hrow]
    rw [hl, e2]
  · unfold mu
    rw [e4, hw, if_pos rfl, if_pos rfl, e2, e3]
    have := rem_next oc hhas hrow ho
    omega
theorem ivt_stop {c : Code} {s : MS} {p q : Plc} {x : Str} (iv : Ivt c s p) (hw : s.word = "") (hx : x ≠ "ends") (hx0 : x ≠ "") : Ivt c { s with word := x } q ∧ mu c { s with word := x } q < mu c s p := by
  refine ⟨⟨iv.good, fun z => absurd z hx0, iv.cs, iv.cells, fun z => absurd z hx0, fun _ _ => ⟨p, by rw [iv.at_ hw]⟩, fun z => absurd z hx⟩, ?_⟩
  unfold mu
  rw [hw, if_pos rfl, if_neg hx0]
  omega
/-- a step that pays: to another block, or into another routine -/
theorem ivt_jump {c : Code} {s : MS} {p q : Plc} {op : Op} {ch : Chc} {cs : List Plc} (oc : OkCode c) (iv : Ivt c s p) (hw : s.word = "") (hf : s.fuel ≠ 0) (hrow : c.row p = some op) (hc : ch ∈ c.chs op) (hl : led p ch s.calls op = (some q, cs)) (hsum : sumR c cs ≤ sumR c s.calls + 4) :
    Ivt c { s.pay.keep p ch with calls := cs } q ∧ mu c { s.pay.keep p ch with calls := cs } q < mu c s p := by
  have hst := iv.at_ hw
  have hhas := iv.has hw
  have hok := led_ok oc hhas hrow hc iv.cs
  rw [hl] at hok
  refine ⟨⟨iv.good.snoc (by rw [hst]) hrow hc, fun _ => hok.here q rfl, hok.calls, iv.cells, fun _ => ?_, fun z => absurd hw z, fun z => absurd z (by rw [show ({ s.pay.keep p ch with calls := cs } : MS).word = s.word from rfl, hw]; exact ends_ne)⟩, ?_⟩
  · show st c (s.steps ++ [(p, ch)]) = _
    rw [st_snoc, hst]
    unfold stp
    simp only [hrow]
    rw [hl]
  · have h3 := rem_le oc (hok.here q rfl)
    unfold mu
    rw [show ({ s.pay.keep p ch with calls := cs } : MS).word = s.word from rfl, hw, if_pos rfl, if_pos rfl]
    show 1 + (s.fuel - 1) * 10 + sumR c cs + rem c q < _
    omega
theorem one_ok {c : Code} {s : MS} {p : Plc} (oc : OkCode c) (iv : Ivt c s p) (hw : s.word = "") : Ivt c (one c s p).1 (one c s p).2 ∧ mu c (one c s p).1 (one c s p).2 < mu c s p := by
  have hst := iv.at_ hw
  have hhas := iv.has hw
  obtain ⟨op, hrow⟩ := OkCode.has_row hhas
  obtain ⟨hok, _, _⟩ := oc.row_ok hrow
  have hout : Ivt c s.out p ∧ mu c s.out p < mu c s p := ivt_stop iv hw fuel_ne fuel_ne0
  have hflt : Ivt c s.fault p.next ∧ mu c s.fault p.next < mu c s p := ivt_stop iv hw fault_ne fault_ne0
  cases op with
  | call r =>
    have ho : OkRow c (.call r) := by
      rcases hok with h | ⟨_, _, h, _⟩
      · exact h
      · exact h.elim
    simp only [one, hrow]
    split
    · exact hout
    · rename_i hf
      refine ivt_jump oc iv hw hf hrow (List.mem_singleton.mpr rfl) rfl ?_
      rw [sumR_snoc]
      have := rem_le oc (next_has oc hhas hrow ho)
      omega
  | back =>
    simp only [one, hrow]
    rcases List.eq_nil_or_concat s.calls with e | ⟨init, l, e⟩
    · rw [e, List.getLast?_nil]
      have hl : led p .non s.calls .back = (none, []) := by rw [e]; rfl
      refine ⟨⟨iv.good.snoc (by rw [hst]) hrow (List.mem_singleton.mpr rfl), fun z => absurd z ends_ne0, iv.cs, iv.cells, fun z => absurd z ends_ne0, fun _ z => absurd rfl z, fun _ => ?_⟩, ?_⟩
      · show (st c (s.steps ++ [(p, .non)])).1 = _
        rw [st_snoc, hst]
        unfold stp
        simp only [hrow]
        rw [hl]
      · unfold mu
        rw [if_neg ends_ne0, hw, if_pos rfl]
        omega
    · have e : s.calls = init ++ [l] := by rw [e]; try simp
      have hl : led p .non s.calls .back = (some l, init) := by
        rw [e]
        unfold led
        simp only [List.getLast?_concat, List.dropLast_concat]
      rw [e, List.getLast?_concat, List.dropLast_concat]
      have hcs := iv.cs
      refine ⟨⟨iv.good.snoc (by rw [hst]) hrow (List.mem_singleton.mpr rfl), fun _ => hcs l (by rw [e]; simp), fun q hq => hcs q (by rw [e]; exact List.mem_append_left _ hq), iv.cells, fun _ => ?_, fun z => absurd hw z, fun z => absurd (hw.symm.trans z) ends_ne⟩, ?_⟩
      · show st c (s.steps ++ [(p, .non)]) = _
        rw [st_snoc, hst]
        unfold stp
        simp only [hrow]
        rw [hl]
      · unfold mu
        rw [show ({ s.keep p .non with calls := init } : MS).word = s.word from rfl, hw, if_pos rfl, if_pos rfl, e, sumR_snoc]
        show 1 + s.fuel * 10 + sumR c init + rem c l < _
        omega
  | go b =>
    simp only [one, hrow]
    split
    · exact hout
    · rename_i hf
      exact ivt_jump (cs := s.calls) oc iv hw hf hrow (List.mem_singleton.mpr rfl) rfl (by omega)
  | iff o b1 b2 =>
    simp only [one, hrow]
    split
    · exact hout
    · rename_i hf
      refine ivt_jump (cs := s.calls) oc iv hw hf hrow ?_ rfl (by omega)
      show Chc.blk _ ∈ (if b1 = b2 then [Chc.blk b1] else [Chc.blk b1, Chc.blk b2])
      by_cases eb : b1 = b2
      · rw [if_pos eb, eb]; simp
      · rw [if_neg eb]
        split <;> simp
  | load x a =>
    have ho : OkRow c (.load x a) := by
      rcases hok with h | ⟨_, _, h, _⟩
      · exact h
      · exact h.elim
    simp only [one, hrow, mrow]
    cases hm : metCell c s.nm a with
    | none => exact hflt
    | some k => exact ivt_row (ch := .cell k) oc iv hw hrow ho (List.mem_map.mpr ⟨k, metCell_face hm, rfl⟩) rfl rfl rfl rfl rfl iv.cells
  | store a o =>
    have ho : OkRow c (.store a o) := by
      rcases hok with h | ⟨_, _, h, _⟩
      · exact h
      · exact h.elim
    simp only [one, hrow, mrow]
    cases hm : metCell c s.nm a with
    | none => exact hflt
    | some k => exact ivt_row (ch := .cell k) oc iv hw hrow ho (List.mem_map.mpr ⟨k, metCell_face hm, rfl⟩) rfl rfl rfl rfl rfl fun x m h1 h2 => setF_some (iv.cells x m h1 h2)
  | touch a =>
    have ho : OkRow c (.touch a) := by
      rcases hok with h | ⟨_, _, h, _⟩
      · exact h
      · exact h.elim
    simp only [one, hrow, mrow]
    cases hm : metCell c s.nm a with
    | none => exact hflt
    | some k => exact ivt_row (ch := .cell k) oc iv hw hrow ho (List.mem_map.mpr ⟨k, metCell_face hm, rfl⟩) rfl rfl rfl rfl rfl iv.cells
  | set x w o1 o2 =>
    have ho : OkRow c (.set x w o1 o2) := by
      rcases hok with h | ⟨_, _, h, _⟩
      · exact h
      · exact h.elim
    simp only [one, hrow, mrow]
    exact ivt_row (ch := .non) oc iv hw hrow ho (List.mem_singleton.mpr rfl) rfl rfl rfl rfl rfl iv.cells
  | tell o =>
    have ho : OkRow c (.tell o) := by
      rcases hok with h | ⟨_, _, h, _⟩
      · exact h
      · exact h.elim
    simp only [one, hrow, mrow]
    exact ivt_row (ch := .non) oc iv hw hrow ho (List.mem_singleton.mpr rfl) rfl rfl rfl rfl rfl iv.cells
  | need o =>
    have ho : OkRow c (.need o) := by
      rcases hok with h | ⟨_, _, h, _⟩
      · exact h
      · exact h.elim
    simp only [one, hrow, mrow]
    split
    · exact hflt
    · exact ivt_row (ch := .non) oc iv hw hrow ho (List.mem_singleton.mpr rfl) rfl rfl rfl rfl rfl iv.cells
/-! ### where it begins -/
theorem layObj_some {cl : Cell → Option Int} {x : Cell} (e : Str × Nat) (h : (cl x).isSome = true) : (layObj cl e x).isSome = true := by
  unfold layObj
  generalize List.range e.2 = l
  induction l generalizing cl with
  | nil => exact h
  | cons k l ih => rw [List.foldl_cons]; exact ih (setF_some h)
theorem layObj_in {cl : Cell → Option Int} {e : Str × Nat} {k : Nat} (h : k < e.2) : (layObj cl e (e.1, k)).isSome = true := by
  unfold layObj
  have : ∀ (l : List Nat) (cl : Cell → Option Int), (k ∈ l ∨ (cl (e.1, k)).isSome = true) → (l.foldl (fun cl k => setF cl (e.1, k) 0) cl (e.1, k)).isSome = true := by
    intro l
    induction l with
    | nil => intro cl h; rcases h with h | h
             · cases h
             · exact h
    | cons j l ih =>
      intro cl h
      rw [List.foldl_cons]
      refine ih _ ?_
      rcases h with h | h
      · rcases List.mem_cons.mp h with z | z
        · right; rw [z]; unfold setF; rw [if_pos rfl]; rfl
        · exact .inl z
      · exact .inr (setF_some h)
  exact this _ _ (.inl (List.mem_range.mpr h))
theorem lay_in {c : Code} {l : List (Cell × Int)} (cl : Cell → Option Int) : CellsIn c (layAll c l cl) := by
  intro x m h1 h2
  have h3 : ((c.objs.foldl layObj cl) x).isSome = true := by
    unfold Code.size at h1
    obtain ⟨e, he, em⟩ := Option.map_eq_some_iff.mp h1
    have hin := List.mem_of_find?_eq_some he
    have he1 : e.1 = x.1 := of_decide_eq_true (by simpa using List.find?_some he)
    have : ∀ (os : List (Str × Nat)) (cl : Cell → Option Int), (e ∈ os ∨ (cl x).isSome = true) → (os.foldl layObj cl x).isSome = true := by
      intro os
      induction os with
      | nil => intro cl h; rcases h with h | h
               · cases h
               · exact h
      | cons o os ih =>
        intro cl h
        rw [List.foldl_cons]
        refine ih _ ?_
        rcases h with h | h
        · rcases List.mem_cons.mp h with z | z
          · right
            rw [← z]
            have : x = (e.1, x.2) := Prod.ext he1.symm rfl
            rw [this]
            exact layObj_in (by rw [em]; exact h2)
          · exact .inl z
        · exact .inr (layObj_some o h)
    exact this _ _ (.inl hin)
  unfold layAll layCells
  revert h3
  generalize c.objs.foldl layObj cl = cl2
  intro h3
  induction l generalizing cl2 with
  | nil => exact h3
  | cons e l ih => rw [List.foldl_cons]; exact ih _ (setF_some h3)
/-- behind may_enter -/
def s1 (c : Code) (s : Option Start) (fuel : Nat) : MS := if fuel = 0 then (s0 c s fuel).out else (s0 c s fuel).pay
theorem s1_ok {c : Code} (oc : OkCode c) (s : Option Start) {fuel : Nat} (hf : fuel ≤ 20) : Ivt c (s1 c s fuel) main ∧ mu c (s1 c s fuel) main ≤ 210 := by
  have iv : Ivt c (s0 c s fuel) main := ⟨fun i x e => (by simp [s0] at e), fun _ => main_has oc, fun q hq => (by cases hq), lay_in _, fun _ => rfl, fun z => absurd rfl z, fun z => absurd z ends_ne⟩
  unfold s1
  split
  · refine ⟨(ivt_stop (q := main) iv rfl fuel_ne fuel_ne0).1, ?_⟩
    unfold mu
    rw [if_neg (show ¬ (s0 c s fuel).out.word = "" from fuel_ne0)]
    omega
  · refine ⟨⟨iv.good, iv.has, iv.cs, iv.cells, iv.at_, iv.op_, iv.ends⟩, ?_⟩
    unfold mu
    rw [if_pos (show (s0 c s fuel).pay.word = "" from rfl)]
    have := rem_le oc (main_has oc)
    show 1 + (fuel - 1) * 10 + sumR c [] + rem c main ≤ 210
    have e : sumR c [] = 0 := rfl
    rw [e]
    omega
end K7
/-! ## K8J -/
set_option Elab.async false
set_option linter.all false
set_option maxRecDepth 100000
set_option maxHeartbeats 4000000
/-! gone, trail, run. -/
namespace K7
open PySem PySem.Spec PyProof.Rows L2
section
variable {P : Program} {w : World} {K : PySem.W.Frag} {mg : Str → Option Value} {base : Heap} {T : List (Addr × Str)} {C : Addr}
theorem sc_gone : FnScope ["code", "start", "fuel", "machine", "blocks", "place"] ["code", "start", "fuel"] (defScope (top 22)) := ⟨rfl, rfl, rfl, by decide +kernel, rfl, by decide +kernel, by decide +kernel⟩
structure GoneA (c : Code) (s : Option Start) (fuel : Nat) : Prop where
  oc : OkCode c
  os : OkStart c s
  f : fuel ≤ 20
def spGoneM (P : Program) (w : World) (K : PySem.W.Frag) (T : List (Addr × Str)) (C : Addr) : Sp' := fun vs H Q => ∃ (c : Code) (s : Option Start) (fuel : Nat), GoneA c s fuel ∧ DTs K H vs [c.d, startD s, .int fuel] ∧
  ∀ a v H' s' q, Ex T H H' → MOK P w K C H' a v c s' 900 → Runs c (s1 c s fuel) main s' → Ivt c s' q → s'.word ≠ "" → Q (.ref a.m) H'
theorem g_gone (F : At K mg "gone" 22) (B : Blt mg) (MM : Ms P w K mg base T C) {fI : Addr} (hC : mg "Machine" = some (.ref C)) (Mk0 : Mk K C fI) (FI : FRun P w K mg base 2 fI (spInit P w K T C)) (Go : GDef P w K mg base 6 "one_step" (spOne P w K T C)) : GDef P w K mg base 7 "gone" (spGoneM P w K T C) := by
  refine F.ok sc_gone (fun _ _ _ _ _ _ us hl => match us, hl with | [_, _, _], _ => rfl) (fun vs H Q ⟨_, _, _, _, hv, _⟩ => hv.len) fun f cdv Ar outer s H vs Q ck ⟨c, st, fuel, ga, hv, q⟩ => ?_
  obtain ⟨v1, v2, v3, rfl, h1, h2, h3⟩ := hv.inv3
  rw [h3.inv_int]
  obtain ⟨iv0, hmu⟩ := s1_ok ga.oc st ga.f
  refine ws_set 3 ck (wE_make ck Mk0 FI (by decide) hC (wA_cons (EvD.go (T := T) (ed_name 0 h1) .refl fun u1 H1 c1 g1 => wA_cons (EvD.go (T := T) (ed_name 1 (c1.dt h2)) .refl fun u2 H2 c2 g2 => wA_cons (EvV.go (T := T) (v := .int fuel) (ev_name 2) .refl fun H3 c3 => wA_nil fun y dx hy hdx hne => ?_)))))
  have c4 : Ex T H3 (upd (upd H3 dx (.own y)) y (.ins C dx [])) := (Chg.new hdx).trans (.new (by rw [upd_ne (Ne.symm hne)]; exact hy))
  have c14 := ((c1.trans c2).trans c3).trans c4
  refine ⟨y, dx, c, st, fuel, u1, u2, rfl, upd_same, c4.dt ((c2.trans c3).dt g1), c4.dt (c3.dt g2), ga.oc, ga.os, fun a v H5 eam hfr cg M => ⟨rfl, ?_⟩⟩
  subst eam
  -- all of the machine is new
  have hfresh : ∀ x ∈ fp a, H x = none := fun x hx => by
    rcases hfr x hx with e | e
    · rw [e]; exact ((c1.trans c2).trans c3).back _ hy
    · exact c14.back x e
  have d5 : Ex T H H5 := Chg.fresh c14 (cg) (fun x hx => by
    exact hfresh x hx)
  -- blocks, place
  refine wS_cons (ps_par (i := 4) (j := 5) ck.calm ck.nd rfl rfl (by decide) rfl rfl paW rfl rfl) (wA_cons (wE_dictK (T := T) (l := rtsL c) ck B.dict (EvD.is (ed_at1 (ed_name 0 (d5.dt h1))) (by rw [rtsL_d])) ga.oc.rtsN ga.oc.rtsZ fun bd H6 kvs hbd c6 hk sd => wA_cons (EvD.go (T := T) (d := main.d) (ed_tup (ds := [.str "main", .int 0, .int 0]) (ea_cons ed_str (ea_cons ed_int (ea_cons ed_int ea_nil)))) .refl fun vp H7 c7 hvp => wA_nil ⟨_, _, rfl, ?_⟩)))
  have M7 := M.ex (c6.trans c7)
  have hk7 := c7.get hk
  have sd7 := sd.tk c7.tup
  have hbdn : bd ∉ fp a := fun z => by
    simp only [fp, List.mem_cons, List.mem_nil_iff, or_false] at z
    obtain ⟨hs, a1, _⟩ := M.hr
    obtain ⟨ss, b1, _⟩ := M.st
    obtain ⟨ls, l1, _⟩ := M.ca
    obtain ⟨kn, n1, _⟩ := M.nm.ex
    obtain ⟨kt, ⟨⟨xk, t1, _⟩, _⟩, _⟩ := M.cl.ex
    rcases z with z | z | z | z | z | z <;> rw [z] at hbd
    · rw [M.ins] at hbd; cases hbd
    · rw [n1] at hbd; cases hbd
    · rw [t1] at hbd; cases hbd
    · rw [a1] at hbd; cases hbd
    · rw [b1] at hbd; cases hbd
    · rw [l1] at hbd; cases hbd
  -- may_enter
  obtain ⟨fE, hmE, FE⟩ := MM.enter
  have d7 := d5.trans (c6.trans c7)
  refine ws_drop (wE_meth0 ck MM.k.cl hmE FE (by decide) (EvV.go (T := T) (ev_name 3) .refl fun H8 c8 => ⟨a.m, a.dx, _, rfl, c8.get M7.ins, flds_no (by decide +kernel), a, v, c, _, 50, rfl, M7.ex c8, fun H9 c9 => ?_⟩))
  have c79 : Chg T (fp a) H7 H9 := c8.then_ c9
  have fin : MOK P w K C H9 a v c (s1 c st fuel) 50 → wS (bcx P w K mg base ["code", "start", "fuel", "machine", "blocks", "place"] "gone" (top 22) f cdv Ar outer s H) ((defBody (top 22)).drop 3) { nx := fun _ H' => Q .non H', rt := Q } [some v1, some v2, some (.int fuel), some (.ref a.m), some (.ref bd), some vp] H9 := fun M9 => by
    refine wS_cons (ps_while PassesOwn.never ptW pssW) ?_
    refine ⟨fun m σ' H' => ∃ (ms : MS) (p : Plc) (L : Nat) (vp' : V), m = mu c ms p ∧ σ' = [some v1, some v2, some (.int fuel), some (.ref a.m), some (.ref bd), some vp'] ∧ Chg T (fp a) H7 H' ∧ MOK P w K C H' a v c ms L ∧ DT K H' vp' p.d ∧ Ivt c ms p ∧ L + 2 * mu c ms p ≤ 500 ∧ ∀ s', Runs c ms p s' → Runs c (s1 c st fuel) main s', ⟨_, s1 c st fuel, main, 50, vp, rfl, rfl, c79, M9, c79.dt hvp, iv0, by omega, fun s' h => h⟩, ?_⟩
    rintro m σ' H' ⟨ms, p, L, vp', rfl, rfl, cA, MA, hpA, ivA, hLA, hR⟩
    refine (et_cmp (T := T) (ec_eqS (ed_word MM.k MA (ev_name 3)) ed_str)) H' .refl _ fun H10 c10 => ?_
    generalize hb : decide (ms.word = "") = b
    cases b with
    | true =>
      have hw : ms.word = "" := of_decide_eq_true hb
      obtain ⟨iv1, hlt⟩ := one_ok ga.oc ivA hw
      refine ⟨fun σ2 H2 => ∃ (vp2 : V), σ2 = [some v1, some v2, some (.int fuel), some (.ref a.m), some (.ref bd), some vp2] ∧ Chg T (fp a) H7 H2 ∧ MOK P w K C H2 a v c (one c ms p).1 (L + 2) ∧ DT K H2 vp2 (one c ms p).2.d, fun σ2 H2 ⟨vp2, e2, cB, MB, hpB⟩ => ⟨_, hlt, (one c ms p).1, (one c ms p).2, L + 2, vp2, rfl, e2, cB, MB, hpB, iv1, by omega, fun s' h => hR s' (.step hw h)⟩, ?_⟩
      refine ws_set 5 ck (wE_cl Go ck (wA_cons (EvV.go (T := T) (ev_name 3) .refl fun H11 c11 => wA_cons (EvV.go (T := T) (ev_name 4) .refl fun H12 c12 => wA_cons (EvD.go (T := T) (ed_name 5 (((c10.trans c11).trans c12).dt hpA)) .refl fun u3 H13 c13 hu3 => wA_nil ⟨a, v, c, ms, L, p, u3, bd, kvs, rfl, MA.ex (((c10.trans c11).trans c12).trans c13), hu3, ?_, ?_, ga.oc, ivA.has hw, ivA.cells, fun qq hq => (ga.oc.has_ok (ivA.cs qq hq)).1, by omega, fun u H14 c14 M14 hu => wS_nil ⟨u, rfl, (cA.and_ (((c10.trans c11).trans c12).trans c13)).trans c14, M14, hu⟩⟩)))))
      · exact (cA.and_ (((c10.trans c11).trans c12).trans c13)).get hk7 hbdn
      · exact sd7.tk (cA.and_ (((c10.trans c11).trans c12).trans c13)).tup
    | false =>
      have hw : ms.word ≠ "" := of_decide_eq_false hb
      refine ws_retV (T := T) (ev_name 3) fun H11 c11 => ?_
      exact q a v H11 ms p (Chg.fresh d7 (cA.and_ (c10.trans c11)) hfresh) ((MA.ex (c10.trans c11)).le (by omega)) (hR ms (.stop hw)) ivA hw
  refine ⟨fun hf M9 => fin ?_, fun hf M9 => fin ?_⟩
  · have e : s1 c st fuel = (s0 c st fuel).out := if_pos hf
    rw [e]; exact M9
  · have e : s1 c st fuel = (s0 c st fuel).pay := if_neg hf
    rw [e]; exact M9
end
end K7
/-! ## K8K -/
set_option Elab.async false
set_option linter.all false
set_option maxRecDepth 100000
set_option maxHeartbeats 4000000
/-! trail, run. -/
namespace K7
open PySem PySem.Spec PyProof.Rows L2
section
variable {P : Program} {w : World} {K : PySem.W.Frag} {mg : Str → Option Value} {base : Heap} {T : List (Addr × Str)} {C : Addr}
/-- a def with two defaults, all three parameters given -/
structure AtD (K : PySem.W.Frag) (mg : Str → Option Value) (x : Str) (i : Nat) : Prop where
  ex : ∃ (f : Addr) (oc : Value) (od : Option Addr) (TT : Addr) (kV doc pm : Value) (an : Option Addr) (cdv ct : Value) (osl : Array (Option Value)) (o : Obj) (x1 x2 : Value) (n : Nat),
    K.lookup f = some ⟨oc, od, .func (PySem.W.fnOf x x (defArgs (top i)) (defBody (top i)) (defScope (top i)) (.ref TT) kV doc pm an cdv ct), osl⟩ ∧ PySem.W.codeIn K cdv x = true ∧ mg x = some (.ref f) ∧ PySem.W.keepIn K (.ref f) = true ∧ K.lookup TT = some o ∧ o.data = .seq #[x1, x2] n
theorem AtD.ok {x : Str} {i k : Nat} {N ps : List Str} {sp : Sp'} (F : AtD K mg x i) (S : FnScope N ps (defScope (top i))) (h3 : ps.length = 3)
    (hb : ∀ (TT : Addr) (kV doc pm : Value) (an : Option Addr) (cdv ct a b c d e : Value), ∃ k, bindArgs (PySem.W.fnOf x x (defArgs (top i)) (defBody (top i)) (defScope (top i)) (.ref TT) kV doc pm an cdv ct) ⟨[a, b, c], []⟩ = seqItems? (.ref TT) >>= k ∧ k (some #[d, e]) = pure (ps.zip [a, b, c]))
    (len : ∀ vs H Q, sp vs H Q → vs.length = ps.length)
    (body : ∀ (f : Addr) (cdv : Value) (A : Around) (outer : List Env) (s : Shared) (H : Hp) (vs : List V) (Q : VK), Cok k (bcx P w K mg base N x (top i) f cdv A outer s H) → sp vs H Q →
      wS (bcx P w K mg base N x (top i) f cdv A outer s H) (defBody (top i)) { nx := fun _ H' => Q .non H', rt := Q } (L2.start N vs) H) : GDef P w K mg base (k + 1) x sp := by
  obtain ⟨f, oc, od, TT, kV, doc, pm, an, cdv, ct, osl, o, x1, x2, n, lk, hcd, hm, hk, lT, oT⟩ := F.ex
  refine ⟨f, hm, hk, fun A outer s H us vs Q hr hg e0 r hsp => ?_⟩
  have hl := len _ _ _ hsp
  have KX : K.In s.heap := e0.mod.kin.keeps fun b o e => (e0.bs b o e).1
  have lim : s.heap.NoLimit := e0.mod.nolimit.keeps fun b o e => (e0.bs b o e).1
  have hkind : ∀ y ∈ ps.zip us, (defScope (top i)).names.lookup y.1 = some .local ∨ ((defScope (top i)).names.lookup y.1 = some .cell ∧ ((cellsFrom (s.heap.objs.size + 1) (defScope (top i)).names []).lookup y.1).isSome = true) := by
    rintro ⟨n, v⟩ hy
    rcases S.par n (List.of_mem_zip hy).1 with q | q
    · exact .inl q
    · exact .inr ⟨q, PySem.W.cellsFrom_some _ _ _ (.inl q)⟩
  refine codeAny_call_function hr.depth (KX _ _ lk) rfl S.co S.gen rfl (PySem.W.codeRec_of KX hcd) ?_
  have hul : us.length = 3 := by rw [← r.length, hl, h3]
  obtain ⟨a, b, c, rfl⟩ : ∃ a b c, us = [a, b, c] := match us, hul with
    | [a, b, c], _ => ⟨a, b, c, rfl⟩
  obtain ⟨kk, e1, e2⟩ := hb TT kV doc pm an cdv ct a b c x1 x2
  have bt : BindsTo s (PySem.W.fnOf x x (defArgs (top i)) (defBody (top i)) (defScope (top i)) (.ref TT) kV doc pm an cdv ct) ⟨[a, b, c], []⟩ (ps.zip [a, b, c]) := BindsTo.of_looks fun M => by
    rw [e1]
    exact looks_items KX lT oT (.of_pure e2)
  refine bt _ _ _ _ ?_
  refine wpAny_newFunctionEnv_cells S.kind hkind fun env he s1 x1 => ?_
  subst he
  refine ⟨lim.keeps x1.toInCall.keep, codeAny_func ?_⟩
  have I : Inv (bcx P w K mg base N x (top i) f cdv A outer s H) [] (L2.start N vs) H s1 := (inv_start (CX := CX0) (E := E0) S hr.hd e0 hl r x1).wish _
  have go := body f cdv A outer s H vs Q ⟨hr.deeper _, hg, rfl, S.nd⟩ hsp [] s1 I
  refine wpAny_mono go (fun fl s' hs => ?_) fun _ _ z => False.elim z
  cases fl with
  | ret u =>
    obtain ⟨v, σ', H', J, rv, q⟩ := hs
    exact ⟨v, H', J.os, J.bare, J.base, J.hok, rv, q⟩
  | next =>
    obtain ⟨σ', H', J, q⟩ := hs
    exact ⟨V.non, H', J.os, J.bare, J.base, J.hok, rfl, q⟩
  | brk =>
    obtain ⟨_, _, _, q⟩ := hs
    exact False.elim q
  | cont =>
    obtain ⟨_, _, _, q⟩ := hs
    exact False.elim q
/-! ### trail -/
theorem sc_trail : FnScope ["code", "start", "fuel"] ["code", "start", "fuel"] (defScope (top 24)) := ⟨rfl, rfl, rfl, by decide +kernel, rfl, by decide +kernel, by decide +kernel⟩
def TrailR (a : Code × Option Start × Nat) (d : PyData) : Prop := ∃ s' q, d = wayD s'.steps ∧ Runs a.1 (s1 a.1 a.2.1 a.2.2) main s' ∧ Ivt a.1 s' q ∧ s'.word ≠ "" ∧ s'.steps.length ≤ 900
abbrev spTrail (K : PySem.W.Frag) (T : List (Addr × Str)) : Sp' := spF K T (fun a : Code × Option Start × Nat => [a.1.d, startD a.2.1, .int a.2.2]) (fun a => GoneA a.1 a.2.1 a.2.2) TrailR
theorem g_trail (F : AtD K mg "trail" 24) (B : Blt mg) (kc : Cl K C) (G : GDef P w K mg base 7 "gone" (spGoneM P w K T C)) : GDef P w K mg base 8 "trail" (spTrail K T) := by
  refine F.ok sc_trail rfl (fun _ _ _ _ _ _ _ _ _ _ _ _ => ⟨_, rfl, rfl⟩) (fun vs H Q ⟨a, _, hv, _⟩ => by rw [hv.len]; rfl) fun f cdv Ar outer s H vs Q ck ⟨⟨c, st, fuel⟩, ga, hv, q⟩ => ?_
  obtain ⟨v1, v2, v3, rfl, h1, h2, h3⟩ := hv.inv3
  refine ws_return (wE.of (pe_callTy call_tupleP rfl B.tuple (by decide +kernel) (pa_cons peW pa_nil rfl) (by decide) (by decide) rfl (by rfl)) (wE.of (pe_fld peW rfl) (wE_cl G ck (wA_cons (EvD.go (T := T) (ed_name 0 h1) .refl fun u1 H1 c1 g1 => wA_cons (EvD.go (T := T) (ed_name 1 (c1.dt h2)) .refl fun u2 H2 c2 g2 => wA_cons (EvD.go (T := T) (ed_name 2 ((c1.trans c2).dt h3)) .refl fun u3 H3 c3 g3 => wA_nil ⟨c, st, fuel, ga, .cons ((c2.trans c3).dt g1) (.cons (c3.dt g2) (.one g3)), fun a v H4 s' p c4 M hR iv hw => ?_⟩)))))))
  obtain ⟨ss, b1, b2, b3⟩ := M.st
  refine ⟨a.m, C, a.dx, _, .ref a.sd, rfl, M.ins, kc.cl, kc.na _ (by simp), rfl, a.sd, ss, rfl, SqL.of b1, fun t o ht ho => ?_⟩
  exact q (.ref t) _ (wayD s'.steps) ((((c1.trans c2).trans c3).trans c4).trans (.new ht)) ⟨s', p, rfl, hR, iv, hw, by have h9 := b2.len; rw [List.length_map] at h9; omega⟩ (.new ht ho b2)
/-! ### run -/
theorem sc_run : FnScope ["code", "start", "fuel", "machine"] ["code", "start", "fuel"] (defScope (top 23)) := ⟨rfl, rfl, rfl, by decide +kernel, rfl, by decide +kernel, by decide +kernel⟩
def spRun (K : PySem.W.Frag) (T : List (Addr × Str)) : Sp' := fun vs H Q => ∃ (c : Code) (s : Option Start) (fuel : Nat), GoneA c s fuel ∧ DTs K H vs [c.d, startD s, .int fuel] ∧
  ∀ t H' s' xs, Ex T H H' → SqT K H' t (.str s'.word :: xs) → Runs c (s1 c s fuel) main s' → Q (.ref t) H'
def vD : V → PyData
  | .int i => .int i
  | _ => .none
theorem cl_sd {H : Hp} : ∀ {kvt : List (List Key × V)}, (∀ e ∈ kvt, ∃ x i, e = (cellK x, V.int i)) → SD K H kvt (kvt.map fun e => (e.1, vD e.2)) ∧ ∃ l : List (Cell × Int), kvt.map (fun e => (e.1, vD e.2)) = l.map fun e => (cellK e.1, .int e.2)
  | [], _ => ⟨.nil, [], rfl⟩
  | e :: kvt, h => by
    obtain ⟨i1, l, i2⟩ := cl_sd (kvt := kvt) fun y hy => h y (List.mem_cons_of_mem _ hy)
    obtain ⟨x, i, rfl⟩ := h _ (List.mem_cons_self ..)
    refine ⟨.cons ⟨rfl, .int i⟩ i1, (x, i) :: l, ?_⟩
    rw [List.map_cons, List.map_cons, i2]
    rfl
theorem wE_tupL {X : Cx} {σ : L2.St} {H : Hp} {Q : VK} {o : Expr} {p pos : Pos} {l : Addr} {xs : List V} (hm : X.mg "tuple" = none) (h : EvV T X o σ H (.ref l)) (hl : H l = some (.lst xs)) {H0 : Hp} (c0 : Ex T H H0) (q : ∀ t H', Ex T H0 H' → SqT X.K H' t xs → Q (.ref t) H') (hg : Gl X "tuple" := by rfl) (h1 : starEach [o] X.env = (false, eval o X.env) :: starEach [] X.env := by rfl) : wE X (.Call (.Name "tuple" p) [o] [] pos) σ H0 Q :=
  wE.of (pe_callTy call_tupleP hg hm (by decide +kernel) (pa_cons peW pa_nil h1) (by decide) (by decide) h1 (by rfl)) (h.go c0 fun H1 c1 => ⟨l, xs, rfl, SqL.of ((c0.trans c1).get hl), fun t o ht ho => q t _ (c1.trans (.new ht)) (.inl (.inr ⟨o, upd_same⟩))⟩)
theorem g_run (F : AtD K mg "run" 23) (B : Blt mg) (kc : Cl K C) (G : GDef P w K mg base 7 "gone" (spGoneM P w K T C)) : GDef P w K mg base 8 "run" (spRun K T) := by
  refine F.ok sc_run rfl (fun _ _ _ _ _ _ _ _ _ _ _ _ => ⟨_, rfl, rfl⟩) (fun vs H Q ⟨_, _, _, _, hv, _⟩ => hv.len) fun f cdv Ar outer s H vs Q ck ⟨c, st, fuel, ga, hv, q⟩ => ?_
  obtain ⟨v1, v2, v3, rfl, h1, h2, h3⟩ := hv.inv3
  refine ws_set 3 ck (wE_cl G ck (wA_cons (EvD.go (T := T) (ed_name 0 h1) .refl fun u1 H1 c1 g1 => wA_cons (EvD.go (T := T) (ed_name 1 (c1.dt h2)) .refl fun u2 H2 c2 g2 => wA_cons (EvD.go (T := T) (ed_name 2 ((c1.trans c2).dt h3)) .refl fun u3 H3 c3 g3 => wA_nil ⟨c, st, fuel, ga, .cons ((c2.trans c3).dt g1) (.cons (c3.dt g2) (.one g3)), fun a v H4 s' p c4 M hR iv hw => ?_⟩)))))
  have d4 := ((c1.trans c2).trans c3).trans c4
  obtain ⟨hs, a1, a2⟩ := M.hr
  refine ws_when (T := T) (k := decide (s'.word = "ends")) (et_cmp (ec_eqS (ed_word kc M (ev_name 3)) ed_str)) (fun z H5 c5 => ?_) fun z H5 c5 => ?_
  · obtain ⟨kvt, t1, t2, t3, t4⟩ := M.cl.ex
    obtain ⟨sd, l, el⟩ := cl_sd (K := K) (H := H4) t4
    rw [el] at sd
    have M5 := M.ex c5
    refine ws_return (wE_tup (wA_cons (EvD.go (T := T) (ed_str (i := "ends")) .refl fun x1 H6 c6 hx1 => wA_cons (wE_tupL (T := T) B.tuple (ev_hr kc M (ev_name 3)) a1 (c5.trans c6) fun t H7 c7 _ => wA_cons (EvR.go (T := T) (er_tuple B.tuple (el_sortedIT (l := l.map fun e : Cell × Int => ((cellK e.1, PyData.int e.2) : List Key × PyData)) ck B.sorted (ev_cl kc M (ev_name 3)) t1 sd ?_ ?_ (by omega) ?_)) ((c5.trans c6).trans c7) fun x3 H8 d3 c8 _ hx3 => wA_nil ⟨by show 3 ≤ sizeLine; decide, fun tp o htp ho => ?_⟩)))))
    · rw [List.map_map]
      exact PySem.W.AllAlike.of fun x y => by simp [pairD, keyDs, cellK, kD, PySem.W.alike, PySem.W.alikeAll]
    · rw [List.map_map]
      exact PySem.W.Sortable.tuples fun x => ⟨_, _, rfl⟩
    · intro e he
      obtain ⟨x, _, rfl⟩ := List.mem_map.mp he
      simp [pairD, keyDs, cellK, kD, PyData.depth, PyData.depthAll]
    · rw [hx1.inv_str]
      have c9 : Ex T H8 (upd H8 tp (.frz o (.tup [.str "ends", .ref t, x3]))) := .new htp
      exact q tp _ s' [.ref t, x3] (((((d4.trans c5).trans c6).trans c7).trans c8).trans c9) (by rw [of_decide_eq_true z]; exact .inl (.inr ⟨o, upd_same⟩)) hR
  · refine ws_return (wE_tup (wA_cons (EvV.go (T := T) (EvD.vs (ed_word kc M (ev_name 3))) c5 fun H6 c6 => wA_cons (wE_tupL (T := T) B.tuple (ev_hr kc M (ev_name 3)) a1 (c5.trans c6) fun t H7 c7 _ => wA_nil ⟨by show 2 ≤ sizeLine; decide, fun tp o htp ho => ?_⟩))))
    have c9 : Ex T H7 (upd H7 tp (.frz o (.tup [.str s'.word, .ref t]))) := .new htp
    exact q tp _ s' [.ref t] ((((d4.trans c5).trans c6).trans c7).trans c9) (.inl (.inr ⟨o, upd_same⟩)) hR
end
end K7
/-! ## K9A -/
set_option Elab.async false
set_option linter.all false
set_option maxRecDepth 100000
set_option maxHeartbeats 4000000
/-! A lambda as a value; what it does when called with one argument. -/
namespace K7
open PySem PySem.Spec PyProof.Rows L2
/-- the lambda's object stands at f -/
def LamO (f : Addr) (ob : Obj) : HO := .ext fun h => h.get? f = some ob
abbrev lamOb (X : Cx) (params : Arguments) (body : Expr) (scope : Scope) (pm : Value) (c' : Addr) (ctv : Value) : Obj := PySem.W.kla_obj "<lambda>" (X.env.qual ++ "<lambda>") params body scope (cloFrom X.env.cells scope.names []) pm c' ctv
section
variable {T : List (Addr × Str)} {X : Cx} {pins : List (Addr × Obj)} {σ : L2.St} {H : Hp} {s : Shared} {c P : Addr} {params : Arguments} {body : Expr} {scope : Scope} {pos : Pos} {Q : VK}
/-- the table at P grows by a code object at c' -/
theorem chg_table {ps more : Array Value} {c' : Addr} {q : Str} (hP : H P = some (.tbl ps)) (nC : H c' = none) (tab : LamX.Tabs T H → LamX.Tabs T (upd (upd H P (.tbl (ps ++ more))) c' (LamX.CodeO c' q))) : Ex T H (upd (upd H P (.tbl (ps ++ more))) c' (LamX.CodeO c' q)) := by
  have hE : ∀ b o, H b = some o → (∀ ps, o ≠ .tbl ps) → upd (upd H P (.tbl (ps ++ more))) c' (LamX.CodeO c' q) b = some o := fun b o e n => by
    rw [upd_ne (ne_of_none e nC), upd_ne (fun z => n ps (Option.some.inj (e.symm.trans (by rw [z]; exact hP))))]
    exact e
  refine ⟨fun b o _ e n => hE b o e n, fun b e => ?_, ⟨fun b xs e => ?_, fun b o xs e => hE b _ e (fun _ z => by cases z)⟩, tab⟩
  · by_cases h1 : b = c'
    · rw [h1]; exact nC
    · rw [upd_ne h1] at e
      by_cases h2 : b = P
      · rw [h2, upd_same] at e; cases e
      · rw [upd_ne h2] at e; exact e
  · rcases e with e | ⟨u, e⟩
    · exact .inl (hE b _ e (fun _ z => by cases z))
    · exact .inr ⟨u, hE b _ e (fun _ z => by cases z)⟩
/-- once it stands, it is tracked -/
theorem lam_take {h' : Heap} {tk : Nat} {H1 : Hp} {pm ctv : Value} {c' : Addr} (I0 : Inv X pins σ H s) (I1 : Inv X pins σ H1 { s with heap := h'.push (lamOb X params body scope pm c' ctv), toks := tk }) (c1 : Ex T H H1) (hsz : s.heap.objs.size ≤ h'.objs.size) (hn : H1 h'.objs.size = none)
    (hc : H1 c' = some (LamX.CodeO c' (X.env.qual ++ "<lambda>"))) (q : ∀ f c' pm ctv H', Ex T H H' → H f = none → H' f = some (LamO f (lamOb X params body scope pm c' ctv)) → H' c' = some (LamX.CodeO c' (X.env.qual ++ "<lambda>")) → Q (.ref f) H') :
    EP X pins σ Q (.ref h'.objs.size) { s with heap := h'.push (lamOb X params body scope pm c' ctv), toks := tk } := by
  have ho : (h'.push (lamOb X params body scope pm c' ctv)).get? h'.objs.size = some (lamOb X params body scope pm c' ctv) := Heap.get?_push_size _ rfl
  have hn0 : H h'.objs.size = none := I0.hok.fresh hsz
  have I2 := I1.take (h' := h'.push (lamOb X params body scope pm c' ctv)) (t' := tk) (o := LamO h'.objs.size (lamOb X params body scope pm c' ctv)) (it := h'.objs.size) (fun b ob _ e => e) (by
    obtain ⟨f0, f1, f2, f3, f4, f5⟩ := I0.fpOk hsz hn0
    exact ⟨hn, f1, f2, f3, f4, f5⟩) ⟨ho, ⟨_, ho⟩, fun h1 h2 x k => k _ x⟩
  have c2 : Ex T H1 (upd H1 h'.objs.size (LamO h'.objs.size (lamOb X params body scope pm c' ctv))) := .new hn
  exact ⟨.ref _, _, I2, rfl, q _ c' pm ctv _ (c1.trans c2) hn0 upd_same (by rw [upd_ne (ne_of_none hc hn)]; exact hc)⟩
theorem wE_lam (TB : LamX.TabB X.base X.mg c P) (hcode : X.env.code = .ref c) (hm : (P, X.env.qual ++ "<lambda>") ∈ T) (hu : ∀ p ∈ T, p.1 = P → p.2 = X.env.qual ++ "<lambda>") (hT : LamX.Tabs T H) (hdef : defaultsOf params X.env = ([], [])) (hfr : X.Ok → ∀ y ∈ scope.names, y.2 = .free → ∃ c, X.env.cells.lookup y.1 = some c)
    (q : ∀ f c' pm ctv H', Ex T H H' → H f = none → H' f = some (LamO f (lamOb X params body scope pm c' ctv)) → H' c' = some (LamX.CodeO c' (X.env.qual ++ "<lambda>")) → Q (.ref f) H') : wE X (.Lambda params body scope pos) σ H Q := by
  intro pins s I
  have hfree := hfr I.ok
  obtain ⟨ps, hP, ht, ha⟩ := hT _ hm
  refine PySem.W.kla_eval hdef ?_
  have hP' : s.heap.get? P = some { cls := .none, data := .fields ps } := I.hok P _ hP
  cases hc : codeAmong pos ps.toList with
  | none =>
    refine PySem.W.kla_makeFunction (mg := X.mg) (c := c) (P := P) (ps := ps) (closure_ok hfree) I.ok.glob (I.mod.glob.keeps I.bk) hcode (TB.code.keeps I.bk) hP' ht hc TB.gP (TB.bm.keeps I.bk) fun c' ctv h' tk hx hge hlt hrec htb => ?_
    obtain ⟨c2, oc, vs, t, e2, hoc, hd, hv⟩ := hrec
    cases e2
    have hsz : s.heap.objs.size ≤ h'.objs.size := Nat.le_trans hge (Nat.le_of_lt hlt)
    have nC : H c' = none := I.hok.fresh hge
    have I1 := LamX.inv_table (t' := tk) (more := #[rawInt pos.line, rawInt pos.col, .ref c']) (h' := h'.push (lamOb X params body scope ((X.mg "__name__").getD .none) c' ctv)) I hP
      (fun b o hb e => Heap.get?_push_of_some _ (hx b o hb e)) (Heap.get?_push_of_some _ htb) hge ⟨oc, vs, t, Heap.get?_push_of_some _ hoc, hd, hv⟩
    have eL : (ps ++ #[rawInt pos.line, rawInt pos.col, .ref c']).toList = ps.toList ++ [rawInt pos.line, rawInt pos.col, .ref c'] := by simp
    have cg : Ex T H _ := chg_table (T := T) (more := #[rawInt pos.line, rawInt pos.col, .ref c']) (q := X.env.qual ++ "<lambda>") hP nC (fun hT0 p hp => by
      have hE : ∀ b o, H b = some o → (∀ ps, o ≠ .tbl ps) → upd (upd H P (.tbl (ps ++ #[rawInt pos.line, rawInt pos.col, .ref c']))) c' (LamX.CodeO c' (X.env.qual ++ "<lambda>")) b = some o := fun b o e n => by
        rw [upd_ne (ne_of_none e nC), upd_ne (fun z => n ps (Option.some.inj (e.symm.trans (by rw [z]; exact hP))))]
        exact e
      by_cases hb : p.1 = P
      · rw [hu p hp hb, hb]
        refine ⟨_, by rw [upd_ne (ne_of_none hP nC), upd_same], by rw [eL]; exact PySem.TriplesOk_snoc _ _ _ _ ht, fun p' cv hcv => ?_⟩
        rw [eL] at hcv
        rcases LamX.among_app _ ht hcv with z | z
        · obtain ⟨c0, e1, e2⟩ := ha p' cv z
          exact ⟨c0, e1, hE _ _ e2 LamX.codeO_ne⟩
        · exact ⟨c', z, upd_same⟩
      · obtain ⟨ps', a1, a2, a3⟩ := hT0 p hp
        refine ⟨ps', by rw [upd_ne (ne_of_none a1 nC), upd_ne hb]; exact a1, a2, fun p' cv hcv => ?_⟩
        obtain ⟨c0, e1, e2⟩ := a3 p' cv hcv
        exact ⟨c0, e1, hE _ _ e2 LamX.codeO_ne⟩)
    have n1 : h'.objs.size ≠ c' := Nat.ne_of_gt hlt
    have n2 : h'.objs.size ≠ P := Nat.ne_of_gt (Nat.lt_of_lt_of_le (Heap.lt_size hP') hsz)
    exact lam_take I I1 cg hsz (by rw [upd_ne n1, upd_ne n2]; exact I.hok.fresh hsz) upd_same q
  | some cv =>
    obtain ⟨c', e, hco⟩ := ha pos cv hc
    subst e
    refine PySem.W.kla_makeFunctionHit (mg := X.mg) (c := c) (P := P) (ps := ps) (closure_ok hfree) I.ok.glob (I.mod.glob.keeps I.bk) hcode (TB.code.keeps I.bk) hP' ht hc (TB.bm.keeps I.bk) fun ctv h' tk hx hsz => ?_
    have I1 : Inv X pins σ H { s with heap := h'.push (lamOb X params body scope ((X.mg "__name__").getD .none) c' ctv), toks := tk } := I.kept fun b o e => Heap.get?_push_of_some _ (hx b o e)
    exact lam_take I I1 .refl hsz (I.hok.fresh hsz) hco q
end
end K7
/-! ## K9B -/
set_option Elab.async false
set_option linter.all false
set_option maxRecDepth 100000
set_option maxHeartbeats 4000000
/-! A lambda with one parameter, called. -/
namespace K7
open PySem PySem.Spec PyProof.Rows L2
/-- one parameter a, no cell of its own; captured names and globals -/
structure LamS1 (sc scope : Scope) (a : Str) : Prop where
  kind : scope.kind = .function
  co : scope.isCoroutine = false
  gen : scope.isGenerator = false
  par : scope.names.lookup a = some .local
  loc : ∀ y, scope.names.lookup y = some .local → y = a
  nocell : ∀ y ∈ scope.names, y.2 ≠ .cell
  free : ∀ y ∈ scope.names, y.2 = .free → sc.names.lookup y.1 = some .cell ∨ sc.names.lookup y.1 = some .free
theorem LamS1.has {X : Cx} {scope : Scope} {a : Str} (L : LamS1 X.env.scope scope a) (ok : X.Ok) : ∀ y ∈ scope.names, y.2 = .free → ∃ c, X.env.cells.lookup y.1 = some c := fun y hy e => by
  rcases L.free y hy e with k | k
  · exact ok.has _ (.inl k)
  · exact ok.has _ (.inr k)
def lamCx1 (X : Cx) (A : Around) (s : Shared) (H : Hp) (scope : Scope) (f c' : Addr) (a : Str) : Cx := { LamX.lamCx X A X.stack s H E0 scope f c' with N := X.N ++ [a], xe := fun _ _ => False }
theorem lam_in {X : Cx} {pins : List (Addr × Obj)} {σ : L2.St} {H : Hp} {s : Shared} {A : Around} {scope : Scope} {f c' : Addr} {a : Str} {u : Value} {v : V} {h₁ : Heap} {tk : Nat} (I : Inv X pins σ H s) (L : LamS1 X.env.scope scope a) (hN : a ∉ X.N) (e0 : Env0 X.prog X.w X.K X.mg X.base A X.stack s H) (hd : A.handled = none) (r : RelV v u)
    (hns : h₁.Ns s.heap.objs.size fun y => ([(a, u)] : List (Str × Value)).reverse.lookup y) (kp : ∀ b o, s.heap.get? b = some o → h₁.get? b = some o) : Inv (lamCx1 X A s H scope f c' a) [] (σ ++ [some v]) H { s with heap := h₁, toks := tk } := by
  have hfree := L.has I.ok
  have cm : ∀ {y c}, (cloFrom X.env.cells scope.names []).lookup y = some c → X.env.cells.lookup y = some c := fun {y c} e => by
    rcases cloFrom_mem (PySem.mem_of_lookup e) with hm | ⟨h1, h2⟩
    · cases hm
    · obtain ⟨c1, hc⟩ := hfree _ h1 rfl
      have hc : X.env.cells.lookup y = some c1 := hc
      have e2 : c = c1 := by
        rw [h2, hc] <;> rfl
      rw [e2]
      exact hc
  have look : ∀ {y}, scope.names.lookup y = some .free → ∃ c, (cloFrom X.env.cells scope.names []).lookup y = some c := fun {y} hl => by
    have hy : (y, NameKind.free) ∈ scope.names := PySem.mem_of_lookup hl
    exact mem_lookup (cloFrom_has (cells := X.env.cells) (acc := []) hy)
  have cellK : ∀ {c : Addr} {v : Option Value}, s.heap.IsCell c v → h₁.IsCell c v := fun {c v} ⟨o, ho, hd⟩ => ⟨o, kp _ _ ho, hd⟩
  have noA : ∀ b : Addr, b ∉ (lamCx1 X A s H scope f c' a).ex := fun b z => absurd (show b ∈ ([] : List Addr) from z) (by simp)
  refine ⟨⟨e0.mod, L.kind, rfl, rfl, Nat.le_refl _, fun y z c e1 e2 => I.ok.inj y z c (cm e1) (cm e2), fun y hy => ?_, fun y c z _ => ?_, fun _ => hd, Around.frames_deeper e0.frames, .inr ⟨rfl, rfl⟩, fun b z => absurd z (noA b), e0.bs, e0.bsz, fun b _ _ => noA b,
      fun b z => absurd z (noA b), e0.funs, e0.frf⟩,
    rfl, e0.bare, Un.kept kp, ⟨_, hns, fun i y v' e1 e2 e3 => ?_⟩, fun y c e => ?_, e0.hok.fresh (Nat.le_refl _), fun y c e => ?_, fun q hq => absurd (show q ∈ ([] : List (Addr × Obj)) ++ [] from hq) (by simp), e0.hok.kept kp, ?_⟩
  · have hy : scope.names.lookup y = some .cell ∨ scope.names.lookup y = some .free := hy
    rcases hy with hy | hy
    · exact absurd rfl (L.nocell _ (PySem.mem_of_lookup hy))
    · exact look hy
  · have z : false = true := z
    cases z
  · have e3 : Vis scope y := e3
    have e1 : (X.N ++ [a])[i]? = some y := e1
    have hl := I.len
    rcases e3 with k | k | k
    · have ey := L.loc y k
      subst ey
      have hi : i = X.N.length := by
        by_cases hlt : i < X.N.length
        · rw [List.getElem?_append_left hlt] at e1
          exact absurd (List.mem_of_getElem? e1) hN
        · have := (List.getElem?_eq_some_iff.mp e1).1
          rw [List.length_append] at this
          simp only [List.length_cons, List.length_nil] at this
          omega
      subst hi
      rw [← hl, List.getElem?_concat_length] at e2
      cases e2
      exact ⟨u, r, .inl ⟨k, by simp⟩⟩
    · exact absurd rfl (L.nocell _ (PySem.mem_of_lookup k))
    · have hya : y ≠ a := fun z => by
        rw [z, L.par] at k
        cases k
      have hlt : i < X.N.length := by
        by_cases hlt : i < X.N.length
        · exact hlt
        · have := (List.getElem?_eq_some_iff.mp e1).1
          rw [List.length_append] at this
          simp only [List.length_cons, List.length_nil] at this
          have hi : i = X.N.length := by omega
          subst hi
          rw [List.getElem?_concat_length] at e1
          cases e1
          exact absurd rfl hya
      rw [List.getElem?_append_left hlt] at e1
      rw [List.getElem?_append_left (by rw [hl]; exact hlt)] at e2
      obtain ⟨m, hn, hlk⟩ := I.loc
      have hvis : Vis X.env.scope y := (L.free _ (PySem.mem_of_lookup k) rfl).elim (fun k => .inr (.inl k)) (fun k => .inr (.inr k))
      obtain ⟨w', r, q⟩ := hlk i y v' e1 e2 hvis
      obtain ⟨c2, h2⟩ := look k
      refine ⟨w', r, .inr ⟨.inr k, c2, h2, ?_⟩⟩
      have c1 := cm h2
      rcases q with ⟨k', _⟩ | ⟨_, c3, e', z⟩
      · have k' : X.env.scope.names.lookup y = some .local := k'
        rcases L.free _ (PySem.mem_of_lookup k) rfl with k2 | k2 <;> rw [show X.env.scope.names.lookup y = _ from k2] at k' <;> cases k'
      · rw [c1] at e'
        cases e'
        exact cellK z
  · obtain ⟨w', z⟩ := I.cell y c (cm e)
    exact ⟨w', cellK z⟩
  · exact I.freeC y c (cm e)
  · rw [List.length_append, I.len]
    show X.N.length + 1 = (X.N ++ [a]).length
    rw [List.length_append]
    rfl
/-- f(v) -/
theorem lam_call {T : List (Addr × Str)} {X : Cx} {pins : List (Addr × Obj)} {σ : L2.St} {H : Hp} {s : Shared} {A : Around} {params : Arguments} {body : Expr} {scope : Scope} {f c' : Addr} {a : Str} {pm ctv : Value} {u : Value} {v : V} {Q : VK} (I : Inv X pins σ H s) (L : LamS1 X.env.scope scope a) (hN : a ∉ X.N) (e0 : Env0 X.prog X.w X.K X.mg X.base A X.stack s H) (hr : Room 1 A)
    (hf : H f = some (LamO f (lamOb X params body scope pm c' ctv))) (hc : H c' = some (LamX.CodeO c' (X.env.qual ++ "<lambda>"))) (r : RelV v u) (hbind : ∀ u, bindArgs (PySem.W.kla_fn "<lambda>" (X.env.qual ++ "<lambda>") params body scope (cloFrom X.env.cells scope.names []) pm (.ref c') ctv) ⟨[u], []⟩ = pure [(a, u)])
    (hbody : wE (lamCx1 X A s H scope f c' a) body (σ ++ [some v]) H Q) : codeAny (model X.prog X.w) A (.call (.ref f) ⟨[u], []⟩) (CR CX0 X.stack X.prog X.w H s Q E0) s := by
  have of1 : s.heap.get? f = some (lamOb X params body scope pm c' ctv) := (show ObjOk X.prog X.w H s.heap f (LamO f _) from I.hok f _ hf).1
  obtain ⟨⟨oc, vs, t, hoc, hdc, hvc⟩, _, _⟩ := I.hok c' _ hc
  refine PySem.W.kla_callFunE hr.depth of1 rfl L.co L.gen rfl ⟨c', oc, vs, t, rfl, hoc, hdc, hvc⟩ ?_
  rw [hbind]
  refine wpAny_pure (wpAny_newFunctionEnv (fun y hy => L.nocell y hy) (fun y hy => by rw [List.mem_singleton.mp hy]; exact L.par) (fun h₁ hns hsb => ⟨(I.mod.nolimit.keeps I.bk).fresh _ hsb, ?_⟩) L.kind)
  show codeAny _ _ (.expr body (LamX.lamEnv X scope s.heap.objs.size f c')) _ _
  have kp : ∀ b o, s.heap.get? b = some o → h₁.get? b = some o := fun b o e => hsb.extBut b o (Nat.ne_of_lt (Heap.lt_size e)) (Heap.get?_push_of_some _ e)
  have J := lam_in (tk := s.toks + ([(a, u)] : List (Str × Value)).length) (f := f) (c' := c') I L hN e0 hr.hd r hns kp
  refine PySem.W.kla_codeExpr (wpAny_mono (hbody [] _ J) (fun v s' hq => ?_) fun e s' hq => hq.elim)
  obtain ⟨w', H', J', rv, q⟩ := hq
  exact ⟨w', H', J'.os, J'.bare, J'.base, J'.hok, rv, q⟩
end K7
/-! ## K9C -/
set_option Elab.async false
set_option linter.all false
set_option maxRecDepth 100000
set_option maxHeartbeats 4000000
/-! min(a list, key=f). -/
namespace K7
open PySem PySem.Spec PyProof.Rows L2
/-- what f (as a value) does with one of vs, tables T; kf i: its answer for the i-th -/
def KeyOk (T : List (Addr × Str)) (X : Cx) (σ : L2.St) (f : Value) (vs : List V) (kf : Nat → Int) (H0 : Hp) : Prop :=
  ∀ (i : Nat) (x : V) (u : Value) (pins : List (Addr × Obj)) (H1 : Hp) (s : Shared) (E : Value → Shared → Prop), vs[i]? = some x → RelV x u → Ex T H0 H1 → Inv X pins σ H1 s →
    wpAny (model X.prog X.w) X.A.in1 (call f [u]) (CE X.stack X.prog X.w H1 s (fun r H2 => r = .int (kf i) ∧ Ex T H1 H2)) E s
section
variable {T : List (Addr × Str)} {X : Cx} {pins : List (Addr × Obj)} {σ : L2.St} {H : Hp} {s : Shared} {n : Nat}
/-- two untracked records have changed -/
theorem inv_moved {H0 : Hp} {s0 s1 s2 : Shared} {I S : Addr} (I0 : Inv X pins σ H0 s0) (J : Inv X pins σ H s1) (hS : s0.heap.objs.size ≤ S) (hI : s0.heap.objs.size ≤ I) (nS : H S = none) (nI : H I = none) (m : Moved [S, I] (fun a b => b = a) s1 s2) : Inv X pins σ H s2 := by
  obtain ⟨m1, m2, m3, m4, m5⟩ := m
  obtain ⟨h2, g2, d2, t2, o2⟩ := s2
  have eg : g2 = s1.gens := m2
  have eo : o2 = s1.os := m4
  subst eg
  subst eo
  have nit : ∀ b u, H b = some u → b ∉ [S, I] := fun b u e z => by
    rcases List.mem_cons.mp z with z | z
    · rw [z, nS] at e; cases e
    · rw [List.mem_singleton.mp z, nI] at e; cases e
  have old : ∀ b ∈ [S, I], s0.heap.objs.size ≤ b := fun b hb => by
    rcases List.mem_cons.mp hb with z | z
    · rw [z]; exact hS
    · rw [List.mem_singleton.mp z]; exact hI
  have big : ∀ b ∈ [S, I], (b ∈ X.ex ∨ X.s_0.heap.objs.size ≤ b) ∧ b ≠ X.env.locals ∧ (∀ x c, X.env.cells.lookup x = some c → c ≠ b) ∧ ∀ p ∈ X.pn ++ pins, p.1 ≠ b := fun b hb => by
    have k := old b hb
    refine ⟨.inr (Nat.le_trans I0.sz k), fun z => ?_, fun x c e z => ?_, fun p hp z => ?_⟩
    · rw [z] at k; exact absurd (Nat.lt_of_lt_of_le I0.lt k) (Nat.lt_irrefl _)
    · obtain ⟨v, o, ho, _⟩ := I0.cell x c e
      rw [z] at ho; exact absurd (Nat.lt_of_lt_of_le (Heap.lt_size ho) k) (Nat.lt_irrefl _)
    · have ho := Heap.lt_size (I0.pin p hp).1
      rw [z] at ho; exact absurd (Nat.lt_of_lt_of_le ho k) (Nat.lt_irrefl _)
  refine J.step (h' := h2) (t' := t2) (g' := s1.gens) (d' := d2) (ch := [S, I]) big (fun b o _ _ hc e _ => m1 b o hc e) (fun b o _ _ hc e _ => ⟨o.slots, m1 b o hc e⟩) (fun _ _ _ _ n => n) (fun b o hc e => ⟨o, m1 b o hc e⟩) (fun _ _ e => e) (fun _ _ _ e => e) (fun b ps e => ⟨#[], by rw [e]; simp⟩) (fun mm hm => ?_) (fun b u e => ?_) J.bare
  · obtain ⟨o, es, ep, ho, r⟩ := hm
    exact ⟨o, es, ep, m1 _ o (fun z => (big _ z).2.1 rfl) ho, r⟩
  · refine (J.hok b u e).stay (fun c v hc q => m1 c v ?_ q) (fun _ q => q) fun _ _ q => q
    rcases hc with z | z
    · rw [z]; exact nit b u e
    · exact nit c _ z
theorem vals_refs : ∀ {as : List Addr} {us : List Value}, Vals (as.map V.ref) us → us = as.map Value.ref
  | [], _, .nil => rfl
  | a :: as, _, .cons h t => by
    cases h
    rw [vals_refs t]
    rfl
theorem min_key {H0 : Hp} {s0 : Shared} {f : Value} {L : Addr} {vs : List V} {kf : Nat → Int} {Q : VK} (c : Cok n X) (I0 : Inv X pins σ H0 s0) (hL : H0 L = some (.lst vs)) (hne : vs ≠ []) (hrf : ∃ as : List Addr, vs = as.map V.ref) (hk : KeyOk T X σ f vs kf H0) (hf : (∃ a, f = .ref a) ∨ ∃ b, f = .builtin b)
    (q : ∀ x H2, x ∈ vs → Ex T H0 H2 → Q x H2) : wpAny (model X.prog X.w) X.A (call (.builtin "min") [.ref L] [(Str.ofString "key", f)]) (EP X pins σ Q) X.xe s0 := by
  obtain ⟨its, r', pl, hz⟩ := I0.list (SqL.of hL)
  have hlen := r'.length
  have mainG : wpAny (model X.prog X.w) X.A.in1 (pyIter (.ref L)) (fun it s₂ => ∃ I fp wr G n P St J V bt, it = .ref I ∧ WalksS X.prog X.w X.A.in1 I fp wr G n P St ∧ St 0 s₂ ∧ (∀ b ∈ fp, b < s₂.heap.objs.size) ∧ 0 < n ∧ 
      KeyRun X.prog X.w X.A.in1 f .Lt s₂.heap.objs.size wr G n P St J V bt ∧ J s₂ ∧ ∀ v s', P (argBest bt (n - 1)) v → J s' → EP X pins σ Q v s') X.xe s0 := by
    refine PySem.W.iter_listW (A := X.A.in1) c.room.hd pl.isList fun s₂ e2 W hst hfp _ hk2 => ?_
    have eS : s₂.heap.objs.size = s0.heap.objs.size + 1 := by rw [e2]; exact Heap.size_push ..
    have nI : H0 s0.heap.objs.size = none := I0.hok.fresh (Nat.le_refl _)
    have nS : H0 s₂.heap.objs.size = none := I0.hok.fresh (by omega)
    have ex0 : ∀ {H1}, Ex T H0 H1 → (H1 s0.heap.objs.size = none → True) := fun _ _ => trivial
    have IL : Inv X pins σ H0 s₂ := by rw [e2]; exact I0.kept fun b o e => Heap.get?_push_of_some _ e
    refine ⟨_, _, _, _, _, _, _, (fun s' => ∃ H', Inv X pins σ H' s' ∧ Ex T H0 H' ∧ H' s0.heap.objs.size = none ∧ H' s₂.heap.objs.size = none), (fun i k s' => ∃ t, k = .int (kf i) t), (fun i j => decide (kf i < kf j)), rfl, W, hst, hfp, ?_, ⟨fun s1 s2 ⟨H', J, cx, a, b⟩ m => ⟨H', inv_moved I0 J (by omega) (Nat.le_refl _) b a m, cx, a, b⟩, fun _ _ _ _ h _ => h, ?_, ?_⟩, ⟨H0, IL, .refl, nI, nS⟩, ?_⟩
    · rw [List.size_toArray]
      have : vs.length ≠ 0 := fun z => hne (List.length_eq_zero_iff.mp z)
      omega
    · intro i v s1 o Q1 E1 hi hv ⟨H1, J1, cx, a, b⟩ ⟨st1, st2⟩ hS hq
      have hv' : its[i]? = some v := by simpa using hv
      obtain ⟨x, hx, rx⟩ : ∃ x, vs[i]? = some x ∧ RelV x v := by
        have hi' : i < vs.length := by rw [hlen]; exact (List.getElem?_eq_some_iff.mp hv').1
        obtain ⟨u', e1, e2⟩ := r'.get (List.getElem?_eq_getElem hi')
        rw [hv'] at e1
        cases e1
        exact ⟨vs[i], List.getElem?_eq_getElem hi', e2⟩
      refine wpAny_mono (hk i x v pins H1 s1 E1 hx rx cx J1) (fun u s2 h => ?_) fun _ _ e => e
      have hx2 := h
      obtain ⟨w', H2, os, bare, un, hok, rw', ⟨ew, c2⟩⟩ := hx2
      subst ew
      obtain ⟨w2, H2', J2, _, _⟩ := (J1.after h : EP X pins σ _ u s2)
      have fr : ∀ b, s0.heap.objs.size ≤ b → b ∉ frs X.stack := fun b hb z => by
        rcases List.mem_cons.mp (I0.stkSub b z) with z | z
        · rw [z] at hb; exact absurd (Nat.lt_of_lt_of_le I0.lt hb) (Nat.lt_irrefl _)
        · exact I0.nofs hb z
      obtain ⟨oI, hoI, hI2⟩ := st1
      have kI := un.keep _ _ hoI a (fr _ (Nat.le_refl _)) (by simp)
      have kS := un.keep _ _ hS b (fr _ (by omega)) (by simp)
      have nI2 := un.free _ _ hoI a (by simp)
      have nS2 := un.free _ _ hS b (by simp)
      have J3 : Inv X pins σ H2 s2 := by
        obtain ⟨hh, g, d, t, os'⟩ := s2
        obtain rfl : os' = s1.os := os
        exact J1.call (h' := hh) (g' := g) (d' := d) (t' := t) (ch := []) un hok bare (fun b z => absurd z (by simp))
      have L2 := (cx.trans c2).get hL
      obtain ⟨its2, r2, pl2, hz2⟩ := J3.list (SqL.of L2)
      refine hq u s2 ⟨H2, J3, cx.trans c2, nI2, nS2⟩ ⟨⟨oI, kI, hI2⟩, ?_⟩ kS rw' fun _ _ h => h
      rw [show its = its2 from by
        obtain ⟨as, e⟩ := hrf
        subst e
        rw [vals_refs r', vals_refs r2]]
      exact pl2.isList
    · intro i j ki kj s1 Q1 E1 hJ ⟨t1, e1⟩ ⟨t2, e2⟩ hq
      subst e1
      subst e2
      exact richCompare_gives (op := .Lt) (typeIs_int s1 _ t1) (typeIs_int s1 _ t2) F.slot_int_lt F.entry_int_lt (F.args_int_lt_2 _ _) (gives_int_lt _ _ t1 t2) (fun x => nomatch x) hq
    · intro v s' hP ⟨H', J, cx, _, _⟩
      have hv' := hP
      rw [List.getElem?_toArray] at hv'
      have hi' := (List.getElem?_eq_some_iff.mp hv').1
      rw [← hlen] at hi'
      obtain ⟨u', e1, e2⟩ := r'.get (List.getElem?_eq_getElem hi')
      rw [hv'] at e1
      cases e1
      exact ⟨_, H', J, e2, q _ _ (List.getElem_mem hi') cx⟩
  rcases hf with ⟨a, rfl⟩ | ⟨b, rfl⟩
  · exact call_min_walkK mainG
  · exact call_min_walkKB mainG
end
end K7
/-! ## K9D -/
set_option Elab.async false
set_option linter.all false
set_option maxRecDepth 100000
set_option maxHeartbeats 4000000
/-! min(a, key=..) as an expression. -/
namespace K7
open PySem PySem.Spec PyProof.Rows L2
section
variable {T : List (Addr × Str)} {X : Cx} {σ : L2.St} {H : Hp} {n : Nat} {a kx : Expr} {p pos kp : Pos} {Q : VK}
def MinA (T : List (Addr × Str)) (X : Cx) (σ : L2.St) (kx : Expr) (Q : VK) : VK := fun v H1 => ∃ L vs, v = .ref L ∧ H1 L = some (.lst vs) ∧ vs ≠ [] ∧ (∃ as : List Addr, vs = as.map V.ref) ∧ ∀ pins s, Inv X pins σ H1 s → wpAny (model X.prog X.w) X.A (eval kx X.env) (fun fv s2 => ∃ H2 kf, Inv X pins σ H2 s2 ∧ Ex T H1 H2 ∧ KeyOk T X σ fv vs kf H2 ∧ ((∃ a, fv = .ref a) ∨ ∃ b, fv = .builtin b) ∧ ∀ x H3, x ∈ vs → Ex T H2 H3 → Q x H3) X.xe s
theorem wE_minX (c : Cok n X) (hm : X.mg "min" = none) (hg : Gl X "min")
    (ha : wE X a σ H (MinA T X σ kx Q))
    (h1 : starEach [a] X.env = (false, eval a X.env) :: starEach [] X.env := by rfl) (he : backTo pos (starEach [a] X.env) = (false, eval a X.env) :: backTo pos (starEach [] X.env) := by rfl) (hpl : (backTo pos (starEach [a] X.env)).any (·.1) = false := by rfl) :
    wE X (.Call (.Name "min" p) [a] [⟨some "key", kx, kp⟩] pos) σ H Q := by
  intro pins s I
  refine wpAny_Call_Name_kw (ld_blt I hg hm PyProof.Rows.boot_min ?_ (by decide) (by decide))
  refine PyProof.Rows.callWith_kw (thn ((pa_cons (peW (e := a)) pa_nil h1).run pos pins s σ H (fun vs H1 => ∃ v, vs = [v] ∧ MinA T X σ kx Q v H1) I (ha.imp fun v H1 h => ⟨v, rfl, h⟩)) fun us s1 ⟨vs, H1, I1, r1, v, ev, hM⟩ => ?_) he hpl rfl rfl
  obtain ⟨L, xs, e1, hL, hne, hrf, q1⟩ := hM
  subst ev
  subst e1
  obtain ⟨u, rfl, ru⟩ := vals1 r1
  obtain rfl : u = Value.ref L := ru
  show wpAny _ _ (evalAll [(do let v ← eval kx X.env; standAt pos; pure v)]) _ _ s1
  refine wpAny_evalAll_cons (wpAny_bind (thn (q1 pins s1 I1) fun fv s2 ⟨H2, kf, I2, c2, K, hf, q2⟩ => wpAny_bind (wpAny_standAt (wpAny_pure ?_))))
  refine wpAny_evalAll_nil ?_
  exact min_key c I2 (c2.get hL) hne hrf K hf q2
theorem key_len {vs : List V} {H0 : Hp} {kf : Nat → Int} (hl : ∀ i x, vs[i]? = some x → ∃ p ys, x = .ref p ∧ SqP X.K H0 p ys ∧ kf i = ys.length) : KeyOk T X σ (.builtin "len") vs kf H0 := fun i x u pins H1 s E hx rx c1 I => by
  obtain ⟨p, ys, rfl, hs, ek⟩ := hl i x hx
  obtain rfl : u = Value.ref p := rx
  obtain ⟨its, r', pl, hz⟩ := I.tuple (c1.sp hs).t
  have hlen := r'.length
  have hn := line63
  refine len_tuple pl (by simp only [List.size_toArray] <;> omega) ?_
  exact ⟨.int ys.length, H1, rfl, I.bare, Un.refl, I.hok, ⟨s.toks + 1, by rw [List.size_toArray, hlen]⟩, by rw [ek], .refl⟩
theorem key_lam {vs : List V} {H0 : Hp} {kf : Nat → Int} {params : Arguments} {body : Expr} {scope : Scope} {f c' : Addr} {x : Str} {pm ctv : Value} (c : Cok (n + 2) X) (L : LamS1 X.env.scope scope x) (hN : x ∉ X.N)
    (hf : H0 f = some (LamO f (lamOb X params body scope pm c' ctv))) (hc : H0 c' = some (LamX.CodeO c' (X.env.qual ++ "<lambda>"))) (hbind : ∀ u, bindArgs (PySem.W.kla_fn "<lambda>" (X.env.qual ++ "<lambda>") params body scope (cloFrom X.env.cells scope.names []) pm (.ref c') ctv) ⟨[u], []⟩ = pure [(x, u)])
    (hbody : ∀ i v A s H1, vs[i]? = some v → Ex T H0 H1 → Cok n (lamCx1 X A s H1 scope f c' x) → wE (lamCx1 X A s H1 scope f c' x) body (σ ++ [some v]) H1 fun r H2 => r = .int (kf i) ∧ Ex T H1 H2) : KeyOk T X σ (.ref f) vs kf H0 := fun i v u pins H1 s E hv rv c1 I => by
  have rm : Room (n + 1) X.A.in1 := c.room.in1
  have e0 : Env0 X.prog X.w X.K X.mg X.base X.A.in1 X.stack s H1 := { I.env0 with frames := I.env0.frames }
  refine wpAny_call (codeAny_mono (lam_call (T := T) I L hN e0 (rm.mono (by omega)) (c1.get hf) (c1.get hc) rv hbind (hbody i v X.A.in1 s H1 hv c1 ⟨rm.deeper _, c.gd, rfl, ?_⟩)) fun r s' hq => ?_)
  · show (X.N ++ [x]).Nodup
    rw [List.nodup_append]
    exact ⟨c.nd, by simp, fun a ha b hb z => hN (by rw [List.mem_singleton.mp hb] at z; rw [← z]; exact ha)⟩
  cases r with
  | error e => exact False.elim hq
  | ok fl =>
    cases fl with
    | ret u => exact hq
    | next => exact False.elim hq
    | brk => exact False.elim hq
    | cont => exact False.elim hq
end
end K7
/-! ## K9E -/
set_option Elab.async false
set_option linter.all false
set_option maxRecDepth 100000
set_option maxHeartbeats 4000000
/-! list(a dict), d != {}, d.pop(k), while. -/
namespace K7
open PySem PySem.Spec PyProof.Rows L2
section
variable {prog : Program} {w : World} {A : Around} {E : Value → Shared → Prop} {s : Shared}
theorem samePairs_raw {nm : String} {a b : Addr} {es : Array DictEntry} {ep ep' : Nat} {Q : Bool → Shared → Prop} (ha : (a == sysModules) = false) (hb : (b == sysModules) = false)
    (da : s.heap.DictRaw a es ep) (db : s.heap.DictRaw b #[] ep') (h : Q (es.size == 0) s) : wpAny (model prog w) A (Builtin.Dict.samePairs nm a b) Q E s := by
  obtain ⟨oa, hoa, _, hda⟩ := da
  obtain ⟨ob, hob, _, hdb⟩ := db
  unfold Builtin.Dict.samePairs Builtin.Dict.showsAll
  rw [if_neg (show ¬ (a == sysModules) = true by rw [ha]; exact Bool.false_ne_true), if_neg (show ¬ (b == sysModules) = true by rw [hb]; exact Bool.false_ne_true)]
  refine wpAny_bind (wpAny_pure (wpAny_bind (wpAny_pure ?_)))
  refine wpAny_bind (wpAny_dictEntries hoa hda ?_)
  dsimp only
  refine wpAny_bind (wpAny_dictEntries hob hdb ?_)
  by_cases hsz : es.size = 0
  case neg =>
    rw [if_pos (by simpa using hsz)]
    have hbf : (es.size == 0) = false := by simpa using hsz
    rw [hbf] at h
    exact wpAny_bind (wpAny_rule (wpAny_pure h))
  case pos =>
    have h' : Q true s := by simpa [hsz] using h
    rw [if_neg (by rw [hsz]; simp)]
    refine wpAny_bind (wpAny_dictEpoch hoa hda ?_)
    refine wpAny_bind ?_
    rw [Std.Legacy.Range.forIn_eq_forIn_range']
    simp only [Std.Legacy.Range.size, Nat.sub_zero, Nat.add_sub_cancel, Nat.div_one]
    rw [hsz]
    show wpAny _ _ (pure _) _ _ s
    exact wpAny_pure (wpAny_pure h')
theorem ne_raw {a b : Addr} {es : Array DictEntry} {ep ep' : Nat} {Q : Value → Shared → Prop} (ha : (a == sysModules) = false) (hb : (b == sysModules) = false)
    (da : s.heap.DictRaw a es ep) (db : s.heap.DictRaw b #[] ep') (hu : A.units < cLine) (h : Q (.bool (!(es.size == 0))) s) : wpAny (model prog w) A (compareOp .NotEq (.ref a) (.ref b)) Q E s := by
  refine wpAny_richCompare_same_room (op := .NotEq) da.typeIs db.typeIs PySem.F.slot_dict_ne (wpAny_call_entry PySem.F.slot_dict_ne da.typeIs PySem.F.entry_dict_ne ?_ (PySem.F.args_dict_ne_2 _ _)) hu
  show wpAny _ _ (Builtin.Dict.dictSlotArgs "__ne__" ⟨[.ref a, .ref b], []⟩ >>= _) _ _ s
  refine wpAny_bind ?_
  unfold Builtin.Dict.dictSlotArgs
  refine wpAny_bind (wpAny_notOrdered_dict da.typeIs ?_)
  show wpAny _ _ (pure (Value.ref a, Value.ref b)) _ _ s
  refine wpAny_pure ?_
  refine wpAny_bind (wpAny_isInstance (T := "dict") db.typeIs PySem.F.sub_dict_dict ?_)
  simp only [Bool.not_true, Bool.false_eq_true, if_false]
  refine wpAny_bind (wpAny_pure (wpAny_bind (wpAny_pure ?_)))
  refine wpAny_bind (samePairs_raw ha hb da db ?_)
  refine wpAny_pure ⟨_, rfl, ?_, ?_⟩
  · exact fun x => nomatch x
  · simpa using h
end
section
variable {T : List (Addr × Str)} {X : Cx} {σ : L2.St} {H : Hp} {e a b c o i : Expr} {pos p pd : Pos} {n : Nat} {Q : VK} {dd : Addr} {kvt : List (List Key × V)} {ks : List Key} {D : Ends} {rest body : List Stmt}
theorem op_neT (c : Cok n X) : OpR X (compareOp .NotEq) (fun x y H Q => ∃ d1 d2 kvt, x = .ref d1 ∧ y = .ref d2 ∧ TD X.prog X.w X.K H d1 kvt ∧ TD X.prog X.w X.K H d2 [] ∧ Q (.bl (!(kvt.length == 0))) H) := by
  intro pins s σ H x y v u Q I rx ry h
  obtain ⟨d1, d2, kvt, rfl, rfl, t1, t2, q⟩ := h
  cases rx
  cases ry
  obtain ⟨hd, xs, es, ep, hr, _, _, hz, _⟩ := td_raw I t1
  obtain ⟨hd2, xs2, es2, ep2, hr2, _, _, hz2, _⟩ := td_raw I t2
  have e2 : es2 = #[] := Array.eq_empty_of_size_eq_zero (by rw [hz2]; rfl)
  subst e2
  refine ne_raw hd hd2 hr hr2 (by have := c.hu64; omega) ⟨.bl _, H, I, rfl, ?_⟩
  rw [hz]
  exact q
/-- d != {} -/
theorem ec_neT (c : Cok n X) (ha : EvV T X a σ H (.ref dd)) (t : TD X.prog X.w X.K H dd kvt) : EvC T X .NotEq a (.Dict [] [] pd) σ H (!(kvt.length == 0)) := fun H1 c1 Q q =>
  (ha H1 c1 _ fun H2 c2 => wE_newT (T := T) fun p H3 hp c3 t3 => ⟨_, op_neT c, dd, p, kvt, rfl, rfl, t.keep ((c1.trans c2).trans c3) (by simp), t3, q H3 (c2.trans c3)⟩)
theorem call_listTD (hc : X.calm = true) : CallR X (.type "list") (fun xs H Q => ∃ (dd : Addr) (kvt : List (List Key × V)), xs = [.ref dd] ∧ TD X.prog X.w X.K H dd kvt ∧ kvt.length ≤ 100000 ∧ ∀ p (as : List Addr), H p = none → DTs X.K H (as.map V.ref) (kvt.map fun e => keyDs e.1) → Q (.ref p) (upd H p (.lst (as.map V.ref)))) := by
  intro pins s σ H xs us Q I r h
  obtain ⟨dd, kvt, e, t, hz, q⟩ := h
  subst e
  rw [Vals.ref1 r]
  obtain ⟨hd, xk, es, ep, hr, hv, hk, hes, hget⟩ := td_raw I t
  have hxl : xk.length = kvt.length := by rw [← hv, view_len]
  refine PySem.W.kdl_call (KdlSrc.rawDict hd) (I.ok.hd hc) hr (by rw [hes]; exact Nat.le_of_lt (small5 hz)) fun h' tk acc c' hkp hS hacc => ?_
  have rv : Vals ((xk.map (·.2.1)).map V.ref) acc.toList := vals_of_get (by rw [List.length_map, List.length_map, hxl, ← hes, ← hacc.1]; exact Array.length_toList.symm) fun j x u e1 e2 => by
    obtain ⟨hi, e3⟩ := hacc.2 j u (by rw [← Array.getElem?_toList]; exact e2)
    obtain ⟨y, f1, f2, _⟩ := hget j hi
    rw [List.getElem?_map, List.getElem?_map, f1] at e1
    cases e1
    rw [e3, f2]
    rfl
  have hds : DTs X.K H ((xk.map (·.2.1)).map V.ref) (kvt.map fun e => keyDs e.1) := by
    rw [← hv]
    clear rv hget hxl hr hv q t
    induction xk with
    | nil => exact .nil
    | cons x xk ih => exact .cons (dt_ofKey (hk x (List.mem_cons_self ..))) (ih fun y hy => hk y (List.mem_cons_of_mem _ hy))
  refine ⟨.ref s.heap.objs.size, _, I.laid (o := .lst ((xk.map (·.2.1)).map V.ref)) (t' := tk) (fun b u e => hkp b u e) (Nat.le_refl _) ⟨?_, ?_⟩, rfl, q _ _ (I.hok.fresh (Nat.le_refl _)) hds⟩
  · rw [List.length_map, List.length_map, hxl]; exact Nat.le_of_lt (small5 hz)
  · exact ⟨acc.toList, c', rv, by rw [Array.toArray_toList]; exact hS⟩
theorem el_listTD (c0 : Cok n X) (hm : X.mg "list" = none) (h : EvV T X a σ H (.ref dd)) (t : TD X.prog X.w X.K H dd kvt) (hz : kvt.length ≤ 100000) (hg : Gl X "list") (h1 : starEach [a] X.env = (false, eval a X.env) :: starEach [] X.env)
    (q : ∀ p H1 (as : List Addr), H p = none → Ex T H H1 → H1 p = some (.lst (as.map V.ref)) → DTs X.K H1 (as.map V.ref) (kvt.map fun e => keyDs e.1) → Q (.ref p) H1) : wE X (.Call (.Name "list" p) [a] [] pos) σ H Q :=
  wE.of (pe_callTy (call_listTD c0.calm) hg hm (by decide +kernel) (pa_cons peW pa_nil h1) (by decide) (by decide) h1 (by rfl)) (h H .refl _ fun H2 c2 => ⟨dd, kvt, rfl, t.keep c2 (by simp), hz, fun p as hp hv => q p _ as (c2.back p hp) (c2.trans (.new hp)) upd_same (Chg.dts (T := T) (S := []) (.new hp) hv)⟩)
/-- d.pop(k) as a statement -/
theorem ws_popT {v : V} {apos cpos : Pos} (c : Cok n X) (ho : EvV T X o σ H (.ref dd)) (hi : EvD T X i σ H (keyDs ks)) (t : TD X.prog X.w X.K H dd kvt) (hv : valV kvt ks = some v)
    (q : ∀ H1, Chg T [dd] H H1 → TD X.prog X.w X.K H1 dd (dropK kvt ks) → wS X rest D σ H1) (hs : swapsWith (.Call (.Attribute o "pop" apos) [i] [] cpos) none pos.line X.env = pure false := by rfl) (mm : M1 X o "pop" apos i cpos := by exact ⟨rfl, rfl, rfl, rfl⟩) : wS X (.Expr (.Call (.Attribute o "pop" apos) [i] [] cpos) pos :: rest) D σ H :=
  ws_drop (wE_methT PySem.F.slot_dict_pop PySem.F.type_dict_pop (ho H .refl _ fun H2 c2 => ⟨dd, kvt, rfl, t.keep c2 (by simp), hi H2 c2 _ fun y H3 c3 hy pins s u I ry => by
    obtain ⟨p, e, sq⟩ := dt_key hy
    subst e
    cases ry
    exact td_pop (T := T) c.hu I (t.keep (c2.trans c3) (by simp)) sq.t hv fun w' H' s' r I' cg t' => ⟨v, H', I', r, q H' ((c2.trans c3).then_ cg) t'⟩⟩) mm) hs
/-- while, by a measure -/
theorem ws_while {cd : Expr} (W : Nat → L2.St → Hp → Prop) (m : Nat) (h0 : W m σ H) (hs : ∀ m σ1 H1, W m σ1 H1 → ∃ b, EvT T X cd σ1 H1 b ∧ (b = true → ∀ H2, Ex T H1 H2 → wS X body { D with nx := fun σ' H' => ∃ m', m' < m ∧ W m' σ' H', ct := fun σ' H' => ∃ m', m' < m ∧ W m' σ' H', bk := wS X rest D } σ1 H2) ∧ (b = false → ∀ H2, Ex T H1 H2 → wS X rest D σ1 H2))
    (hp : PassesOwn (model X.prog X.w) X.A X.env X.xe := by exact PassesOwn.never) : wS X (.While cd body [] pos :: rest) D σ H :=
  wS_cons (ps_while hp ptW pssW) ⟨W, ⟨m, h0⟩, fun m σ1 H1 hW => by
    obtain ⟨b, hb, h1, h2⟩ := hs m σ1 H1 hW
    refine hb H1 .refl _ fun H2 c2 => ?_
    cases b with
    | true =>
      rw [if_pos rfl]
      exact ⟨_, fun σ' H' h => h, h1 rfl H2 c2⟩
    | false =>
      rw [if_neg (by decide)]
      exact h2 rfl H2 c2⟩
end
end K7
/-! ## K9F -/
set_option Elab.async false
set_option linter.all false
set_option maxRecDepth 100000
set_option maxHeartbeats 4000000
/-! {k: v} with a tuple as key; two names at once. -/
namespace K7
open PySem PySem.Spec PyProof.Rows L2
section
variable {T : List (Addr × Str)} {X : Cx} {σ : L2.St} {H : Hp} {e a b c o i kx vx : Expr} {pos p pd : Pos} {n : Nat} {Q : VK} {dd : Addr} {kvt : List (List Key × V)} {ks : List Key} {D : Ends} {rest body : List Stmt} {d : PyData}
def pr1 (X : Cx) (kx vx : Expr) (pos : Pos) : List (Sem Value × Sem Value) := [(eval kx X.env, (do let x ← eval vx X.env; standAt pos; pure x))]
theorem wE_disp1 (c : Cok n X) (hk : EvD T X kx σ H (keyDs ks)) (hv : EvD T X vx σ H d) (q : ∀ r v H', H r = none → Ex T H H' → TD X.prog X.w X.K H' r [(ks, v)] → DT X.K H' v d → Q (.ref r) H')
    (hshape : (evalEachOpt [some kx] X.env).zip ((evalEach [vx] X.env).map fun v => do let x ← v; standAt pos; pure x) = (pr1 X kx vx pos).map (fun p => (some p.1, p.2)) := by rfl) : wE X (.Dict [some kx] [vx] pos) σ H Q := by
  intro pins s I
  rw [arm_eval_Dict, hshape, dictDisplay_pairs (pr1 X kx vx pos) (by unfold pr1; simp) (by unfold pr1; simp)]
  have hn : H s.heap.objs.size = none := I.hok.fresh (Nat.le_refl _)
  have hb : (s.heap.objs.size == sysModules) = false := beq_eq_false_iff_ne.mpr (Ne.symm (Nat.ne_of_lt I.big))
  have hget : (s.heap.push { cls := .type "dict", data := .dict #[] }).get? s.heap.objs.size = some { cls := .type "dict", data := .dict #[] } := Heap.get?_push_size _ rfl
  have I1 : Inv X pins σ H { s with heap := s.heap.push { cls := .type "dict", data := .dict #[] } } := I.kept fun b o e => Heap.get?_push_of_some _ e
  have f0 : FpOk X pins H s.heap.objs.size := I.fpOk (Nat.le_refl _) hn
  have IP := I1.pinned (fp := [s.heap.objs.size]) (fun b hb => by rw [List.mem_singleton.mp hb]; exact f0) (fun b hb => by rw [List.mem_singleton.mp hb]; exact ⟨_, hget, fun v z => by cases z⟩)
  refine wpAny_bind (wpAny_standAt (wpAny_bind (wpAny_subDictH (knd := tupleKind (mixKind X.prog X.w)) (Q := fun d s' => wpAny (model X.prog X.w) X.A (pure (Value.ref d)) (EP X pins σ Q) X.xe s') (by have := c.hu; show X.A.units < cLine; omega) (by unfold pr1; simp) ?_)))
  unfold pr1
  refine evalPairs_cons (thn (hk H .refl (fun v H' => Ex T H H' ∧ DT X.K H' v (keyDs ks)) (fun v H' c h => ⟨c, h⟩) _ _ IP) fun u s1 ⟨y, H1, J1, r1, c1, hy⟩ => wpAny_bind (thn (hv H1 c1 (fun v H' => Ex T H1 H' ∧ DT X.K H' v d) (fun v H' c h => ⟨c, h⟩) _ _ J1) fun u2 s2 ⟨v, H2, J2, r2, c2, hv2⟩ => wpAny_bind (wpAny_standAt (wpAny_pure (evalPairs_nil ?_)))))
  obtain ⟨kb, e, sq⟩ := dt_key (c2.dt hy)
  subst e
  obtain rfl : u = Value.ref kb := r1
  have pin := J2.pin (s.heap.objs.size, { cls := .type "dict", data := .dict #[] }) (List.mem_append_right _ (List.mem_append_right _ (mem_pinsAt (List.mem_singleton.mpr rfl) hget)))
  have J3 : Inv X pins σ H2 s2 := J2.unpinned
  have hkey := keyT J3 sq.t
  refine ⟨[(ks, kb, u2)], ⟨rfl, rfl, hkey, trivial⟩, ⟨_, #[], 0, pin.1, ⟨rfl, rfl, rfl⟩, rfl, rfl, fun y hy => absurd hy (by simp), List.nodup_nil⟩, fun h' tk hd hs => wpAny_pure ?_⟩
  have f2 : FpOk X pins H2 s.heap.objs.size := ⟨pin.2.1, f0.2⟩
  have est : storedAllH ([] : List (List Key × Addr × Value)) [(ks, kb, u2)] = [(ks, kb, u2)] := rfl
  rw [est] at hd
  obtain ⟨o', es, ep, ho', hx', hdat', he', his, hnd⟩ := hd
  have hxr : XR [(ks, kb, v)] [(ks, kb, u2)] := .cons ⟨rfl, rfl, r2⟩ .nil
  have hok := rawD_ok (P := X.prog) (w := X.w) (H := upd H2 s.heap.objs.size (rawD X.prog X.w s.heap.objs.size [(ks, kb, v)])) hb hxr hnd ho' hx' hdat' he'
  have c3 : Ex T H2 (upd H2 s.heap.objs.size (rawD X.prog X.w s.heap.objs.size [(ks, kb, v)])) := .new pin.2.1
  exact ⟨.ref s.heap.objs.size, _, J3.take (t' := tk) (fun b ob nb e => by rw [hs.2 b nb]; exact e) f2 hok, rfl, q _ v _ hn ((c1.trans c2).trans c3) ⟨⟨_, upd_same, rfl, fun x hx => by rw [List.mem_singleton.mp hx]; exact c3.sp sq⟩, by simp⟩ (c3.dt hv2)⟩
/-- x, y = (a, b): a cell among them -/
theorem ws_unpV (i j : Nat) {x y : Str} {p1 p2 pt pt2 : Pos} {kt k2 : Nat} (c0 : Cok n X) (h : wA X [a, b] σ H fun vs H1 => ∃ v1 v2, vs = [v1, v2] ∧ ∀ p H2, H1 p = none → Ex T H1 H2 → wS X rest D ((σ.set i (some v1)).set j (some v2)) H2)
    (hi : X.N[i]? = some x := by rfl) (hj : X.N[j]? = some y := by rfl) (hx : Loc X.env.scope x := by first | exact Or.inl rfl | exact Or.inr rfl) (hy : Loc X.env.scope y := by first | exact Or.inl rfl | exact Or.inr rfl)
    (hfx : X.fn x = true ∨ X.env.scope.names.lookup x = some .local := by first | exact .inl rfl | exact .inr rfl) (hfy : X.fn y = true ∨ X.env.scope.names.lookup y = some .local := by first | exact .inl rfl | exact .inr rfl)
    (hs : swapsWithSole [.Tuple [.Name x p1, .Name y p2] kt pt] (.Tuple [a, b] k2 pt2) pos.line X.env = pure false := by rfl) (hw : swappedStores [.Tuple [.Name x p1, .Name y p2] kt pt] (.Tuple [a, b] k2 pt2) X.env = pure none := by rfl) :
    wS X (.Assign [.Tuple [.Name x p1, .Name y p2] kt pt] (.Tuple [a, b] k2 pt2) pos :: rest) D σ H :=
  wS_cons (ps_asg peW (pg_tup (n := 2) c0.calm (pgs_cons (pg_name c0.nd hi hx hfx) (pgs_cons (pg_name c0.nd hj hy hfy) pgs_nil))) hs hw (by rfl)) (wE_tup (h.imp fun vs H1 ⟨v1, v2, e, k⟩ => by
    subst e
    refine ⟨by show 2 ≤ sizeLine; decide, fun p o hp ho => ⟨p, [v1, v2], rfl, (SqP.t (.inl ⟨o, upd_same, ho⟩)), rfl, v1, _, rfl, v2, _, rfl, rfl, k p _ hp (.new hp)⟩⟩))
/-- x, y = (a, b): both plain locals -/
theorem ws_parV (i j : Nat) {x y : Str} {p1 p2 pt pt2 : Pos} {kt k2 : Nat} (c0 : Cok n X) (h : wA X [a, b] σ H fun vs H1 => ∃ v1 v2, vs = [v1, v2] ∧ wS X rest D ((σ.set i (some v1)).set j (some v2)) H1)
    (hi : X.N[i]? = some x := by rfl) (hj : X.N[j]? = some y := by rfl) (hij : i ≠ j := by decide) (hx : X.env.scope.names.lookup x = some .local := by rfl) (hy : X.env.scope.names.lookup y = some .local := by rfl)
    (hw : swappedStores [.Tuple [.Name x p1, .Name y p2] kt pt] (.Tuple [a, b] k2 pt2) X.env = pure (some [x, y]) := by rfl) (hs : swapsWithSole [.Tuple [.Name x p1, .Name y p2] kt pt] (.Tuple [a, b] k2 pt2) pos.line X.env = pure false := by rfl) :
    wS X (.Assign [.Tuple [.Name x p1, .Name y p2] kt pt] (.Tuple [a, b] k2 pt2) pos :: rest) D σ H :=
  wS_cons (ps_par c0.calm c0.nd hi hj hij hx hy paW hw hs) (h.imp fun vs H1 ⟨v1, v2, e, k⟩ => ⟨v1, v2, e, k⟩)
end
end K7
/-! ## K9G -/
set_option Elab.async false
set_option linter.all false
set_option maxRecDepth 100000
set_option maxHeartbeats 4000000
/-! A dict with tuple keys while it is walked. -/
namespace K7
open PySem PySem.Spec PyProof.Rows L2
structure TF (P : Program) (w : World) (K : PySem.W.Frag) (H : Hp) (a : Addr) (kvs : List (List Key × V)) (od : Obj) (xs : List XK) : Prop where
  at_ : H a = some (.frz od (rawD P w a xs))
  vw : view xs = kvs
  ks : ∀ x ∈ xs, SqP K H x.2.1 (x.1.map kV)
section
variable {T : List (Addr × Str)} {X : Cx} {pins : List (Addr × Obj)} {σ : L2.St} {H : Hp} {s : Shared} {n : Nat} {dd : Addr} {kvt : List (List Key × V)} {od : Obj} {xs : List XK} {o i e : Expr} {pos : Pos} {ks : List Key} {v : V} {A : Around}
theorem TF.keep {P : Program} {w : World} {K : PySem.W.Frag} {H' : Hp} {S : List Addr} (t : TF P w K H dd kvt od xs) (c : Chg T S H H') (ha : dd ∉ S) : TF P w K H' dd kvt od xs :=
  ⟨c.keep dd _ ha t.at_ (fun ps z => by cases z), t.vw, fun x hx => c.sp (t.ks x hx)⟩
theorem tfDict (I : Inv X pins σ H s) (t : TF X.prog X.w X.K H dd kvt od xs) : (dd == sysModules) = false ∧ s.heap.get? dd = some od ∧ ∃ ys, XR xs ys ∧ s.heap.DictOfH (tupleKind (mixKind X.prog X.w)) dd ys := by
  obtain ⟨hod, ⟨hd, ys, r, nd, o, es, ep, ho, hx, hdat, he⟩, hzz⟩ := I.hok dd _ t.at_
  refine ⟨hd, hod, ys, r, o, es, ep, ho, hx, hdat, he, fun y hy => ?_, nd⟩
  have h3 := t.ks
  clear he nd hzz t
  induction r with
  | nil => cases hy
  | @cons p q ps qs hpq tl ih =>
    rcases List.mem_cons.mp hy with rfl | hy
    · have := keyT I (h3 p (List.mem_cons_self ..)).t
      rw [hpq.1, hpq.2.1] at this
      exact this
    · exact ih hy fun x hx => h3 x (List.mem_cons_of_mem _ hx)
theorem tf_getItem {b : Addr} {Q : Value → Shared → Prop} {E : Value → Shared → Prop} (hu : A.units + 1 < cLine) (I : Inv X pins σ H s) (t : TF X.prog X.w X.K H dd kvt od xs) (hk : SqT X.K H b (ks.map kV)) (hv : valV kvt ks = some v) (h : ∀ w' s', Inv X pins σ H s' → RelV v w' → Q w' s') :
    wpAny (model X.prog X.w) A (getItem (.ref dd) (.ref b)) Q E s := by
  obtain ⟨hd, _, ys, r, dc⟩ := tfDict I t
  obtain ⟨w', hw, rw'⟩ := RelO.some_of (v := v) (o := (atKey ys ks).map (·.2)) (by rw [← hv, ← t.vw]; exact r.val ks)
  obtain ⟨p, hp, hp2⟩ := Option.map_eq_some_iff.mp hw
  refine wpAny_getItem_heap (tupleKind_room_in1 hu) (keyT I hk) dc hp ?_
  rw [hp2]
  exact h w' _ (I.tok _) rw'
theorem ev_getF (c : Cok n X) (ho : EvV T X o σ H (.ref dd)) (hi : EvD T X i σ H (keyDs ks)) (t : TF X.prog X.w X.K H dd kvt od xs) (hv : valV kvt ks = some v) (hs : NoSl i := by exact fun _ _ => rfl) : EvV T X (.Subscript o i pos) σ H v := fun H1 c1 Q q pins s I => by
  refine subD_of PySem.F.slot_dict_getitem.lookup hs (thn (ho H1 c1 (fun x H2 => x = .ref dd ∧ Ex T H1 H2) (fun H2 c2 => ⟨rfl, c2⟩) pins s I) fun u s1 ⟨x, H2, I1, rx, e1, c2⟩ => thn (hi H2 (c1.trans c2) (fun x H3 => Ex T H2 H3 ∧ DT X.K H3 x (keyDs ks)) (fun v H3 c3 h => ⟨c3, h⟩) pins s1 I1) fun iv s2 ⟨y, H3, I2, ry, c3, hy⟩ => ?_)
  subst e1
  obtain ⟨p, e, sq⟩ := dt_key hy
  subst e
  cases rx
  cases ry
  have t3 := t.keep ((c1.trans c2).trans c3) (by simp)
  obtain ⟨hd, _, ys, r, dc⟩ := tfDict I2 t3
  exact ⟨dc.typeIs, tf_getItem c.hu I2 t3 sq.t hv fun w' s3 I3 rw' => ⟨v, H3, I3, rw', q H3 (c2.trans c3)⟩⟩
/-- e, the dict at dd locked -/
theorem wE_lockT {Q : VK} (t : TD X.prog X.w X.K H dd kvt) (h : ∀ od xs H1, Chg T [dd] H H1 → TF X.prog X.w X.K H1 dd kvt od xs → wE X e σ H1 fun v H2 => Ex T H1 H2 ∧ ∀ H3, Ex T H H3 → Chg T [dd] H2 H3 → TD X.prog X.w X.K H3 dd kvt → Q v H3) : wE X e σ H Q := by
  intro pins s I
  obtain ⟨⟨xs, h1, h2, h3⟩, sz⟩ := t
  have hcode := rawD_code I h1
  have mu : Mut (some (rawD X.prog X.w dd xs)) := by unfold rawD; trivial
  obtain ⟨od, I1⟩ := I.lock h1 mu
  have ca : Chg T [dd] H (upd H dd (.frz od (rawD X.prog X.w dd xs))) := td_set I h1 (by simp)
  refine thn (h od xs _ ca ⟨upd_same, h2, fun x hx => ca.sp (h3 x hx)⟩ pins s I1) fun u s1 ⟨v, H2, I2, r, c2, q⟩ => ?_
  have e2 := c2.keep dd _ (by simp) upd_same (fun ps z => by cases z)
  have cb : Chg T [dd] H2 (upd H2 dd (rawD X.prog X.w dd xs)) := by
    refine ⟨fun b v hb e _ => ?_, fun b e => ?_, ⟨fun b ys e => ?_, fun b v ys e => ?_⟩, fun t => tab_upd (fun ps z => by rw [e2] at z; cases z) (fun q z => by rw [e2] at z; unfold LamX.CodeO at z; cases z) t⟩
    · rw [upd_ne (fun z => hb (by rw [z]; simp))]; exact e
    · by_cases q : b = dd
      · rw [q, upd_same] at e; cases e
      · rw [upd_ne q] at e; exact e
    · have nb : b ≠ dd := fun z => by
        rw [z] at e
        rcases e with e | ⟨v, e⟩ <;> rw [e2] at e <;> unfold rawD at e <;> cases e
      rcases e with e | ⟨v, e⟩
      · exact .inl (by rw [upd_ne nb]; exact e)
      · exact .inr ⟨v, by rw [upd_ne nb]; exact e⟩
    · rw [upd_ne (fun z => by rw [z, e2] at e; unfold rawD at e; cases e)]; exact e
  have cc : Chg T [dd] H (upd H2 dd (rawD X.prog X.w dd xs)) := (ca.and_ c2).trans cb
  have ex : Ex T H (upd H2 dd (rawD X.prog X.w dd xs)) := by
    refine ⟨fun b o _ e n => ?_, cc.back, cc.tup, cc.tab⟩
    by_cases hb : b = dd
    · rw [hb, h1] at e
      cases e
      rw [hb, upd_same]
    · exact cc.keep b o (by simp [hb]) e n
  exact ⟨v, _, I2.unlock e2 (I.nofrz h1 mu), r, q _ ex cb ⟨⟨xs, upd_same, h2, fun x hx => ex.sp (h3 x hx)⟩, sz⟩⟩
/-! ### the walk over its keys -/
def ItF (P : Program) (w : World) (K : PySem.W.Frag) (d : Addr) (kvt : List (List Key × V)) (od : Obj) (xs : List XK) : It := ⟨fun i H => TF P w K H d kvt od xs ∧ i < xs.length, fun i H x H' => H' = H ∧ ∃ y, xs[i]? = some y ∧ x = .ref y.2.1, fun i H => TF P w K H d kvt od xs ∧ xs.length ≤ i⟩
theorem tf_raw (I : Inv X pins σ H s) (t : TF X.prog X.w X.K H dd kvt od xs) : (dd == sysModules) = false ∧ ∃ es ep, od.data = .dict es ep ∧ s.heap.DictRaw dd es ep ∧ es.size = xs.length ∧ ∀ i (hi : i < es.size), ∃ y, xs[i]? = some y ∧ es[i].key = .ref y.2.1 := by
  obtain ⟨hd, hod, ys, r, dc⟩ := tfDict I t
  obtain ⟨es, ep, hr, hs, hx⟩ := dc.raw
  have hl : xs.length = ys.length := Paired.length r
  obtain ⟨o', ho', hx', hdat'⟩ := id hr
  rw [hod] at ho'
  cases ho'
  refine ⟨hd, es, ep, hdat', hr, by rw [hs, hl], fun i hi => ?_⟩
  obtain ⟨y, e1, e2, _⟩ := hx i hi
  have : ∀ {xs : List XK} {ys : List YK} {i : Nat} {y : YK}, XR xs ys → ys[i]? = some y → ∃ x, xs[i]? = some x ∧ x.2.1 = y.2.1 := by
    intro xs ys i y r
    induction r generalizing i with
    | nil => intro e; simp at e
    | @cons p q ps qs h t ih =>
      intro e
      cases i with
      | zero => simp only [List.getElem?_cons_zero, Option.some.injEq] at e; subst e; exact ⟨p, rfl, h.2.1⟩
      | succ i => obtain ⟨x, a1, a2⟩ := ih (i := i) (by simpa using e); exact ⟨x, by simpa using a1, a2⟩
  obtain ⟨x, f1, f2⟩ := this r e1
  exact ⟨x, f1, by rw [e2, f2]⟩
theorem turn_F {P : Program} {w : World} {K : PySem.W.Frag} {tg : Expr} (it : Addr) {es : Array DictEntry} {ep : Nat} (hod : od.data = .dict es ep) : Turn P w K tg (ItF P w K dd kvt od xs) [it] it (fun i h => h.IsKeyIter it dd i es.size ep) where
  mem := by simp
  obj := fun i h st b hb => by
    have e : b = it := by simpa using hb
    subst e
    obtain ⟨oi, e, c, dd⟩ := st
    exact ⟨oi, e, fun v z => by rw [dd] at z; cases z⟩
  keep := fun i h h' st k => st.at fun oi e => k it (by simp) oi e
  item := by
    intro X hP hw hK hc i pins s σ H E I hf st hg
    subst hP hw hK
    obtain ⟨t, hi⟩ := hg
    obtain ⟨f0, f1, f2, f3, f4, f5⟩ := hf it (by simp)
    obtain ⟨hd, es', ep', hdt, hr, hsz, hget⟩ := tf_raw I t
    obtain ⟨rfl, rfl⟩ : es = es' ∧ ep = ep' := by rw [hod] at hdt; cases hdt; exact ⟨rfl, rfl⟩
    have hi' : i < es.size := by omega
    obtain ⟨y, hy, ek⟩ := hget i hi'
    refine wpAny_pyNext_keys_item_raw st hr hi' fun h' st' sb => ?_
    have I1 : Inv X pins σ H { s with heap := h' } := I.turned (t' := s.toks) (fun b ob hb e => (sb.2 b hb).trans e) f0 f1 f3 f4 f5
    obtain ⟨oi, e, c, dd⟩ := id st'
    exact ⟨es[i].key, rfl, go_of (s := { s with heap := h' }) e c dd (by decide) ⟨.ref y.2.1, H, I1, by rw [ek]; rfl, ⟨rfl, y, hy, rfl⟩, st', fun b hb => (hf b hb).1⟩⟩
  done := by
    intro X hP hw hK hc i pins s σ H E I hf st hg
    subst hP hw hK
    obtain ⟨t, hi⟩ := hg
    obtain ⟨f0, f1, f2, f3, f4, f5⟩ := hf it (by simp)
    obtain ⟨hd, es', ep', hdt, hr, hsz, hget⟩ := tf_raw I t
    obtain ⟨rfl, rfl⟩ : es = es' ∧ ep = ep' := by rw [hod] at hdt; cases hdt; exact ⟨rfl, rfl⟩
    exact wpAny_pyNext_keys_end_raw (I.ok.hd hc) st hr (by omega) fun h' eb => ⟨rfl, I.turned (t' := s.toks) (fun b ob hb e => eb b ob hb e) f0 f1 f3 f4 f5⟩
  self := fun A i s Q E st h => by
    refine wpAny_pyIter_slot st.typeIs F.slot_dict_keyiterator_iter (wpAny_call_entry F.slot_dict_keyiterator_iter st.typeIs F.entry_dict_keyiterator_iter ?_ (F.args_dict_keyiterator_iter_1 _))
    show wpAny _ _ (ret (.ref it)) _ _ s
    exact wpAny_pure ⟨_, rfl, "dict_keyiterator", _, st.typeIs, F.slot_dict_keyiterator_next.lookup, h⟩
def iKeysF (P : Program) (w : World) (K : PySem.W.Frag) (td : TE) : TI := fun σ H R => td σ H fun x H1 => ∃ d kvt od xs, x = .ref d ∧ TF P w K H1 d kvt od xs ∧ R (ItF P w K d kvt od xs) H1
theorem pi_keysF {tg : Expr} {td : TE} (he : PE X e td) : PI X tg e (iKeysF X.prog X.w X.K td) := by
  refine ⟨fun pins s σ H R I h => ?_⟩
  refine thn (he.run pins s σ H _ I h) fun u s1 ⟨x, H1, I1, rx, d, kvt, od, xs, ex, t, q⟩ => ?_
  subst ex
  obtain rfl : u = Value.ref d := rx
  obtain ⟨hd, es, ep, hdt, hr, hsz, hget⟩ := tf_raw I1 t
  refine wpAny_pyIter_dict_raw hd hr (pi_one (tk := s1.toks) I1 _ (turn_F _ hdt) ⟨_, Heap.get?_push_size _ rfl, rfl, rfl⟩ q)
theorem walk_F {P : Program} {w : World} {K : PySem.W.Frag} : Walk (ItF P w K dd kvt od xs) xs.length (fun H => TF P w K H dd kvt od xs) (fun i H x H' => H' = H ∧ ∃ y, xs[i]? = some y ∧ x = .ref y.2.1) :=
  ⟨fun i H hi t => ⟨t, hi⟩, fun H t => ⟨t, Nat.le_refl _⟩, fun i H x H' _ _ h => h⟩
end
end K7
/-! ## L0C -/
set_option Elab.async false
set_option linter.all false
set_option maxRecDepth 100000
set_option maxHeartbeats 4000000
/-! The dicts of spread and ways_through, as they stand. -/
namespace K7
open PySem PySem.Spec PyProof.Rows L2
def plcK (p : Plc) : List Key := [.inr p.r, .inl p.b, .inl p.k]
theorem plcK_d (p : Plc) : keyDs (plcK p) = p.d := rfl
theorem plcK_inj {p q : Plc} (h : plcK p = plcK q) : p = q := by
  obtain ⟨r, b, k⟩ := p
  obtain ⟨r', b', k'⟩ := q
  unfold plcK at h
  injection h with h1 h
  injection h with h2 h
  injection h with h3 h
  injection h1 with h1
  injection h2 with h2
  injection h3 with h3
  have h1 : r = r' := h1
  have h2 : b = b' := by
    have : ((b : Nat) : Int) = ((b' : Nat) : Int) := h2
    omega
  have h3 : k = k' := by
    have : ((k : Nat) : Int) = ((k' : Nat) : Int) := h3
    omega
  rw [h1, h2, h3]
section
variable {κ κ' α : Type} [DecidableEq κ] [DecidableEq κ'] {f : κ → κ'} {g : α → PyData}
theorem look_inj (hf : ∀ {a b}, f a = f b → a = b) (ws : List (κ × α)) (q : κ) : lookD (ws.map fun e => (f e.1, g e.2)) (f q) = (findW ws q).map g := by
  show findW (ws.map fun e => (f e.1, g e.2)) (f q) = _
  induction ws with
  | nil => rfl
  | cons p ws ih =>
    rw [List.map_cons, findW_cons, findW_cons, ih]
    by_cases h : p.1 = q
    · rw [if_pos (by rw [h]), if_pos h]; rfl
    · rw [if_neg (fun z => h (hf z)), if_neg h]
theorem put_inj (hf : ∀ {a b}, f a = f b → a = b) (ws : List (κ × α)) (q : κ) (d : α) : putD (ws.map fun e => (f e.1, g e.2)) (f q) (g d) = (putW ws q d).map fun e => (f e.1, g e.2) := by
  show putW (ws.map fun e => (f e.1, g e.2)) (f q) (g d) = _
  have ha : ((ws.map fun e => (f e.1, g e.2)).any fun e => decide (e.1 = f q)) = ws.any fun e => decide (e.1 = q) := by
    rw [List.any_map]
    congr 1
    funext e
    show decide (f e.1 = f q) = decide (e.1 = q)
    by_cases h : e.1 = q
    · simp [h]
    · rw [decide_eq_false h, decide_eq_false (fun z => h (hf z))]
  unfold putW
  rw [ha]
  split
  · rw [List.map_map, List.map_map]
    refine List.map_congr_left fun e _ => ?_
    show (if f e.1 = f q then (f e.1, g d) else (f e.1, g e.2)) = (f (if e.1 = q then (e.1, d) else e).1, g (if e.1 = q then (e.1, d) else e).2)
    by_cases h : e.1 = q
    · rw [if_pos (by rw [h]), if_pos h]
    · rw [if_neg (fun z => h (hf z)), if_neg h]
  · rw [List.map_append]; rfl
end
def wayL (ws : List (Plc × List PyData)) : List (List Key × PyData) := ws.map fun e => (plcK e.1, .tuple e.2)
def thrL (l : List (Str × List PyData)) : List (Key × PyData) := l.map fun e => (.inr e.1, .tuple e.2)
def openL (op : List Plc) : List (List Key × PyData) := op.map fun p => (plcK p, .bool true)
theorem inr_inj {a b : Str} (h : (Sum.inr a : Key) = Sum.inr b) : a = b := Sum.inr.inj h
theorem wayL_look (ws : List (Plc × List PyData)) (q : Plc) : lookD (wayL ws) (plcK q) = (findW ws q).map .tuple := look_inj (f := plcK) (g := PyData.tuple) plcK_inj ws q
theorem wayL_put (ws : List (Plc × List PyData)) (q : Plc) (d : List PyData) : putD (wayL ws) (plcK q) (.tuple d) = wayL (putW ws q d) := put_inj (f := plcK) (g := PyData.tuple) plcK_inj ws q d
theorem thrL_look (l : List (Str × List PyData)) (q : Str) : lookD (thrL l) (.inr q) = (findW l q).map .tuple := look_inj (f := fun x : Str => (Sum.inr x : Key)) (g := PyData.tuple) inr_inj l q
theorem thrL_put (l : List (Str × List PyData)) (q : Str) (d : List PyData) : putD (thrL l) (.inr q) (.tuple d) = thrL (putW l q d) := put_inj (f := fun x : Str => (Sum.inr x : Key)) (g := PyData.tuple) inr_inj l q d
theorem openL_look (op : List Plc) (q : Plc) : lookD (openL op) (plcK q) = if q ∈ op then some (.bool true) else none := by
  show findW (openL op) (plcK q) = _
  unfold openL
  induction op with
  | nil => rfl
  | cons p op ih =>
    rw [List.map_cons, findW_cons, ih]
    by_cases h : p = q
    · rw [if_pos (by rw [h]), if_pos (by rw [h]; exact List.mem_cons_self ..)]
    · rw [if_neg (fun z => h (plcK_inj z))]
      by_cases h2 : q ∈ op
      · rw [if_pos h2, if_pos (List.mem_cons_of_mem _ h2)]
      · rw [if_neg h2, if_neg (fun z => (List.mem_cons.mp z).elim (fun z => h z.symm) h2)]
theorem openL_put (op : List Plc) (q : Plc) : putD (openL op) (plcK q) (.bool true) = openL (putO op q) := by
  have ha : ((openL op).any fun e => decide (e.1 = plcK q)) = decide (q ∈ op) := by
    show (openL op).any _ = _
    rw [any_findW]
    have := openL_look op q
    rw [show findW (openL op) (plcK q) = lookD (openL op) (plcK q) from rfl, this]
    by_cases h : q ∈ op <;> simp [h]
  show putW (openL op) (plcK q) (.bool true) = _
  unfold putW putO
  rw [ha]
  by_cases h : q ∈ op
  · rw [if_pos (by simpa using h), if_pos h]
    unfold openL
    rw [List.map_map]
    refine List.map_congr_left fun e _ => ?_
    show (if plcK e = plcK q then (plcK e, PyData.bool true) else (plcK e, .bool true)) = _
    split <;> rfl
  · rw [if_neg (by simpa using h), if_neg h]
    unfold openL
    rw [List.map_append]
    rfl
theorem SD.drop {κ : Type} [DecidableEq κ] {K : PySem.W.Frag} {H : Hp} {kvs : List (κ × V)} {l : List (κ × PyData)} (s : SD K H kvs l) (k : κ) : SD K H (dropK kvs k) (l.filter fun e => decide (e.1 ≠ k)) := by
  unfold dropK
  induction s with
  | nil => exact .nil
  | @cons p q ps qs h t ih =>
    rw [List.filter_cons, List.filter_cons, h.1]
    split
    · exact .cons h ih
    · exact ih
theorem openL_drop (op : List Plc) (q : Plc) : ((openL op).filter fun e => decide (e.1 ≠ plcK q)) = openL (op.filter fun x => decide (x ≠ q)) := by
  unfold openL
  induction op with
  | nil => rfl
  | cons p op ih =>
    rw [List.map_cons, List.filter_cons, List.filter_cons, ih]
    by_cases h : p = q
    · rw [if_neg (by simp [h]), if_neg (by simp [h])]
    · rw [if_pos (by simpa using fun z => h (plcK_inj z)), if_pos (by simpa using h)]
      rfl
structure TR (K : PySem.W.Frag) (H : Hp) (a : Addr) (l : List (Str × List PyData)) : Prop where
  ex : ∃ kvs, H a = some (.dK kvs) ∧ SD K H kvs (thrL l)
structure WY (P : Program) (w : World) (K : PySem.W.Frag) (H : Hp) (a : Addr) (ws : List (Plc × List PyData)) : Prop where
  ex : ∃ kvt, TD P w K H a kvt ∧ SD K H kvt (wayL ws)
structure OP (P : Program) (w : World) (K : PySem.W.Frag) (H : Hp) (a : Addr) (op : List Plc) : Prop where
  ex : ∃ kvt, TD P w K H a kvt ∧ SD K H kvt (openL op)
section
variable {P : Program} {w : World} {K : PySem.W.Frag} {H H' : Hp} {a : Addr} {T : List (Addr × Str)} {S : List Addr}
theorem TR.keep {l : List (Str × List PyData)} (t : TR K H a l) (c : Chg T S H H') (h : a ∉ S) : TR K H' a l := by
  obtain ⟨kvs, h1, h2⟩ := t
  exact ⟨kvs, c.get h1 h, h2.tk c.tup⟩
theorem WY.keep {ws : List (Plc × List PyData)} (t : WY P w K H a ws) (c : Chg T S H H') (h : a ∉ S) : WY P w K H' a ws := by
  obtain ⟨kvs, h1, h2⟩ := t
  exact ⟨kvs, h1.keep c h, h2.tk c.tup⟩
theorem OP.keep {ws : List Plc} (t : OP P w K H a ws) (c : Chg T S H H') (h : a ∉ S) : OP P w K H' a ws := by
  obtain ⟨kvs, h1, h2⟩ := t
  exact ⟨kvs, h1.keep c h, h2.tk c.tup⟩
end
section
variable {T : List (Addr × Str)} {X : Cx} {σ : L2.St} {H : Hp} {e a b o i value : Expr} {pos p' : Pos} {n : Nat} {thr wy : Addr} {l : List (Str × List PyData)} {ws : List (Plc × List PyData)} {op : List Plc} {r : Str} {p : Plc} {ds : List PyData} {D : Ends} {rest : List Stmt}
theorem ec_inTR (c : Cok n X) (ha : EvD T X a σ H (.str r)) (hb : EvV T X b σ H (.ref thr)) (t : TR X.K H thr l) : EvC T X .In a b σ H (findW l r).isSome := by
  obtain ⟨kvs, h1, h2⟩ := t
  have := ec_inK (T := T) c ha hb h1
  rw [h2.isSome, thrL_look, Option.isSome_map] at this
  exact this
theorem ec_notInTR (c : Cok n X) (ha : EvD T X a σ H (.str r)) (hb : EvV T X b σ H (.ref thr)) (t : TR X.K H thr l) : EvC T X .NotIn a b σ H (!(findW l r).isSome) := by
  obtain ⟨kvs, h1, h2⟩ := t
  have := ec_notInK (T := T) c ha hb h1
  rw [h2.isSome, thrL_look, Option.isSome_map] at this
  exact this
theorem ed_getTR (c : Cok n X) (ho : EvV T X o σ H (.ref thr)) (hi : EvD T X i σ H (.str r)) (t : TR X.K H thr l) (hf : findW l r = some ds) (hs : NoSl i := by exact fun _ _ => rfl) : EvD T X (.Subscript o i pos) σ H (.tuple ds) := by
  obtain ⟨kvs, h1, h2⟩ := t
  obtain ⟨v, e1, hd⟩ := h2.some (k := .inr r) (d := .tuple ds) (by rw [thrL_look, hf]; rfl)
  exact (ev_getK c ho hi h1 e1 hs).dat hd
theorem ec_notInWY (c : Cok n X) (ha : EvD T X a σ H p.d) (hb : EvV T X b σ H (.ref wy)) (t : WY X.prog X.w X.K H wy ws) : EvC T X .NotIn a b σ H (!(findW ws p).isSome) := by
  obtain ⟨kvs, h1, h2⟩ := t
  have := ec_notInT (T := T) (ks := plcK p) c ha hb h1
  rw [h2.isSome, wayL_look, Option.isSome_map] at this
  exact this
theorem ed_getWY (c : Cok n X) (ho : EvV T X o σ H (.ref wy)) (hi : EvD T X i σ H p.d) (t : WY X.prog X.w X.K H wy ws) (hf : findW ws p = some ds) (hs : NoSl i := by exact fun _ _ => rfl) : EvD T X (.Subscript o i pos) σ H (.tuple ds) := by
  obtain ⟨kvs, h1, h2⟩ := t
  obtain ⟨v, e1, hd⟩ := h2.some (k := plcK p) (d := .tuple ds) (by rw [wayL_look, hf]; rfl)
  exact (ev_getT c ho (ks := plcK p) hi h1 e1 hs).dat hd
theorem ws_putWY (c : Cok n X) (hv : EvD T X value σ H (.tuple ds)) (ho : EvV T X o σ H (.ref wy)) (hi : EvD T X i σ H p.d) (t : WY X.prog X.w X.K H wy ws) (hz : ws.length < 100000)
    (q : ∀ H', Chg T [wy] H H' → WY X.prog X.w X.K H' wy (putW ws p ds) → wS X rest D σ H') (hs : swapsWith value (some (.Subscript o i p')) pos.line X.env = pure false := by rfl) : wS X (.Assign [.Subscript o i p'] value pos :: rest) D σ H := by
  obtain ⟨kvt, h1, h2⟩ := t
  refine ws_putTD (T := T) (ks := plcK p) c hv ho hi h1 ?_ (fun v H' cg hd td => q H' cg ⟨_, td, ?_⟩) hs
  · have := Paired.length h2
    unfold wayL at this
    rw [List.length_map] at this
    omega
  · rw [← wayL_put]
    exact (h2.tk cg.tup).put _ hd
theorem ws_putOP (c : Cok n X) (hv : EvD T X value σ H (.bool true)) (ho : EvV T X o σ H (.ref wy)) (hi : EvD T X i σ H p.d) (t : OP X.prog X.w X.K H wy op) (hz : op.length < 100000)
    (q : ∀ H', Chg T [wy] H H' → OP X.prog X.w X.K H' wy (putO op p) → wS X rest D σ H') (hs : swapsWith value (some (.Subscript o i p')) pos.line X.env = pure false := by rfl) : wS X (.Assign [.Subscript o i p'] value pos :: rest) D σ H := by
  obtain ⟨kvt, h1, h2⟩ := t
  refine ws_putTD (T := T) (ks := plcK p) c hv ho hi h1 ?_ (fun v H' cg hd td => q H' cg ⟨_, td, ?_⟩) hs
  · have := Paired.length h2
    unfold openL at this
    rw [List.length_map] at this
    omega
  · rw [← openL_put]
    exact (h2.tk cg.tup).put _ hd
theorem ws_popOP {apos cpos : Pos} (c : Cok n X) (ho : EvV T X o σ H (.ref wy)) (hi : EvD T X i σ H p.d) (t : OP X.prog X.w X.K H wy op) (hp : p ∈ op)
    (q : ∀ H1, Chg T [wy] H H1 → OP X.prog X.w X.K H1 wy (op.filter fun x => decide (x ≠ p)) → wS X rest D σ H1) (hs : swapsWith (.Call (.Attribute o "pop" apos) [i] [] cpos) none pos.line X.env = pure false := by rfl) (mm : M1 X o "pop" apos i cpos := by exact ⟨rfl, rfl, rfl, rfl⟩) : wS X (.Expr (.Call (.Attribute o "pop" apos) [i] [] cpos) pos :: rest) D σ H := by
  obtain ⟨kvt, h1, h2⟩ := t
  obtain ⟨v, e1, hd⟩ := h2.some (k := plcK p) (d := .bool true) (by rw [openL_look, if_pos hp])
  refine ws_popT (T := T) (ks := plcK p) c ho hi h1 e1 (fun H1 cg td => q H1 cg ⟨_, td, ?_⟩) hs mm
  rw [← openL_drop]
  exact (h2.tk cg.tup).drop _
theorem ed_catB (ha : EvD T X a σ H (.tuple ds)) {es : List PyData} (hb : EvD T X b σ H (.tuple es)) (hz : ds.length + es.length ≤ 10000000) : EvD T X (.BinOp a .Add b pos) σ H (.tuple (ds ++ es)) := fun H1 c Q q =>
  wE.of (pe_op op_catP peW peW) (ha H1 c _ fun x H2 c2 hx => hb H2 (c.trans c2) _ fun y H3 c3 hy => by
    obtain ⟨p, xs, rfl, hs, hxs⟩ := (c3.dt hx).inv_tup
    obtain ⟨p2, ys, rfl, hs2, hys⟩ := hy.inv_tup
    refine ⟨p, p2, xs, ys, rfl, rfl, hs.t, hs2.t, by rw [hxs.len, hys.len, sizeLine_eq]; omega, fun z => ?_, fun z1 z2 => ?_, fun z1 z2 p' o hp ho => q _ _ ((c2.trans c3).trans (.new hp)) (.new hp ho (hxs.app hys))⟩
    · subst z
      cases hxs
      exact q _ H3 (c2.trans c3) (.tup hs2 hys)
    · subst z2
      cases hys
      rw [List.append_nil] at q
      exact q _ H3 (c2.trans c3) (.tup hs hxs))
end
end K7
/-! ## L0E -/
set_option Elab.async false
set_option linter.all false
set_option maxRecDepth 100000
set_option maxHeartbeats 4000000
/-! name = [.. for ..] on one line; a statement with a dict locked. -/
namespace K7
open PySem PySem.Spec PyProof.Rows L2
section
variable {T : List (Addr × Str)} {X : Cx} {σ : L2.St} {H : Hp} {e a b : Expr} {d : PyData} {D : Ends} {rest : List Stmt} {pos : Pos} {n : Nat} {Q : VK} {dd : Addr} {kvt : List (List Key × V)}
theorem ws_lc (k : Nat) {y : Str} {py spos : Pos} {tg iter elt : Expr} {ifs : List Expr} {scope : Scope} {own : List (Str × Nat)} {wi : TI} {g : TG} {tt : TT} (c : Cok n X) (ok : BlkOk X.N X.env.scope scope own) (hi : PI X tg iter wi)
    (hg : ∀ (s : Shared) (Hs : Hp) (C : Addr) (cl : List (Str × Addr)) (fp : List Addr), PG (X.blk s Hs scope (compEnvC scope cl C X.env) fp) tg g)
    (ht : ∀ (s : Shared) (Hs : Hp) (C : Addr) (cl : List (Str × Addr)) (fp : List Addr), PTs (X.blk s Hs scope (compEnvC scope cl C X.env) fp) ifs tt)
    (h : wi σ H fun J H1 => ∃ (m : Nat) (G : Hp → Prop) (Y : Nat → Hp → V → Hp → Prop), Walk J m G Y ∧ ∃ (inv : Nat → List V → Hp → Prop) (S : List Addr), inv 0 [] H1 ∧ (∀ x ∈ S, H1 x ≠ none) ∧
      (∀ D i vs H2 H3, H1 D = none → inv i vs H2 → Chg T [D] H2 H3 → inv i vs H3) ∧ (∀ i vs H2, inv i vs H2 → G H2 ∧ vs.length ≤ 100000) ∧
      (∀ i vs x H2 H3, i < m → inv i vs H2 → Y i H2 x H3 → ∀ (Out : V → Hp → Prop) (Skip : Hp → Prop), (∀ y H6, Chg T S H2 H6 → inv (i + 1) (vs ++ [y]) H6 → Out y H6) → (∀ H5, Chg T S H2 H5 → inv (i + 1) vs H5 → Skip H5) →
        g x (wipe σ (own.map (·.2))) H3 fun σ2 H4 => wipe σ2 (own.map (·.2)) = wipe σ (own.map (·.2)) ∧ tt σ2 H4 fun b H5 => if b = true then bE X scope elt σ2 H5 Out else Skip H5) ∧
      ∀ L vs H2, H1 L = none → Chg T S H1 H2 → H2 L = some (.lst vs) → inv m vs H2 → wS X rest D (σ.set k (some (.ref L))) H2)
    (hy : X.N[k]? = some y := by rfl) (hyl : X.env.scope.names.lookup y = some .local := by rfl) (hl : (py.line == pos.line) = true := by rfl) (hk : X.env.scope.kind = .function := by rfl) (ha : (scope.names.any fun (n, k) => n == y && (k == .local || k == .cell)) = false := by rfl)
    (hs : ∀ x, foldedSetIterable iter X.env x = pure x := by intro _; rfl) : wS X (.Assign [.Name y py] (.ListComp elt [⟨tg, iter, ifs, 0⟩] scope pos) spos :: rest) D σ H := by
  refine wS_cons (ps_setLc (wi := wiM wi σ H) (tt := tt) (g := g) (te := bE X scope elt) c.calm c.nd hy hyl (sw_true hk hyl hl ha) (piM hi) ok hg ht peB hs) ⟨rfl, rfl, _, h, fun J H1 ⟨m, G, Y, w, inv, S, h0, hS, stab, hG, turn, fin⟩ D hD => ?_⟩
  have nS : D ∉ S := fun z => hS D z hD
  refine lc_it w (Qd := fun H' => wS X rest _ (σ.set k (some (.ref D))) H') (fun i H' => ∃ vs, Chg T S H1 H' ∧ H' D = some (.lst vs) ∧ inv i vs H') ⟨[], .new hD, upd_same, stab D 0 [] _ _ hD h0 (.new hD)⟩ (fun i H' _ ⟨vs, _, _, hv⟩ => (hG i vs H' hv).1) (fun i x H2 H3 hi2 ⟨vs, c2, hl, hv⟩ y => ?_) fun H' ⟨vs, c2, hl, hv⟩ => fin D vs H' hD c2 hl hv
  refine turn i vs x H2 H3 hi2 hv y (fun y H6 => ∃ acc, H6 D = some (.lst acc) ∧ acc.length < sizeLine ∧ ∃ vs, Chg T S H1 (upd H6 D (.lst (acc ++ [y]))) ∧ (upd H6 D (.lst (acc ++ [y]))) D = some (.lst vs) ∧ inv (i + 1) vs (upd H6 D (.lst (acc ++ [y])))) (fun H' => ∃ vs, Chg T S H1 H' ∧ H' D = some (.lst vs) ∧ inv (i + 1) vs H') (fun y H6 c6 hv6 => ?_) fun H5 c5 hv5 => ⟨vs, c2.trans c5, c5.get hl nS, hv5⟩
  have g6 := c6.get hl nS
  have c7 : Chg T [D] H6 (upd H6 D (.lst (vs ++ [y]))) := .set g6 wr_lst (by simp)
  refine ⟨vs, g6, small5 (hG i vs H2 hv).2, vs ++ [y], ?_, upd_same, stab D _ _ _ _ hD hv6 c7⟩
  refine Chg.fresh' .refl (((c2.trans c6).mono fun b hb => List.mem_cons_of_mem D hb).trans (c7.mono (S' := D :: S) fun b hb => by rw [List.mem_singleton.mp hb]; exact List.mem_cons_self ..)) fun x hx => ?_
  rcases List.mem_cons.mp hx with q | q
  · exact .inr (q ▸ hD)
  · exact .inl q
theorem ws_lcM {iter elt : Expr} {scope : Scope} {own : List (Str × Nat)} {x y : Str} {pt py spos : Pos} {R : List PyData → Prop} (k j : Nat) (f : PyData → PyData) (c : Cok n X) (ok : BlkOk X.N X.env.scope scope own) (hi : EvR T X iter σ H (fun d => ∃ ss, d = .tuple ss ∧ ss.length ≤ 1000 ∧ R ss))
    (hx : X.N[j]? = some x) (hown : j ∈ own.map (·.2)) (hlx : (relS scope X.env.scope).names.lookup x = some .local)
    (he : ∀ (s : Shared) (Hs : Hp) (C : Addr) (cl : List (Str × Addr)) (fp : List Addr) (ss : List PyData) (src : PyData) (v : V) (H1 : Hp), R ss → src ∈ ss → Ex T H H1 → DT X.K H1 v src → EvD T (X.blk s Hs scope (compEnvC scope cl C X.env) fp) elt ((wipe σ (own.map (·.2))).set j (some v)) H1 (f src))
    (hw : ∀ v, wipe ((wipe σ (own.map (·.2))).set j v) (own.map (·.2)) = wipe σ (own.map (·.2)))
    (q : ∀ r H2 us ss, H r = none → Ex T H H2 → H2 r = some (.lst us) → R ss → ss.length ≤ 1000 → DTs X.K H2 us (ss.map f) → wS X rest D (σ.set k (some (.ref r))) H2)
    (hy : X.N[k]? = some y := by rfl) (hyl : X.env.scope.names.lookup y = some .local := by rfl) (hl : (py.line == pos.line) = true := by rfl) (hk : X.env.scope.kind = .function := by rfl) (ha : (scope.names.any fun (n, k) => n == y && (k == .local || k == .cell)) = false := by rfl)
    (hs : ∀ x, foldedSetIterable iter X.env x = pure x := by intro _; rfl) : wS X (.Assign [.Name y py] (.ListComp elt [⟨.Name x pt, iter, [], 0⟩] scope pos) spos :: rest) D σ H := by
  refine ws_lc (T := T) k (tt := tYes) (g := gName j) (wi := iTup X.K (wE X iter)) c ok (pi_tup peW) (fun s Hs C cl fp => pg_name c.nd hx (.inl hlx) (.inr hlx)) (fun _ _ _ _ _ => pts_nil) ?_ hy hyl hl hk ha hs
  refine hi H .refl _ fun v H1 d c1 ⟨ss, e, hz, hR⟩ hd => ?_
  subst e
  obtain ⟨a, xs, rfl, hq, hxs⟩ := hd.inv_tup
  have hlen := hxs.len
  refine ⟨a, rfl, ⟨xs, hq.t⟩, xs.length, _, _, walk_tup (xs := xs), fun i vs H2 => Ex T H1 H2 ∧ DTs X.K H2 vs ((ss.take i).map f) ∧ i ≤ ss.length, [], ⟨.refl, .nil, Nat.zero_le _⟩, fun _ z => absurd z (by simp), fun D' i vs H2 H3 hD ⟨c2, hv, hi⟩ c3 => ⟨Chg.fresh c2 c3 (fun x hx => by rw [List.mem_singleton.mp hx]; exact hD), c3.dts hv, hi⟩, fun i vs H2 ⟨c2, hv, hi⟩ => ⟨c2.sq hq.t, by rw [hv.len, List.length_map, List.length_take]; omega⟩, fun i vs z H2 H3 hi2 ⟨c2, hv, _⟩ ⟨e3, hyx⟩ Out Skip ho _ => ?_, fun L vs H2 hL c2 h2 ⟨c3, hv, _⟩ => ?_⟩
  · subst e3
    obtain ⟨src, hsrc, hdt⟩ := hxs.atV hyx
    refine ⟨hw _, ?_⟩
    show bE X scope elt _ H3 _
    intro s Hs C cl fp
    refine he s Hs C cl fp ss src z H3 hR (List.mem_of_getElem? hsrc) (c1.trans c2) (c2.dt hdt) H3 .refl _ fun v H4 c4 hd4 => ho v H4 c4 ⟨c2.trans c4, ?_, by omega⟩
    rw [List.take_succ, hsrc, List.map_append]
    exact (c4.dts hv).app (.one hd4)
  · refine q L H2 vs ss (c1.back L hL) (c1.trans c2) h2 hR hz ?_
    rw [hlen, List.take_length] at hv
    exact hv
/-- a statement while the dict at dd is locked -/
theorem ws_lockT {st : Stmt} (t : TD X.prog X.w X.K H dd kvt) (h : ∀ od xs H1, Chg T [dd] H H1 → TF X.prog X.w X.K H1 dd kvt od xs → wS X [st] { nx := fun σ' H2 => Ex T H1 H2 ∧ ∀ H3, Ex T H H3 → Chg T [dd] H2 H3 → TD X.prog X.w X.K H3 dd kvt → wS X rest D σ' H3, bk := fun _ _ => False, ct := fun _ _ => False, rt := fun _ _ => False } σ H1) : wS X (st :: rest) D σ H := by
  intro pins s I
  obtain ⟨⟨xs, h1, h2, h3⟩, sz⟩ := t
  have hcode := rawD_code I h1
  have mu : Mut (some (rawD X.prog X.w dd xs)) := by unfold rawD; trivial
  obtain ⟨od, I1⟩ := I.lock h1 mu
  have ca : Chg T [dd] H (upd H dd (.frz od (rawD X.prog X.w dd xs))) := td_set I h1 (by simp)
  have go := h od xs _ ca ⟨upd_same, h2, fun x hx => ca.sp (h3 x hx)⟩ pins s I1
  suffices hs : ∀ σ' H2 s1, Inv X pins σ' H2 s1 → Ex T (upd H dd (.frz od (rawD X.prog X.w dd xs))) H2 → (∀ H3, Ex T H H3 → Chg T [dd] H2 H3 → TD X.prog X.w X.K H3 dd kvt → wS X rest D σ' H3) → wpAny (model X.prog X.w) X.A (execs rest X.env) (SP X pins D) X.xe s1 by
    intro Γ p hΓ
    have g := go Γ p hΓ
    rw [execs_cons, Sem.wp_bind'] at g ⊢
    refine Sem.wp_mono _ Γ _ (fun f p' s' h' => ?_) (fun _ _ _ h' => h') _ _ g
    cases f with
    | next =>
      obtain ⟨σ', H2, I2, c2, q⟩ := h'
      exact hs σ' H2 s' I2 c2 q Γ p' hΓ
    | brk => obtain ⟨_, _, _, z⟩ := h'; exact z.elim
    | cont => obtain ⟨_, _, _, z⟩ := h'; exact z.elim
    | ret u => obtain ⟨_, _, _, _, _, z⟩ := h'; exact z.elim
  intro σ' H2 s1 I2 c2 q
  have e2 := c2.keep dd _ (by simp) upd_same (fun ps z => by cases z)
  have cb : Chg T [dd] H2 (upd H2 dd (rawD X.prog X.w dd xs)) := by
    refine ⟨fun b v hb e _ => ?_, fun b e => ?_, ⟨fun b ys e => ?_, fun b v ys e => ?_⟩, fun t => tab_upd (fun ps z => by rw [e2] at z; cases z) (fun q z => by rw [e2] at z; unfold LamX.CodeO at z; cases z) t⟩
    · rw [upd_ne (fun z => hb (by rw [z]; simp))]; exact e
    · by_cases q : b = dd
      · rw [q, upd_same] at e; cases e
      · rw [upd_ne q] at e; exact e
    · have nb : b ≠ dd := fun z => by
        rw [z] at e
        rcases e with e | ⟨v, e⟩ <;> rw [e2] at e <;> unfold rawD at e <;> cases e
      rcases e with e | ⟨v, e⟩
      · exact .inl (by rw [upd_ne nb]; exact e)
      · exact .inr ⟨v, by rw [upd_ne nb]; exact e⟩
    · rw [upd_ne (fun z => by rw [z, e2] at e; unfold rawD at e; cases e)]; exact e
  have cc : Chg T [dd] H (upd H2 dd (rawD X.prog X.w dd xs)) := (ca.and_ c2).trans cb
  have ex : Ex T H (upd H2 dd (rawD X.prog X.w dd xs)) := by
    refine ⟨fun b o _ e n => ?_, cc.back, cc.tup, cc.tab⟩
    by_cases hb : b = dd
    · rw [hb, h1] at e
      cases e
      rw [hb, upd_same]
    · exact cc.keep b o (by simp [hb]) e n
  exact q _ ex cb ⟨⟨xs, upd_same, h2, fun x hx => ex.sp (h3 x hx)⟩, sz⟩ pins s1 (I2.unlock e2 (I.nofrz h1 mu))
end
end K7
/-! ## L0D -/
set_option Elab.async false
set_option linter.all false
set_option maxRecDepth 100000
set_option maxHeartbeats 4000000
/-! behind. -/
namespace K7
open PySem PySem.Spec PyProof.Rows L2
theorem chc_inj : ∀ {a b : Chc}, a.d = b.d → a = b
  | .non, .non, _ => rfl
  | .non, .cell _, h => by cases h
  | .non, .blk _, h => by cases h
  | .cell _, .non, h => by cases h
  | .cell c, .cell c', h => by
    obtain ⟨x, n⟩ := c
    obtain ⟨x', n'⟩ := c'
    have h : PyData.tuple [.str x, .int (n : Nat)] = .tuple [.str x', .int (n' : Nat)] := h
    injection h with h
    injection h with h1 h
    injection h with h2 h
    injection h1 with h1
    injection h2 with h2
    have : n = n' := by omega
    rw [h1, this]
  | .cell _, .blk _, h => by cases h
  | .blk _, .non, h => by cases h
  | .blk _, .cell _, h => by cases h
  | .blk b, .blk b', h => by
    have h : PyData.int (b : Nat) = .int (b' : Nat) := h
    injection h with h
    have : b = b' := by omega
    rw [this]
/-- what behind tells: the other place, the steps to it -/
def behD (e : Plc × List PyData) : PyData := .tuple [e.1.d, .tuple e.2]
def InL (l : List (Str × List PyData)) (r : Str) : Prop := (findW l r).isSome = true
structure BehR (c : Code) (l : List (Str × List PyData)) (ent : Bool) (W : Nat) (p : Plc) (L : List (Plc × List PyData)) : Prop where
  z : L.length ≤ 1000
  all : ∀ q, Nx c (InL l) ent p q → ∃ ds, (q, ds) ∈ L
  only : ∀ e ∈ L, Nx c (InL l) ent p e.1 ∧ e.2.length ≤ W
def ledQ (p : Plc) (op : Op) (ch : Chc) : Plc := ((led p ch [] op).1).getD p
theorem led_some {c : Code} {p : Plc} {op : Op} {ch : Chc} (hc : ch ∈ c.chs op) (hb : op ≠ .back) : (led p ch [] op).1 = some (ledQ p op ch) := by
  unfold ledQ
  cases op with
  | back => exact absurd rfl hb
  | iff o b1 b2 =>
    have hx : ch ∈ (if b1 = b2 then [Chc.blk b1] else [Chc.blk b1, Chc.blk b2]) := hc
    have hx2 : ch = .blk b1 ∨ ch = .blk b2 := by
      split at hx
      · exact .inl (List.mem_singleton.mp hx)
      · simpa using hx
    rcases hx2 with z | z <;> rw [z] <;> rfl
  | _ => rfl
def fstD (p : Plc) (op : Op) (ch : Chc) : Plc × List PyData := (ledQ p op ch, [.tuple [p.d, ch.d]])
open Classical in
noncomputable def backC (l : List Chc) (d : PyData) : Chc := if h : ∃ ch ∈ l, ch.d = d then Classical.choose h else .non
theorem backC_d {l : List Chc} {ch : Chc} (h : ch ∈ l) : backC l ch.d = ch := by
  unfold backC
  rw [dif_pos ⟨ch, h, rfl⟩]
  exact chc_inj (Classical.choose_spec (⟨ch, h, rfl⟩ : ∃ x ∈ l, x.d = ch.d)).2
section
variable {P : Program} {w : World} {K : PySem.W.Frag} {mg : Str → Option Value} {base : Heap} {T : List (Addr × Str)}
theorem sc_behind : FnScope ["code", "place", "through", "entering", "row", "found", "choice"] ["code", "place", "through", "entering"] (defScope (top 45)) := ⟨rfl, rfl, rfl, by decide +kernel, rfl, by decide +kernel, by decide +kernel⟩
def spBehind (K : PySem.W.Frag) (T : List (Addr × Str)) : Sp' := fun vs H Q => ∃ (c : Code) (p : Plc) (op : Op) (l : List (Str × List PyData)) (thr : Addr) (ent : Bool) (B : Nat) (v1 v2 v4 : V), OkCode c ∧ c.row p = some op ∧ c.has p ∧ TR K H thr l ∧ B ≤ 90000 ∧ (∀ e ∈ l, e.2.length ≤ B) ∧ vs = [v1, v2, .ref thr, v4] ∧ DT K H v1 c.d ∧ DT K H v2 p.d ∧ DT K H v4 (.bool ent) ∧
  ∀ r H' L us, H r = none → Ex T H H' → H' r = some (.lst us) → DTs K H' us (L.map behD) → BehR c l ent (B + 1) p L → Q (.ref r) H'
theorem g_behind (F : At K mg "behind" 45) (B : Blt mg) (Gr : GDef P w K mg base 1 "row_there" (spRow K T)) (Gl' : GDef P w K mg base 2 "led" (spLed K T)) (Gc : GDef P w K mg base 3 "choices_at" (spChs K T)) : GDef P w K mg base 4 "behind" (spBehind K T) := by
  refine F.ok sc_behind (fun _ _ _ _ _ _ us hl => match us, hl with | [_, _, _, _], _ => rfl) (fun vs H Q ⟨c, p, op, l, thr, ent, B, v1, v2, v4, _, _, _, _, _, _, e, _⟩ => by rw [e]; rfl) fun f cdv Ar outer s H vs Q k ⟨c, p, op, l, thr, ent, B', v1, v2, v4, oc, hrow, has, tr, hB, hlen, e, h1, h2, h4, q⟩ => ?_
  subst e
  refine ws_asg (T := T) (d := op.d) 4 k (ed_cf Gr k (c, p, op) (ea_cons (ed_name 0 h1) (ea_cons (ed_name 1 h2) ea_nil)) ⟨oc, hrow⟩) fun w5 H1 c1 h5 => ?_
  refine ws_when (T := T) (k := decide (op.word = "back")) (et_cmp (ec_eqS (ed_at0 (ed_name 4 h5)) ed_str)) (fun z H2 c2 => ?_) fun z H2 c2 => ?_
  · have hb := w_back (of_decide_eq_true z)
    subst hb
    refine ws_return ((el_lst (T := T) ea_nil).go .refl fun r H3 us ds hr c3 hr3 e hds hz => ?_)
    subst e
    refine q r H3 [] us ((c1.trans c2).back r hr) ((c1.trans c2).trans c3) hr3 hds ⟨by simp, fun y hy => ?_, fun e he => by cases he⟩
    exfalso
    obtain ⟨op', hr', h⟩ := hy
    rw [hrow] at hr'
    cases hr'
    rcases h with ⟨_, e, _⟩ | ⟨hf, _⟩
    · cases e
    · cases hf
  have hnb : op ≠ .back := fun e => by
    rw [e] at z
    exact absurd z (by decide)
  have nx_flow : op.flow = true → ∀ cl : List Chc, (∀ x, x ∈ cl ↔ x ∈ c.chs op) → cl.length ≤ 100 → BehR c l ent (B' + 1) p (cl.map (fstD p op)) := fun hf cl hcl hz => by
    refine ⟨by rw [List.length_map]; omega, fun y hy => ?_, fun e he => ?_⟩
    · obtain ⟨op', hr', h⟩ := hy
      rw [hrow] at hr'
      cases hr'
      rcases h with ⟨r2, e, _⟩ | ⟨_, ch, hch, h⟩
      · rw [e] at hf; cases hf
      · refine ⟨[.tuple [p.d, ch.d]], List.mem_map.mpr ⟨ch, (hcl ch).mpr hch, ?_⟩⟩
        unfold fstD ledQ
        rw [h]
        rfl
    · obtain ⟨ch, hch, rfl⟩ := List.mem_map.mp he
      have hch := (hcl ch).mp hch
      exact ⟨⟨op, hrow, .inr ⟨hf, ch, hch, led_some hch hnb⟩⟩, by show 1 ≤ _; omega⟩
  refine ws_lcM (T := T) (R := fun ss => ∃ cl : List Chc, ss = cl.map Chc.d ∧ (∀ x, x ∈ cl ↔ x ∈ c.chs op) ∧ cl.length ≤ 100) (own := [("choice", 6)]) 5 6 (fun d => behD (fstD p op (backC (c.chs op) d))) k (blkOk_by rfl) (EvR.imp (er_cf Gc k (c, p, op) (ea_cons (ed_name 0 ((c1.trans c2).dt h1)) (ea_cons (ed_name 1 ((c1.trans c2).dt h2)) ea_nil)) ⟨oc, hrow⟩) fun d ⟨cl, e, h5, h6⟩ => ⟨_, e, by rw [List.length_map]; omega, cl, rfl, h5, h6⟩) rfl (by simp) rfl (fun s' Hs C cl fp ss src v H3 ⟨cl2, e2, h5, h6⟩ hsrc c3 hv => ?_) (fun _ => rfl) (fun r H3 us ss hr c3 hr3 ⟨cl, ess, hcl, hclz⟩ hz hds => ?_)
  · rw [e2] at hsrc
    obtain ⟨ch, hch, rfl⟩ := List.mem_map.mp hsrc
    have hch := (h5 ch).mp hch
    rw [backC_d hch]
    have hp : PreLed (c, p, op, ch, []) := ⟨oc, hrow, fun o b1 b2 e => by
      have e : op = .iff o b1 b2 := e
      subst e
      have hx : ch ∈ (if b1 = b2 then [Chc.blk b1] else [Chc.blk b1, Chc.blk b2]) := hch
      split at hx
      · exact ⟨b1, List.mem_singleton.mp hx⟩
      · rcases List.mem_cons.mp hx with z | z
        · exact ⟨b1, z⟩
        · exact ⟨b2, List.mem_singleton.mp z⟩, Nat.zero_le _, fun p hp => by cases hp⟩
    have c13 := (c1.trans c2).trans c3
    refine EvD.is (ed_tup (ea_cons (ed_at0 (ds := [optD (led p ch [] op).1, plcsD (led p ch [] op).2]) (EvD.is (ed_cf Gl' (blkC_ok k) (c, p, op, ch, []) (ea_cons (ed_name 0 (c13.dt h1)) (ea_cons (ed_name 1 (c13.dt h2)) (ea_cons (ed_name 6 hv) (ea_cons (EvD.is (ed_tup ea_nil) rfl) ea_nil)))) hp) rfl)) (ea_cons (ed_tup (ea_cons (ed_tup (ea_cons (ed_name 1 (c13.dt h2)) (ea_cons (ed_name 6 hv) ea_nil))) ea_nil)) ea_nil))) ?_
    rw [led_some hch hnb]
    rfl
  have eds : ss.map (fun d => behD (fstD p op (backC (c.chs op) d))) = (cl.map (fstD p op)).map behD := by
    rw [ess, List.map_map, List.map_map]
    refine List.map_congr_left fun ch hch => ?_
    show behD (fstD p op (backC (c.chs op) ch.d)) = behD (fstD p op ch)
    rw [backC_d ((hcl ch).mp hch)]
  rw [eds] at hds
  have c03 := (c1.trans c2).trans c3
  have hr0 : H r = none := (c1.trans c2).back r hr
  refine ws_when (T := T) (k := !decide (op.word = "call")) (EvT.is (et_cmp (ec_neS (ed_at0 (ed_name 4 ((c2.trans c3).dt h5))) ed_str)) rfl) (fun z3 H4 c4 => ?_) fun z3 H4 c4 => ?_
  · refine ws_retV (T := T) (ev_name 5) fun H5 c5 => ?_
    have hf : op.flow = true := by
      cases op with
      | call r2 => exact absurd z3 (by show ¬ (!decide (("call" : Str) = "call")) = true; decide)
      | back => exact absurd rfl hnb
      | _ => rfl
    exact q r H5 _ us hr0 ((c03.trans c4).trans c5) ((c4.trans c5).get hr3) ((c4.trans c5).dts hds) (nx_flow hf cl hcl hclz)
  obtain ⟨r2, rfl⟩ := w_call (by simpa using z3)
  have c04 := c03.trans c4
  refine ws_set 5 k (wE.imp (Q := fun v H5 => ∃ (r' : Addr) (us' : List V) (L1 : List (Plc × List PyData)), v = .ref r' ∧ H r' = none ∧ Ex T H4 H5 ∧ H5 r' = some (.lst us') ∧ DTs K H5 us' (L1.map behD) ∧ L1.length ≤ 100 ∧ (ent = true → ∃ ds, ((⟨r2, 0, 0⟩ : Plc), ds) ∈ L1) ∧ ∀ e ∈ L1, ent = true ∧ e.1 = ⟨r2, 0, 0⟩ ∧ e.2.length ≤ B' + 1) (wE.of (pe_ifExp ptW peW peW) ?_) fun v H5 ⟨r', us', L1, ev, hr', c45, hl5, hd5, hz5, hin, hon⟩ => ?_)
  · refine (et_val (T := T) (ed_name 3 (c04.dt h4))) H4 .refl _ fun H5 c5 => ?_
    cases ent with
    | true =>
      exact (ev_name (T := T) 5) H5 .refl _ fun H6 c6 => ⟨r, us, cl.map (fstD p (.call r2)), rfl, hr0, c5.trans c6, ((c4.trans c5).trans c6).get hr3, ((c4.trans c5).trans c6).dts hds, by rw [List.length_map]; exact hclz, fun _ => ⟨_, List.mem_map.mpr ⟨.non, (hcl .non).mpr (List.mem_singleton.mpr rfl), rfl⟩⟩, fun e he => by
        obtain ⟨ch, hch, rfl⟩ := List.mem_map.mp he
        exact ⟨rfl, rfl, by show 1 ≤ _; omega⟩⟩
    | false =>
      exact (el_lst (T := T) ea_nil) H5 .refl _ fun r' H6 us' ds hr' c6 hr6 e hds' hz' => by
        subst e
        exact ⟨r', us', [], rfl, (c04.trans c5).back r' hr', c5.trans c6, hr6, hds', by simp, ⟨(fun z => by cases z), (fun e he => by cases he)⟩⟩
  subst ev
  have c15 := ((c2.trans c3).trans c4).trans c45
  have c05 := c1.trans c15
  refine ws_when (T := T) (k := (findW l r2).isSome) (et_cmp (ec_inTR k (r := r2) (ed_at1 (ed_name 4 (c15.dt h5))) (ev_name 2) (tr.keep c05 (by simp)))) (fun zt H6 c6 => ?_) fun zt H6 c6 => ?_
  · obtain ⟨ds, hf⟩ := Option.isSome_iff_exists.mp zt
    have c06 := c05.trans c6
    have hds6 : ds.length ≤ B' := hlen _ (findW_some hf)
    refine ws_append (T := T) (R := fun d => d = behD (p.next, .tuple [p.d, .none] :: ds)) (ev_name 5) (c6.get hl5) (by rw [hd5.len, List.length_map]; omega) (EvD.r (EvD.is (ed_tup (ea_cons (ed_tup (ea_cons (ed_at0 (ed_name 1 (c06.dt h2))) (ea_cons (ed_at1 (ed_name 1 (c06.dt h2))) (ea_cons (ed_add (i := (p.k : Int)) (ed_at2 (ed_name 1 (c06.dt h2))) ed_int) ea_nil)))) (ea_cons (ed_catT (ed_tup (ea_cons (ed_tup (ea_cons (ed_name 1 (c06.dt h2)) (ea_cons ed_non ea_nil))) ea_nil)) (ed_getTR k (ev_name 2) (ed_at1 (ed_name 4 ((c15.trans c6).dt h5))) (tr.keep c06 (by simp)) hf) (by simp; omega)) ea_nil))) rfl) rfl) fun v H7 d c7 ed hv => ?_
    subst ed
    have c8 : Chg T [r'] H7 (upd H7 r' (.lst (us' ++ [v]))) := .set ((c6.trans c7).get hl5) wr_lst (by simp)
    refine wS_nil (ws_retV (T := T) (ev_name 5) fun H9 c9 => ?_)
    refine q r' H9 (L1 ++ [(p.next, .tuple [p.d, .none] :: ds)]) (us' ++ [v]) hr' ((Chg.fresh (c06.trans c7) c8 fun x hx => by rw [List.mem_singleton.mp hx]; exact hr').trans c9) (c9.get upd_same) ?_ ⟨?_, fun y hy => ?_, fun e he => ?_⟩
    · rw [List.map_append]
      exact c9.dts (c8.dts (((c6.trans c7).dts hd5).app (.one hv)))
    · rw [List.length_append]; show L1.length + 1 ≤ 1000; omega
    · obtain ⟨op', hr2, h⟩ := hy
      rw [hrow] at hr2
      cases hr2
      rcases h with ⟨r3, e, h⟩ | ⟨hfl, _⟩
      · cases e
        rcases h with ⟨he, e⟩ | ⟨_, e⟩
        · obtain ⟨ds, hm⟩ := hin he
          exact ⟨ds, by rw [e]; exact List.mem_append_left _ hm⟩
        · exact ⟨_, by rw [e]; exact List.mem_append_right _ (List.mem_singleton.mpr rfl)⟩
      · cases hfl
    · rcases List.mem_append.mp he with he | he
      · obtain ⟨a1, a2, a3⟩ := hon e he
        exact ⟨⟨_, hrow, .inl ⟨r2, rfl, .inl ⟨a1, a2⟩⟩⟩, a3⟩
      · rw [List.mem_singleton.mp he]
        exact ⟨⟨_, hrow, .inl ⟨r2, rfl, .inr ⟨zt, rfl⟩⟩⟩, by show ds.length + 1 ≤ _; omega⟩
  · refine ws_retV (T := T) (ev_name 5) fun H9 c9 => ?_
    refine q r' H9 L1 us' hr' ((c05.trans c6).trans c9) ((c6.trans c9).get hl5) ((c6.trans c9).dts hd5) ⟨by omega, fun y hy => ?_, fun e he => ?_⟩
    · obtain ⟨op', hr2, h⟩ := hy
      rw [hrow] at hr2
      cases hr2
      rcases h with ⟨r3, e, h⟩ | ⟨hfl, _⟩
      · cases e
        rcases h with ⟨he, e⟩ | ⟨he, e⟩
        · obtain ⟨ds, hm⟩ := hin he
          exact ⟨ds, by rw [e]; exact hm⟩
        · unfold InL at he
          rw [zt] at he
          cases he
      · cases hfl
    · obtain ⟨a1, a2, a3⟩ := hon e he
      exact ⟨⟨_, hrow, .inl ⟨r2, rfl, .inl ⟨a1, a2⟩⟩⟩, a3⟩
end
end K7
/-! ## L1A -/
set_option Elab.async false
set_option linter.all false
set_option maxRecDepth 100000
set_option maxHeartbeats 4000000
/-! spread. -/
namespace K7
open PySem PySem.Spec PyProof.Rows L2
section
variable {P : Program} {w : World} {K : PySem.W.Frag} {mg : Str → Option Value} {base : Heap} {T : List (Addr × Str)}
/-- a def whose code object is known -/
structure AtC (K : PySem.W.Frag) (mg : Str → Option Value) (x : Str) (i : Nat) (cd : Addr) : Prop where
  ex : ∃ (f : Addr) (oc : Value) (od : Option Addr) (kV doc pm : Value) (an : Option Addr) (ct : Value) (osl : Array (Option Value)),
    K.lookup f = some ⟨oc, od, .func (PySem.W.fnOf x x (defArgs (top i)) (defBody (top i)) (defScope (top i)) .none kV doc pm an (.ref cd) ct), osl⟩ ∧ PySem.W.codeIn K (.ref cd) x = true ∧ mg x = some (.ref f) ∧ PySem.W.keepIn K (.ref f) = true
theorem AtC.ok {x : Str} {i k : Nat} {cd : Addr} {N ps : List Str} {sp : Sp'} (F : AtC K mg x i cd) (S : FnScope N ps (defScope (top i)))
    (hb : ∀ (kV doc pm : Value) (an : Option Addr) (cdv ct : Value) (us : List Value), us.length = ps.length → bindArgs (PySem.W.fnOf x x (defArgs (top i)) (defBody (top i)) (defScope (top i)) .none kV doc pm an cdv ct) ⟨us, []⟩ = pure (ps.zip us))
    (len : ∀ vs H Q, sp vs H Q → vs.length = ps.length)
    (body : ∀ (f : Addr) (A : Around) (outer : List Env) (s : Shared) (H : Hp) (vs : List V) (Q : VK), Cok k (bcx P w K mg base N x (top i) f (.ref cd) A outer s H) → sp vs H Q →
      wS (bcx P w K mg base N x (top i) f (.ref cd) A outer s H) (defBody (top i)) { nx := fun _ H' => Q .non H', rt := Q } (L2.start N vs) H) : GDef P w K mg base (k + 1) x sp := by
  obtain ⟨f, oc, od, kV, doc, pm, an, ct, osl, h1, h2, h3, h4⟩ := F.ex
  exact GDef.of h1 h2 h3 h4 S (hb kV doc pm an (.ref cd) ct) len (body f)
end
section
variable {T : List (Addr × Str)} {X : Cx} {σ : L2.St} {H : Hp} {iter : Expr} {D : Ends} {rest body : List Stmt} {pos pt : Pos} {n : Nat}
/-- for x, y in a new list of pairs -/
theorem ws_forL2 (j k : Nat) {x y : Str} {p1 p3 : Pos} {kt : Nat} {R : List PyData → Prop} (c : Cok n X) (hi : EvL T X iter σ H R)
    (h : ∀ r H1 ss us, H r = none → Ex T H H1 → R ss → H1 r = some (.lst us) → DTs X.K H1 us ss → ∃ Pv : Nat → L2.St → Hp → Prop, Pv 0 σ H1 ∧ (∀ i σ2 H2, Pv i σ2 H2 → Tk H1 H2 ∧ H2 r = some (.lst us)) ∧
      (∀ i d σ2 H2, ss[i]? = some d → Pv i σ2 H2 → ∃ d1 d2, d = .tuple [d1, d2] ∧ ∀ v1 v2, DT X.K H2 v1 d1 → DT X.K H2 v2 d2 → wS X body { D with nx := Pv (i + 1), ct := Pv (i + 1), bk := wS X rest D } ((σ2.set j (some v1)).set k (some v2)) H2) ∧ ∀ σ2 H2, Pv ss.length σ2 H2 → wS X rest D σ2 H2)
    (hN : X.N[j]? = some x := by rfl) (hx : Loc X.env.scope x := by first | exact Or.inl rfl | exact Or.inr rfl) (hf : X.fn x = true ∨ X.env.scope.names.lookup x = some .local := by first | exact .inl rfl | exact .inr rfl)
    (hN2 : X.N[k]? = some y := by rfl) (hx2 : Loc X.env.scope y := by first | exact Or.inl rfl | exact Or.inr rfl) (hf2 : X.fn y = true ∨ X.env.scope.names.lookup y = some .local := by first | exact .inl rfl | exact .inr rfl)
    (hp : PassesOwn (model X.prog X.w) X.A X.env X.xe := by exact PassesOwn.never) (hs : ∀ x, foldedSetIterable iter X.env x = pure x := by intro _; rfl) : wS X (.For (.Tuple [.Name x p1, .Name y p3] kt pt) iter body [] pos :: rest) D σ H :=
  ws_for c (pi_list peW) (pg_tup (n := 2) c.calm (pgs_cons (pg_name c.nd hN hx hf) (pgs_cons (pg_name c.nd hN2 hx2 hf2) pgs_nil))) (hi.go .refl fun r H1 us ss hr c1 hr1 hR hds hz => by
    obtain ⟨Pv, h0, hk, ht, hd⟩ := h r H1 ss us hr c1 hR hr1 hds
    refine ⟨r, rfl, ⟨us, SqL.of hr1⟩, us.length, _, _, walk_list, Pv, h0, fun i σ2 H2 p => SqL.of (hk i σ2 H2 p).2, fun i x σ2 H2 H3 hi p ⟨e, hy⟩ => ?_, fun σ2 H2 p => hd σ2 H2 (by rw [← hds.len]; exact p)⟩
    subst e
    obtain ⟨d, hd1, hd2⟩ := hds.atV hy
    obtain ⟨d1, d2, e2, go⟩ := ht i d σ2 H3 hd1 p
    have hd3 := hd2.tk (hk i σ2 H3 p).1
    rw [e2] at hd3
    obtain ⟨b, ys, e3, hq2, hys⟩ := hd3.inv_tup
    obtain ⟨v1, v2, e4, g1, g2⟩ := hys.inv2
    subst e3
    subst e4
    exact ⟨b, _, rfl, hq2.t, rfl, v1, _, rfl, v2, _, rfl, rfl, go v1 v2 g1 g2⟩) hp hs
end
theorem findW_of_mem {κ α : Type} [DecidableEq κ] : ∀ {ws : List (κ × α)} {e : κ × α}, (ws.map (·.1)).Nodup → e ∈ ws → findW ws e.1 = some e.2
  | [], _, _, h => by cases h
  | p :: ws, e, nd, h => by
    rw [List.map_cons, List.nodup_cons] at nd
    rw [findW_cons]
    rcases List.mem_cons.mp h with z | z
    · rw [z, if_pos rfl]
    · rw [if_neg (fun z2 => nd.1 (by rw [z2]; exact List.mem_map.mpr ⟨e, z, rfl⟩))]
      exact findW_of_mem nd.2 z
/-- the scope of the lambda in spread -/
def lamScope : Scope := { kind := .function, names := [("one", .local), ("ways", .free), ("len", .globalImplicit)], isGenerator := false, isCoroutine := false, more := [] }
theorem lamS1_ok : LamS1 (defScope (top 46)) lamScope "one" := by
  refine ⟨rfl, rfl, rfl, rfl, fun y h => ?_, fun y hy => ?_, fun y hy e => ?_⟩
  · have hm := PySem.mem_of_lookup h
    unfold lamScope at hm
    simp only [List.mem_cons, Prod.mk.injEq, List.mem_nil_iff, or_false] at hm
    rcases hm with ⟨a, _⟩ | ⟨_, b⟩ | ⟨_, b⟩
    · exact a
    · cases b
    · cases b
  · unfold lamScope at hy
    simp only [List.mem_cons, List.mem_nil_iff, or_false] at hy
    rcases hy with rfl | rfl | rfl <;> intro z <;> cases z
  · unfold lamScope at hy
    simp only [List.mem_cons, List.mem_nil_iff, or_false] at hy
    rcases hy with rfl | rfl | rfl
    · cases e
    · exact .inl rfl
    · cases e
abbrev lamQ : Str := (("spread" : Str) ++ ".<locals>.") ++ "<lambda>"
section
variable {T : List (Addr × Str)} {X : Cx} {σ : L2.St} {H : Hp} {n : Nat} {a body : Expr} {params : Arguments} {scope : Scope} {p pos kp lpos : Pos} {Q : VK} {x : Str} {cS PT' : Addr}
/-- min(a list, key=lambda x: ..) -/
theorem wE_minLam (c : Cok (n + 2) X) (hm : X.mg "min" = none) (hg : Gl X "min") (TB : LamX.TabB X.base X.mg cS PT') (hcode : X.env.code = .ref cS) (hmT : (PT', X.env.qual ++ "<lambda>") ∈ T) (hu : ∀ p ∈ T, p.1 = PT' → p.2 = X.env.qual ++ "<lambda>")
    (LS : LamS1 X.env.scope scope x) (hN : x ∉ X.N) (hdef : defaultsOf params X.env = ([], [])) (hbind : ∀ (pm ctv : Value) (c' : Addr) (u : Value), bindArgs (PySem.W.kla_fn "<lambda>" (X.env.qual ++ "<lambda>") params body scope (cloFrom X.env.cells scope.names []) pm (.ref c') ctv) ⟨[u], []⟩ = pure [(x, u)])
    (ha : wE X a σ H fun v H1 => ∃ (L : Addr) (as : List Addr) (kf : Nat → Int), v = .ref L ∧ H1 L = some (.lst (as.map V.ref)) ∧ as ≠ [] ∧ LamX.Tabs T H1 ∧
      (∀ i v f c' A s H2, (as.map V.ref)[i]? = some v → Ex T H1 H2 → Cok n (lamCx1 X A s H2 scope f c' x) → wE (lamCx1 X A s H2 scope f c' x) body (σ ++ [some v]) H2 fun r H3 => r = .int (kf i) ∧ Ex T H2 H3) ∧ ∀ y H3, y ∈ as.map V.ref → Ex T H1 H3 → Q y H3)
    (h1 : starEach [a] X.env = (false, eval a X.env) :: starEach [] X.env := by rfl) (he : backTo pos (starEach [a] X.env) = (false, eval a X.env) :: backTo pos (starEach [] X.env) := by rfl) (hpl : (backTo pos (starEach [a] X.env)).any (·.1) = false := by rfl) :
    wE X (.Call (.Name "min" p) [a] [⟨some "key", .Lambda params body scope lpos, kp⟩] pos) σ H Q := by
  refine wE_minX (T := T) c hm hg (ha.imp fun v H1 ⟨L, as, kf, ev, hL, hne, htab, hbody, q⟩ => ⟨L, as.map V.ref, ev, hL, fun z => hne (List.map_eq_nil_iff.mp z), ⟨as, rfl⟩, fun pins s I => ?_⟩) h1 he hpl
  refine thn (wE_lam (T := T) (Q := fun v H7 => ∃ (f' c' : Addr) (pm ctv : Value), v = .ref f' ∧ Ex T H1 H7 ∧ H7 f' = some (LamO f' (lamOb X params body scope pm c' ctv)) ∧ H7 c' = some (LamX.CodeO c' (X.env.qual ++ "<lambda>"))) TB hcode hmT hu htab hdef (fun ok => LS.has ok) (fun f' c' pm ctv H7 c7 _ hf hc => ⟨f', c', pm, ctv, rfl, c7, hf, hc⟩) pins s I) fun u s2 ⟨v, H7, I7, r, f', c', pm, ctv, ev, c7, hf, hc⟩ => ?_
  subst ev
  obtain rfl : u = Value.ref f' := r
  exact ⟨H7, kf, I7, c7, key_lam c LS hN hf hc (hbind pm ctv c') (fun i v A s3 H8 hv c8 ck => hbody i v f' c' A s3 H8 hv (c7.trans c8) ck), .inl ⟨f', rfl⟩, fun y H8 hy c8 => q y H8 hy (c7.trans c8)⟩
end
structure SpR (c : Code) (D : Str → Prop) (ent : Bool) (first : Plc) (B : Nat) (ws : List (Plc × List PyData)) : Prop where
  fst : (findW ws first).isSome = true
  cl : Closed c D ent (fun p => p ∈ ws.map (·.1))
  nd : (ws.map (·.1)).Nodup
  has : ∀ e ∈ ws, c.has e.1
  len : ∀ e ∈ ws, e.2.length ≤ 35 * (B + 1)
  z : ws.length ≤ 36
theorem paired_len {α β : Type} {R : α → β → Prop} {xs : List α} {ys : List β} (h : Paired R xs ys) : xs.length = ys.length := Paired.length h
section
variable {P : Program} {w : World} {K : PySem.W.Frag} {mg : Str → Option Value} {base : Heap} {T : List (Addr × Str)}
theorem sc_spread : FnScope ["code", "first", "through", "entering", "ways", "open_ones", "place", "other", "steps", "longer"] ["code", "first", "through", "entering"] (defScope (top 46)) := ⟨rfl, rfl, rfl, by decide +kernel, rfl, by decide +kernel, by decide +kernel⟩
def spSpread (P : Program) (w : World) (K : PySem.W.Frag) (T : List (Addr × Str)) : Sp' := fun vs H Q => ∃ (c : Code) (first : Plc) (l : List (Str × List PyData)) (thr : Addr) (ent : Bool) (B : Nat) (v1 v2 v4 : V), OkCode c ∧ c.has first ∧ TR K H thr l ∧ B ≤ 46000 ∧ (∀ e ∈ l, e.2.length ≤ B) ∧ LamX.Tabs T H ∧ vs = [v1, v2, .ref thr, v4] ∧ DT K H v1 c.d ∧ DT K H v2 first.d ∧ DT K H v4 (.bool ent) ∧
  ∀ wy H' ws, H wy = none → Ex T H H' → WY P w K H' wy ws → SpR c (InL l) ent first B ws → Q (.ref wy) H'
theorem g_spread {cS PT' : Addr} (F : AtC K mg "spread" 46 cS) (TB : LamX.TabB base mg cS PT') (hm : (PT', lamQ) ∈ T) (hu : ∀ p ∈ T, p.1 = PT' → p.2 = lamQ) (B : Blt mg) (Gb : GDef P w K mg base 4 "behind" (spBehind K T)) : GDef P w K mg base 5 "spread" (spSpread P w K T) := by
  refine F.ok sc_spread (fun _ _ _ _ _ _ us hl => match us, hl with | [_, _, _, _], _ => rfl) (fun vs H Q ⟨c, p, l, thr, ent, B, v1, v2, v4, _, _, _, _, _, _, e, _⟩ => by rw [e]; rfl) fun f Ar outer s H vs Q k ⟨c, first, l, thr, ent, B', v1, v2, v4, oc, has, tr, hB, hlen, htab, e, h1, h2, h4, q⟩ => ?_
  subst e
  refine ws_unpV (T := T) 4 5 k (wA_cons (wE_disp1 (T := T) (ks := plcK first) k (ed_name 1 h2) (ed_tup ea_nil) fun wy vw H1 hwy c1 t1 hvw => wA_cons (wE_disp1 (T := T) (ks := plcK first) k (ed_name 1 (c1.dt h2)) ed_bl fun oa vo H2 hoa c2 t2 hvo => wA_nil ⟨_, _, rfl, fun tp H3 htp c3 => ?_⟩)))
  have d3 : Ex T H H3 := (c1.trans c2).trans c3
  have W0 : WY P w K H3 wy [(first, [])] := ⟨⟨_, t1.keep (c2.trans c3) (by simp), .cons ⟨rfl, (c2.trans c3).dt hvw⟩ .nil⟩⟩
  have O0 : OP P w K H3 oa [first] := ⟨⟨_, t2.keep c3 (by simp), .cons ⟨rfl, c3.dt hvo⟩ .nil⟩⟩
  have noa : H oa = none := c1.back oa hoa
  have hfr : ∀ x ∈ [wy, oa], H x = none := fun x hx => by
    rcases List.mem_cons.mp hx with z | z
    · rw [z]; exact hwy
    · rw [List.mem_singleton.mp z]; exact noa
  have nthr : thr ∉ [wy, oa] := fun z => by
    obtain ⟨kvs, e, _⟩ := tr.ex
    rw [hfr _ z] at e
    cases e
  have nwo : wy ≠ oa := fun z => by
    obtain ⟨⟨xs, e, _⟩, _⟩ := t1
    rw [z, hoa] at e
    cases e
  refine ws_while (T := T) (fun m σ' H' => ∃ (ws : List (Plc × List PyData)) (op : List Plc) (u6 u7 u8 u9 : Option V), m = muW ws op ∧ σ' = [some v1, some v2, some (.ref thr), some v4, some (.ref wy), some (.ref oa), u6, u7, u8, u9] ∧ Chg T [wy, oa] H3 H' ∧ WY P w K H' wy ws ∧ OP P w K H' oa op ∧ SJ c (InL l) ent first (B' + 1) ws op (fun _ => False)) _ ⟨[(first, [])], [first], none, none, none, none, rfl, rfl, .refl, W0, O0, .start has⟩ ?_
  rintro m σ' H4 ⟨ws, op, u6, u7, u8, u9, rfl, rfl, c4, Wy, Oy, j⟩
  obtain ⟨kvo, to, so⟩ := Oy.ex
  have hko : kvo.length = op.length := by
    have := Paired.length so
    unfold openL at this
    rwa [List.length_map] at this
  have hop36 := j.op36 oc
  refine ⟨_, et_cmp (ec_neT k (ev_name 5) to), fun z H5 c5 => ?_, fun z H5 c5 => ?_⟩
  · have to5 := to.keep c5 (by simp)
    have W5 := Wy.keep c5 (by simp)
    refine ws_set 6 k (wE_minLam (T := T) (n := 2) (x := "one") (scope := lamScope) (cS := cS) (PT' := PT') k B.min rfl TB rfl hm hu lamS1_ok (show (("one" : Str) ∉ (["code", "first", "through", "entering", "ways", "open_ones", "place", "other", "steps", "longer"] : List Str)) by decide) rfl (fun _ _ _ _ => rfl) (el_listTD (T := T) k B.list (ev_name 5) to5 (by omega) rfl rfl fun L H6 as hL c6 hL6 hds => ?_))
    have ek : (kvo.map fun e => keyDs e.1) = op.map Plc.d := by
      have := so.keys
      have e2 : (kvo.map fun e => keyDs e.1) = (kvo.map (·.1)).map keyDs := by rw [List.map_map]; rfl
      rw [e2, this]
      unfold openL
      rw [List.map_map, List.map_map]
      rfl
    rw [ek] at hds
    have hal : as.length = op.length := by
      have := hds.len
      rwa [List.length_map, List.length_map] at this
    have W6 := W5.keep c6 (by simp)
    have hat : ∀ (i : Nat) (v : V), (as.map V.ref)[i]? = some v → ∃ p, op[i]? = some p ∧ DT K H6 v p.d := fun i v hv => by
      obtain ⟨d, hd, hdt⟩ := hds.atV hv
      rw [List.getElem?_map] at hd
      obtain ⟨p, hp, rfl⟩ := Option.map_eq_some_iff.mp hd
      exact ⟨p, hp, hdt⟩
    refine ⟨L, as, fun i => match op[i]? with
      | some p => (((findW ws p).getD []).length : Int)
      | none => 0, rfl, hL6, fun z2 => ?_, (c5.trans c6).tab (c4.tab (d3.tab htab)), fun i v f' c' A s3 H8 hv c8 ck => ?_, fun x H8 hx c8 => ?_⟩
    · rw [z2] at hal
      rw [hko, ← hal] at z
      exact absurd z (by decide)
    · obtain ⟨p, hp, hdt⟩ := hat i v hv
      obtain ⟨dp, hdp⟩ := Option.isSome_iff_exists.mp (j.sub p (List.mem_of_getElem? hp))
      refine EvD.go (T := T) (ed_lenT B.len (ed_getWY ck (ev_name 4) (ed_name 10 (c8.dt hdt)) (W6.keep c8 (by simp)) hdp)) .refl fun r H9 c9 hr => ⟨?_, c9⟩
      rw [hr.inv_int]
      simp only [hp, hdp, Option.getD_some]
    obtain ⟨i, hi⟩ := List.getElem?_of_mem hx
    obtain ⟨p, hp, hdt⟩ := hat i x hi
    have hpo := List.mem_of_getElem? hp
    have hps := j.sub p hpo
    have hasp : c.has p := by
      obtain ⟨e, he, e1⟩ := List.mem_map.mp (findW_isSome.mp hps)
      rw [← e1]
      exact j.has e he
    obtain ⟨rw0, hrow⟩ := OkCode.has_row hasp
    have c58 := c6.trans c8
    have O8 : OP P w K H8 oa op := Oy.keep (c5.trans c58) (by simp)
    refine ws_popOP (T := T) k (ev_name 5) (ed_name 6 (c8.dt hdt)) O8 hpo fun H9 c9 O9 => ?_
    have c89 : Chg T [oa] H5 H9 := c58.then_ c9
    have W9 := W5.keep c89 (by simpa using nwo)
    have c49 : Chg T [wy, oa] H3 H9 := (c4.and_ c5).trans (c89.mono (fun b hb => by rw [List.mem_singleton.mp hb]; simp))
    have tr9 : TR K H9 thr l := (tr.keep d3 (by simp)).keep c49 nthr
    refine ws_forL2 (T := T) (R := fun ss => ∃ L : List (Plc × List PyData), ss = L.map behD ∧ BehR c l ent (B' + 1) p L) 7 8 k (fun Hx cx Qx qx => wE_cl Gb k (wA_cons (EvD.go (T := T) (ed_name 0 (cx.dt (c49.dt (d3.dt h1)))) .refl fun y1 Ha ca g1 => wA_cons (EvD.go (T := T) (ed_name 6 ((cx.trans ca).dt (c9.dt (c8.dt hdt)))) .refl fun y2 Hb cb g2 => wA_cons (EvV.go (T := T) (ev_name 2) .refl fun Hc cc => wA_cons (EvD.go (T := T) (ed_name 3 ((((cx.trans ca).trans cb).trans cc).dt (c49.dt (d3.dt h4)))) .refl fun y4 Hd cd g4 => wA_nil ⟨c, p, rw0, l, thr, ent, B', y1, y2, y4, oc, hrow, hasp, tr9.keep ((((cx.trans ca).trans cb).trans cc).trans cd) (by simp), by omega, hlen, rfl, ((cb.trans cc).trans cd).dt g1, (cc.trans cd).dt g2, g4, fun r H' Lb us hr c' hr' hds' bR => qx r H' us (Lb.map behD) ((((ca.trans cb).trans cc).trans cd).back r hr) ((((ca.trans cb).trans cc).trans cd).trans c') hr' ⟨Lb, rfl, bR⟩ hds' (by rw [hds'.len, List.length_map]; have := bR.z; omega)⟩)))))) fun r H10 ss us hr c10 ⟨Lb, ess, bR⟩ hr10 hds10 => ?_
    subst ess
    have hrn : r ∉ [wy, oa] := fun z => by
      obtain ⟨_, ⟨⟨_, a1, _⟩, _⟩, _⟩ := W9.ex
      obtain ⟨_, ⟨⟨_, a2, _⟩, _⟩, _⟩ := O9.ex
      rcases List.mem_cons.mp z with z | z
      · rw [z, a1] at hr; cases hr
      · rw [List.mem_singleton.mp z, a2] at hr; cases hr
    have h7 : DT K H10 x p.d := c10.dt (c9.dt (c8.dt hdt))
    refine ⟨fun i σ2 H2 => ∃ (ws2 : List (Plc × List PyData)) (op2 : List Plc) (u7 u8 u9 : Option V), σ2 = [some v1, some v2, some (.ref thr), some v4, some (.ref wy), some (.ref oa), some x, u7, u8, u9] ∧ Chg T [wy, oa] H10 H2 ∧ WY P w K H2 wy ws2 ∧ OP P w K H2 oa op2 ∧ SJ c (InL l) ent first (B' + 1) ws2 op2 (fun y => y = p) ∧ (findW ws2 p).isSome = true ∧ muW ws2 op2 < muW ws op ∧ ∀ e ∈ Lb.take i, (findW ws2 e.1).isSome = true,
      ⟨ws, _, u7, u8, u9, rfl, .refl, W9.keep c10 (by simp), O9.keep c10 (by simp), j.pop, hps, muW_pop hpo, fun e he => by simp at he⟩, fun i σ2 H2 ⟨_, _, _, _, _, _, cg, _⟩ => ⟨cg.tup, cg.get hr10 hrn⟩, ?_, ?_⟩
    · rintro i d σ2 H11 hd ⟨ws2, op2, w7, w8, w9, rfl, cg, W11, O11, j2, hps2, hmu, hall⟩
      rw [List.getElem?_map] at hd
      obtain ⟨⟨q', ds'⟩, he, rfl⟩ := Option.map_eq_some_iff.mp hd
      obtain ⟨hnx, hdl⟩ := bR.only _ (List.mem_of_getElem? he)
      have hnx : Nx c (InL l) ent p q' := hnx
      have hdl : ds'.length ≤ B' + 1 := hdl
      have hasq : c.has q' := nx_has oc hasp hnx
      obtain ⟨dp, hdp⟩ := Option.isSome_iff_exists.mp hps2
      have hdpl := j2.bound oc hdp
      refine ⟨q'.d, .tuple ds', rfl, fun y7 y8 g7 g8 => ?_⟩
      refine ws_asg (T := T) (d := .tuple (dp ++ ds')) 9 k (ed_catB (ed_getWY k (ev_name 4) (ed_name 6 (cg.dt h7)) W11 hdp) (ed_name 8 g8) (by omega)) fun y9 H12 c12 g9 => ?_
      have W12 := W11.keep c12 (by simp)
      have O12 := O11.keep c12 (by simp)
      refine ws_when (T := T) (k := !(findW ws2 q').isSome || decide (((dp ++ ds').length : Int) < (((findW ws2 q').getD []).length : Int))) (et_or (et_cmp (ec_notInWY k (ed_name 7 (c12.dt g7)) (ev_name 4) W12)) fun z2 => ?_) (fun z2 H13 c13 => ?_) fun z2 H13 c13 => ?_
      · obtain ⟨old, hold⟩ := Option.isSome_iff_exists.mp (by simpa using z2 : (findW ws2 q').isSome = true)
        refine et_cmp (ec_lt (ed_lenT B.len (ed_name 9 g9)) (ed_lenT B.len (EvD.is (ed_getWY k (ev_name 4) (ed_name 7 (c12.dt g7)) W12 hold) ?_)))
        rw [hold]
        rfl
      · have hlt : ∀ old, findW ws2 q' = some old → (dp ++ ds').length < old.length := fun old ho => by
          rw [ho] at z2
          simp only [Option.isSome_some, Bool.not_true, Bool.false_or, decide_eq_true_eq, Option.getD_some] at z2
          omega
        have hPhi : (dp ++ ds').length < Phi ws2 q' := by
          unfold Phi
          cases ho : findW ws2 q' with
          | none =>
            show _ < 4000000
            rw [List.length_append]
            omega
          | some old => exact hlt old ho
        have hw36 := j2.le36 oc
        have ho36 := j2.op36 oc
        refine ws_putWY (T := T) k (ed_name 9 (c13.dt g9)) (ev_name 4) (ed_name 7 ((c12.trans c13).dt g7)) (W12.keep c13 (by simp)) (by omega) fun H14 c14 W14 => ?_
        refine ws_putOP (T := T) k ed_bl (ev_name 5) (ed_name 7 (c14.dt ((c12.trans c13).dt g7))) ((O12.keep c13 (by simp)).keep c14 (by simpa using fun z => nwo z.symm)) (by omega) fun H15 c15 O15 => wS_nil (wS_nil ?_)
        refine ⟨_, _, _, _, _, rfl, ?_, W14.keep c15 (by simpa using nwo), O15, j2.put hdp hasq hdl hlt, ?_, Nat.lt_trans (muW_put oc hasq hPhi) hmu, fun e he2 => ?_⟩
        · exact (cg.and_ (c12.trans c13)).trans ((c14.mono fun b hb => by rw [List.mem_singleton.mp hb]; simp).trans (c15.mono fun b hb => by rw [List.mem_singleton.mp hb]; simp))
        · rw [findW_put]
          split
          · rfl
          · exact hps2
        · rw [findW_put]
          split
          · rfl
          · rename_i hne
            rw [List.take_succ, he] at he2
            rcases List.mem_append.mp he2 with z3 | z3
            · exact hall e z3
            · have z3 : e = (q', ds') := by simpa using z3
              rw [z3] at hne
              exact absurd rfl hne
      · have hsome : (findW ws2 q').isSome = true := by
          cases ho : findW ws2 q' with
          | none =>
            rw [ho] at z2
            simp at z2
          | some old => rfl
        refine wS_nil ⟨ws2, op2, _, _, _, rfl, cg.and_ (c12.trans c13), W12.keep c13 (by simp), O12.keep c13 (by simp), j2, hps2, hmu, fun e he2 => ?_⟩
        rw [List.take_succ, he] at he2
        rcases List.mem_append.mp he2 with z3 | z3
        · exact hall e z3
        · have z3 : e = (q', ds') := by simpa using z3
          rw [z3]
          exact hsome
    · rintro σ2 H11 ⟨ws2, op2, w7, w8, w9, rfl, cg, W11, O11, j2, hps2, hmu, hall⟩
      rw [List.length_map, List.take_length] at hall
      exact wS_nil ⟨_, hmu, ws2, op2, _, _, _, _, rfl, rfl, (c49.and_ c10).trans cg, W11, O11, j2.done fun q' hn => by
        obtain ⟨ds, hm⟩ := bR.all q' hn
        exact hall _ hm⟩
  · have e0 : op = [] := by
      rw [hko] at z
      exact List.length_eq_zero_iff.mp (by simpa using z)
    subst e0
    refine ws_retV (T := T) (ev_name 4) fun H6 c6 => ?_
    exact q wy H6 ws hwy (Chg.fresh d3 (c4.and_ (c5.trans c6)) hfr) (Wy.keep (c5.trans c6) (by simp)) ⟨j.first, j.closed, j.nd, j.has, fun e he => j.bound oc (findW_of_mem j.nd he), j.le36 oc⟩
end
end K7
/-! ## Head0a -/
section
open PySem PySem.W PyProof.Rows
set_option Elab.async false
set_option maxRecDepth 100000 in
set_option maxHeartbeats 0 in
open_top hd for PySem.Challenge.rw_storeways_k27_whole_trail_is_a_way
end
/-! ## N0B -/
set_option Elab.async false
set_option linter.all false
set_option maxRecDepth 100000
set_option maxHeartbeats 0
/-! What the top leaves: facts of its defs. -/
namespace K7
open PySem PySem.Spec PyProof.Rows L2
/-- a def of the top, of no default -/
def dd (i : Nat) (x : Str) : He.DefD := ⟨(x, none), x, x, defArgs (top i), defBody (top i), defScope (top i), [], []⟩
def dm (i : Nat) (x q : Str) : He.DefD := ⟨("Machine", some x), x, q, defArgs (inClass (top 10) i), defBody (inClass (top 10) i), defScope (inClass (top 10) i), [], []⟩
def dr (i : Nat) (x : Str) : He.DefD := ⟨(x, none), x, x, defArgs (top i), defBody (top i), defScope (top i), [.non, .int 100], []⟩
def hn1 : List (Nat × Str) := [(3, "is_number"), (4, "is_word"), (6, "amount"), (7, "met_cell"), (9, "found_by"), (11, "at_cell"), (12, "do_load"), (13, "do_store"), (14, "do_touch"), (15, "do_set"), (16, "do_tell"), (17, "do_need"), (19, "do_call"), (20, "do_end"), (21, "one_step"), (22, "gone"), (29, "face"), (32, "need_way"), (33, "row_there"), (34, "choices_at"), (35, "led"), (36, "is_spot"), (37, "is_step"), (38, "is_choice"), (39, "gone_way")]
def hn2 : List (Nat × Str) := [(40, "lets_way"), (41, "state_of"), (42, "shows"), (44, "goes_on"), (45, "behind"), (46, "spread"), (47, "back_way"), (48, "ways_through"), (49, "all_ways"), (50, "met_places"), (52, "_law_feed"), (53, "_law_draw"), (54, "_law_objects"), (55, "_law_where"), (56, "_law_operand"), (57, "_law_row"), (58, "_law_plan"), (59, "_law_beginning"), (60, "_law_row_at"), (61, "_law_is_right"), (62, "law")]
def hfn : List He.DefD := (hn1 ++ hn2).map (fun p => dd p.1 p.2) ++ [dr 23 "run", dr 24 "trail", dm 0 "__init__" "Machine.__init__", dm 1 "lay_all" "Machine.lay_all", dm 2 "may_enter" "Machine.may_enter", dm 3 "keep_step" "Machine.keep_step"]
def hfree : List Str := ["isinstance", "int", "bool", "str", "tuple", "len", "all", "dict", "range", "sorted", "set", "list", "min", "repr", "enumerate"]
def hglo : List Str := ["Machine", "DOES", "MAIN", "run", "trail"]
def hnoat : List Str := ["code_here", "by_names", "in_cells", "heard_now", "steps_now", "calls_now", "fuel_left", "word"]
def hfa : List He.Fa := (hn1 ++ hn2).map (fun p => .glo p.2) ++ hglo.map .glo ++ hfree.map .free ++ hnoat.map (.noat "Machine") ++ [.str "LETTERS" lettersS, .int "LONGEST" 8, .cls "Machine", .mkr "Machine", .meth "Machine" "lay_all", .meth "Machine" "may_enter", .meth "Machine" "keep_step"]
def hts : List He.Tab := [(fun K => He.ga K "DOES", ["load", "store", "touch", "set", "tell", "need"])]
def htf : List He.Defn := [("spread", none)]
def hdo : List (Str × He.Dv) := [("load", .glo "do_load"), ("store", .glo "do_store"), ("touch", .glo "do_touch"), ("set", .glo "do_set"), ("tell", .glo "do_tell"), ("need", .glo "do_need")]
/-- MAIN, a plain tuple -/
def mainOk (K : PySem.W.Frag) : Bool := match K.lookup (He.ga K "MAIN") with
  | some ⟨.type cn, none, .seq items _, _⟩ => decide (cn = "tuple") && (decide (items.size ≤ sizeLine) && He.relAll [.str "main", .int 0, .int 0] items.toList)
  | _ => false
def hex (K : PySem.W.Frag) : Bool := He.valsB K (He.ga K "DOES") hdo && mainOk K
noncomputable abbrev hK (w : World) : PySem.W.Frag := hd.heap_39 w.params
theorem hsays (w : World) : He.SaysT hfa hfn hts w (hK w) := by
  show _ = _
  kernel_rfl
theorem hexK (w : World) : hex (hK w) = true := by kernel_rfl
theorem hcT (w : World) : (He.cT (hK w) ("spread", none)).2 = 306 := by kernel_rfl
theorem hcd (w : World) : PySem.W.codeHdIn (hK w) (He.cT (hK w) ("spread", none)).1 306 = true := by kernel_rfl
theorem hno (w : World) : (hK w).lookup 306 = none := by kernel_rfl
end K7
/-! ## L1B -/
set_option Elab.async false
set_option linter.all false
set_option maxRecDepth 100000
set_option maxHeartbeats 4000000
/-! back_way. -/
namespace K7
open PySem PySem.Spec PyProof.Rows L2
section
variable {T : List (Addr × Str)} {X : Cx} {σ : L2.St} {H : Hp} {a : Expr} {n : Nat} {l : Addr} {vs : List V} {pd : Pos}
theorem op_neL0 (c : Cok n X) : OpR X (compareOp .NotEq) (fun x y H Q => ∃ d1 d2 xs, x = .ref d1 ∧ y = .ref d2 ∧ SqL X.K H d1 xs ∧ SqL X.K H d2 [] ∧ Q (.bl (!xs.isEmpty)) H) := by
  intro pins s σ H x y v u Q I rx ry h
  obtain ⟨d1, d2, xs, rfl, rfl, t1, t2, q⟩ := h
  cases rx
  cases ry
  obtain ⟨its, r1, p1, _⟩ := I.list t1
  obtain ⟨its2, r2, p2, _⟩ := I.list t2
  cases r2
  have fin : EP X pins σ Q (.bool (!xs.isEmpty)) s := ⟨.bl _, H, I, rfl, q⟩
  cases r1 with
  | nil => exact SeqAt.RcNeAt.lists (e := fun _ => true) p1.isList p2.isList rfl (by have := c.hu64; omega) (fun j h1 _ => absurd h1 (by simp)) X.prog X.w _ _ (by simpa using fin)
  | cons h t => exact SeqAt.RcNeAt.lists_lengths p1.isList p2.isList (by simp) (by have := c.hu64; omega) X.prog X.w _ _ (by simpa using fin)
/-- l != [] -/
theorem ec_neL0 (c : Cok n X) (ha : EvV T X a σ H (.ref l)) (hl : H l = some (.lst vs)) : EvC T X .NotEq a (.List [] pd) σ H (!vs.isEmpty) := fun H1 c1 Q q =>
  (ha H1 c1 _ fun H2 c2 => (el_lst (T := T) ea_nil).go .refl fun r H3 us ds hr c3 hr3 e hds hz => by
    subst e
    cases hds
    exact ⟨_, op_neL0 c, l, r, vs, rfl, rfl, SqL.of ((c1.trans (c2.trans c3)).get hl), SqL.of hr3, q H3 (c2.trans c3)⟩)
end
theorem dts_tups {K : PySem.W.Frag} {H : Hp} : ∀ {dss : List (List PyData)} {vs : List V}, DTs K H vs (dss.map .tuple) → ∃ as : List Addr, vs = as.map V.ref
  | [], _, .nil => ⟨[], rfl⟩
  | _ :: _, _, .cons h t => by
    obtain ⟨p, xs, rfl, _, _⟩ := h.inv_tup
    obtain ⟨as, rfl⟩ := dts_tups t
    exact ⟨p :: as, rfl⟩
section
variable {P : Program} {w : World} {K : PySem.W.Frag} {mg : Str → Option Value} {base : Heap} {T : List (Addr × Str)}
theorem sc_back_way : FnScope ["code", "routine", "through", "ways", "backs", "place"] ["code", "routine", "through"] (defScope (top 47)) := ⟨rfl, rfl, rfl, by decide +kernel, rfl, by decide +kernel, by decide +kernel⟩
/-- what back_way tells -/
def BackR (c : Code) (l : List (Str × List PyData)) (r : Str) (B : Nat) (d : PyData) : Prop :=
  (d = .none ∧ ∃ S : Plc → Prop, S ⟨r, 0, 0⟩ ∧ Closed c (InL l) false S ∧ ¬ ∃ p, S p ∧ c.row p = some .back) ∨ ∃ ds, d = .tuple ds ∧ ds.length ≤ 35 * (B + 1) + 1
def spBack (K : PySem.W.Frag) (T : List (Addr × Str)) : Sp' := fun vs H Q => ∃ (c : Code) (r : Str) (l : List (Str × List PyData)) (thr : Addr) (B : Nat) (v1 v2 : V), OkCode c ∧ c.has ⟨r, 0, 0⟩ ∧ TR K H thr l ∧ B ≤ 46000 ∧ (∀ e ∈ l, e.2.length ≤ B) ∧ LamX.Tabs T H ∧ vs = [v1, v2, .ref thr] ∧ DT K H v1 c.d ∧ DT K H v2 (.str r) ∧
  ∀ v H' d, Ex T H H' → BackR c l r B d → DT K H' v d → Q v H'
theorem g_back_way (F : At K mg "back_way" 47) (B : Blt mg) (Gs : GDef P w K mg base 5 "spread" (spSpread P w K T)) (Gr : GDef P w K mg base 1 "row_there" (spRow K T)) : GDef P w K mg base 6 "back_way" (spBack K T) := by
  refine F.ok sc_back_way (fun _ _ _ _ _ _ us hl => match us, hl with | [_, _, _], _ => rfl) (fun vs H Q ⟨c, r, l, thr, B, v1, v2, _, _, _, _, _, _, e, _⟩ => by rw [e]; rfl) fun f cdv Ar outer s H vs Q k ⟨c, r, l, thr, B', v1, v2, oc, has, tr, hB, hlen, htab, e, h1, h2, q⟩ => ?_
  subst e
  refine ws_set 3 k (wE_cl Gs k (wA_cons (EvD.go (T := T) (ed_name 0 h1) .refl fun y1 Ha ca g1 => wA_cons (EvD.go (T := T) (d := (⟨r, 0, 0⟩ : Plc).d) (ed_tup (ds := [.str r, .int 0, .int 0]) (ea_cons (ed_name 1 (ca.dt h2)) (ea_cons ed_int (ea_cons ed_int ea_nil)))) .refl fun y2 Hb cb g2 => wA_cons (EvV.go (T := T) (ev_name 2) .refl fun Hc cc => wA_cons (EvD.go (T := T) ed_bl .refl fun y4 Hd cd g4 => wA_nil ⟨c, ⟨r, 0, 0⟩, l, thr, false, B', y1, y2, y4, oc, has, tr.keep (((ca.trans cb).trans cc).trans cd) (by simp), hB, hlen, (((ca.trans cb).trans cc).trans cd).tab htab, rfl, ((cb.trans cc).trans cd).dt g1, (cc.trans cd).dt g2, g4, fun wy H1 ws hwy c1 Wy sp => ?_⟩))))))
  have d1 : Ex T H H1 := (((ca.trans cb).trans cc).trans cd).trans c1
  have nwy : H wy = none := (((ca.trans cb).trans cc).trans cd).back wy hwy
  obtain ⟨kvt, td, sd⟩ := Wy.ex
  have hkl : kvt.length = ws.length := by
    have := Paired.length sd
    unfold wayL at this
    rwa [List.length_map] at this
  have hz36 := sp.z
  refine ws_lockT (T := T) td fun od xs H2 c2 tf => ?_
  have hxl : xs.length = ws.length := by
    have := congrArg List.length tf.vw
    rw [view_len] at this
    omega
  have hat : ∀ (i : Nat) (y : XK), xs[i]? = some y → ∃ p ds, ws[i]? = some (p, ds) ∧ y.1 = plcK p ∧ ∃ v, valV kvt (plcK p) = some v ∧ DT K H1 v (.tuple ds) := fun i y hy => by
    have h3 := view_get tf.vw hy
    obtain ⟨e, h4, h5, h6⟩ := sd_get sd h3
    unfold wayL at h4
    rw [List.getElem?_map] at h4
    obtain ⟨⟨p, ds⟩, h7, rfl⟩ := Option.map_eq_some_iff.mp h4
    refine ⟨p, ds, h7, h5, ?_⟩
    have hf := findW_of_mem sp.nd (List.mem_of_getElem? h7)
    exact sd.some (k := plcK p) (d := .tuple ds) (by rw [wayL_look, hf]; rfl)
  refine ws_lc (T := T) (own := [("place", 5)]) (wi := iKeysF P w K (wE _ _)) (g := gName 5) (tt := bT _ _ _) 4 k (blkOk_by rfl) (pi_keysF peW) (fun s Hs C cl fp => pg_name (blkC_ok k).nd rfl (.inl rfl) (.inr rfl)) (fun s Hs C cl fp => pts_one (ptB s Hs C cl fp)) ?_
  refine EvV.go (T := T) (ev_name 3) .refl fun H3 c3 => ?_
  have tf3 := tf.keep c3 (by simp)
  refine ⟨wy, kvt, od, xs, rfl, tf3, xs.length, _, _, walk_F, fun i us H' => Ex T H3 H' ∧ (∃ dss : List (List PyData), DTs K H' us (dss.map .tuple) ∧ ∀ ds ∈ dss, ds.length ≤ 35 * (B' + 1) + 1) ∧ us.length ≤ i ∧ i ≤ xs.length ∧ (us = [] → ∀ e ∈ ws.take i, c.row e.1 ≠ some .back), [], ⟨.refl, ⟨[], .nil, fun _ h => by cases h⟩, Nat.le_refl _, Nat.zero_le _, fun _ e he => by simp at he⟩, fun _ z => absurd z (by simp), ?_, ?_, ?_, ?_⟩
  · exact fun D i us H4 H5 hD ⟨c4, ⟨dss, g1, g2⟩, g3, g4, g5⟩ c5 => ⟨Chg.fresh (S := [D]) c4 c5 (fun x hx => by rw [List.mem_singleton.mp hx]; exact hD), ⟨dss, c5.dts g1, g2⟩, g3, g4, g5⟩
  · exact fun i us H4 ⟨c4, _, g3, g4, _⟩ => ⟨tf3.keep c4 (by simp), by omega⟩
  · rintro i us x H4 H5 hi ⟨c4, ⟨dss, g1', g2'⟩, g3, g4', g5⟩ ⟨rfl, y, hy, rfl⟩ Out Skip hO hS
    refine ⟨rfl, ?_⟩
    obtain ⟨p, ds, hw, ey, v, hv, hdv⟩ := hat i y hy
    have hpd : DT K H5 (.ref y.2.1) p.d := by
      have := c4.sp (c3.sp (tf.ks y (List.mem_of_getElem? hy)))
      rw [ey] at this
      exact dt_ofKey this
    have hp : c.has p := sp.has _ (List.mem_of_getElem? hw)
    obtain ⟨op, hrow⟩ := OkCode.has_row hp
    have h1' : DT K H5 v1 c.d := c4.dt (c3.dt (c2.dt (d1.dt h1)))
    show bT _ _ _ _ H5 _
    intro s' Hs C cl fp
    refine (et_cmp (T := T) (ec_eqS (ed_at0 (ds := .str op.word :: op.more) (ed_cf Gr (blkC_ok k) (c, p, op) (ea_cons (ed_name 0 h1') (ea_cons (ed_name 5 hpd) ea_nil)) ⟨oc, hrow⟩)) ed_str)) H5 .refl _ fun H6 c6 => ?_
    generalize hb : decide (op.word = "back") = b
    cases b with
    | true =>
      rw [if_pos rfl]
      intro s' Hs C cl fp
      refine EvD.go (T := T) (d := .tuple (ds ++ [.tuple [p.d, .none]])) (ed_catB (EvV.dat (ev_getF (blkC_ok k) (ev_name 3) (ks := plcK p) (ed_name 5 (c6.dt hpd)) (tf3.keep (c4.trans c6) (by simp)) hv) (c6.dt (c4.dt (c3.dt (c2.dt hdv))))) (ed_tup (ea_cons (ed_tup (ea_cons (ed_name 5 (c6.dt hpd)) (ea_cons ed_non ea_nil))) ea_nil)) ?_) .refl fun z H7 c7 hz => hO z H7 (c6.trans c7) ⟨c4.trans (c6.trans c7), ⟨dss ++ [ds ++ [.tuple [p.d, .none]]], ?_, ?_⟩, by rw [List.length_append]; simp only [List.length_cons, List.length_nil]; omega, hi, fun z2 => absurd z2 (by simp)⟩
      · have := sp.len _ (List.mem_of_getElem? hw)
        simp only [List.length_cons, List.length_nil] at this ⊢
        omega
      · rw [List.map_append]
        exact ((c6.trans c7).dts g1').app (.one hz)
      · intro d hd
        rcases List.mem_append.mp hd with hd | hd
        · exact g2' d hd
        · rw [List.mem_singleton.mp hd, List.length_append]
          have := sp.len _ (List.mem_of_getElem? hw)
          simp only [List.length_cons, List.length_nil] at this ⊢
          omega
    | false =>
      rw [if_neg (by decide)]
      refine hS H6 c6 ⟨c4.trans c6, ⟨dss, c6.dts g1', g2'⟩, by omega, hi, fun z2 e he => ?_⟩
      rw [List.take_succ, hw] at he
      rcases List.mem_append.mp he with he | he
      · exact g5 z2 e he
      · have he : e = (p, ds) := by simpa using he
        rw [he]
        intro z3
        have z3 : c.row p = some .back := z3
        rw [hrow] at z3
        cases z3
        exact of_decide_eq_false hb rfl
  · rintro L us H4 hL c4 hL4 ⟨c5, ⟨dss, g1', g2'⟩, g3, g4', g5⟩
    refine wS_nil ⟨c3.trans c5, fun H5 c05 c45 td5 => ?_⟩
    have nL : L ∉ [wy] := fun z => by
      rw [List.mem_singleton.mp z] at hL
      rw [c3.get tf.at_] at hL
      cases hL
    have hL5 : H5 L = some (.lst us) := c45.get hL4 nL
    have g15 := c45.dts g1'
    have d5 : Ex T H H5 := d1.trans c05
    have hdl : us.length = dss.length := by rw [g15.len, List.length_map]
    refine wS_cons (ps_ret peW) ?_
    refine wE.of (pe_ifExp ptW peW peW) ((et_cmp (T := T) (ec_neL0 k (ev_name 4) hL5)) H5 .refl _ fun H6 c6 => ?_)
    cases hus : us with
    | nil =>
      refine EvD.go (T := T) ed_non .refl fun v H7 c7 hv => q v H7 _ (d5.trans (c6.trans c7)) (.inl ⟨rfl, fun p => p ∈ ws.map (·.1), findW_isSome.mp sp.fst, sp.cl, ?_⟩) hv
      rintro ⟨p, hp, hr⟩
      obtain ⟨e, he, rfl⟩ := List.mem_map.mp hp
      refine g5 hus e ?_ hr
      rw [hxl, List.take_length]
      exact he
    | cons u0 us0 =>
      rw [← hus]
      rw [if_pos (by rw [hus]; rfl)]
      refine wE_minX (T := T) k B.min rfl (EvV.go (T := T) (ev_name 4) .refl fun H7 c7 => ?_)
      have hL7 := (c6.trans c7).get hL5
      have g17 := (c6.trans c7).dts g15
      refine ⟨L, us, rfl, hL7, by rw [hus]; simp, dts_tups g17, fun pins s' I => ?_⟩
      refine ld_blt I rfl B.len PySem.boot_len ⟨H7, fun i => (((dss[i]?).getD []).length : Int), I, .refl, key_len fun i x hx => ?_, .inr ⟨_, rfl⟩, fun x H8 hx c8 => ?_⟩
      · obtain ⟨d, hd, hdt⟩ := g17.atV hx
        rw [List.getElem?_map] at hd
        obtain ⟨ds, hds, rfl⟩ := Option.map_eq_some_iff.mp hd
        obtain ⟨p, ys, rfl, hs, hy⟩ := hdt.inv_tup
        refine ⟨p, ys, rfl, hs, ?_⟩
        rw [hds, hy.len]
        rfl
      · obtain ⟨i, hi⟩ := List.getElem?_of_mem hx
        obtain ⟨d, hd, hdt⟩ := g17.atV hi
        rw [List.getElem?_map] at hd
        obtain ⟨ds, hds, rfl⟩ := Option.map_eq_some_iff.mp hd
        exact q x H8 _ (d5.trans ((c6.trans c7).trans c8)) (.inr ⟨ds, rfl, g2' ds (List.mem_of_getElem? hds)⟩) (c8.dt hdt)
end
end K7
/-! ## L1C -/
set_option Elab.async false
set_option linter.all false
set_option maxRecDepth 100000
set_option maxHeartbeats 4000000
/-! ways_through, all_ways, met_places. -/
namespace K7
open PySem PySem.Spec PyProof.Rows L2
/-- how long a way through a routine can be, by how many are known -/
def bnd : Nat → Nat
  | 0 => 0
  | n + 1 => 35 * (bnd n + 1) + 1
theorem bnd_le {n : Nat} (h : n ≤ 3) : bnd n ≤ 45396 := by
  have : n = 0 ∨ n = 1 ∨ n = 2 ∨ n = 3 := by omega
  rcases this with rfl | rfl | rfl | rfl <;> decide
theorem bnd_mono (n : Nat) : bnd n ≤ bnd (n + 1) := by
  show bnd n ≤ 35 * (bnd n + 1) + 1
  omega
structure LJ (l : List (Str × List PyData)) : Prop where
  nd : (l.map (·.1)).Nodup
  rn : ∀ e ∈ l, e.1 ∈ rn3
  len : ∀ e ∈ l, e.2.length ≤ bnd l.length
def PhiT (l : List (Str × List PyData)) (r : Str) : Nat := match findW l r with
  | some ds => ds.length
  | none => 100000
def sumT (l : List (Str × List PyData)) : Nat := (rn3.map (PhiT l)).sum
theorem LJ.le3 {l : List (Str × List PyData)} (j : LJ l) : l.length ≤ 3 := by
  have := nodup_len j.nd (m := rn3) fun x hx => by
    obtain ⟨e, he, rfl⟩ := List.mem_map.mp hx
    exact j.rn e he
  rw [List.length_map] at this
  exact this
theorem LJ.nil : LJ [] := ⟨List.nodup_nil, (fun _ h => by cases h), (fun _ h => by cases h)⟩
theorem LJ.put {l : List (Str × List PyData)} {r : Str} {ds : List PyData} (j : LJ l) (hr : r ∈ rn3) (hl : ds.length ≤ 35 * (bnd l.length + 1) + 1) (hlt : ∀ old, findW l r = some old → ds.length < old.length) : LJ (putW l r ds) ∧ sumT (putW l r ds) < sumT l := by
  have hnd := putW_nodup (q := r) (d := ds) j.nd
  have hrn : ∀ e ∈ putW l r ds, e.1 ∈ rn3 := fun e he => by
    rcases mem_putW he with z | z
    · rw [z]; exact hr
    · exact j.rn e z
  refine ⟨⟨hnd, hrn, fun e he => ?_⟩, ?_⟩
  · rw [putW_len]
    cases hf : findW l r with
    | some old =>
      rw [if_pos (by rfl)]
      rcases mem_putW he with z | z
      · rw [z]
        have h1 := hlt old hf
        have h2 := j.len _ (findW_some hf)
        exact Nat.le_trans (Nat.le_of_lt h1) h2
      · exact j.len e z
    | none =>
      rw [if_neg (by simp)]
      rcases mem_putW he with z | z
      · rw [z]
        exact hl
      · exact Nat.le_trans (j.len e z) (bnd_mono _)
  · have hP : ∀ x, PhiT (putW l r ds) x = if x = r then ds.length else PhiT l x := by
      intro x
      unfold PhiT
      rw [findW_put]
      by_cases e : x = r
      · rw [if_pos e, if_pos e]
      · rw [if_neg e, if_neg e]
    have hdl : ds.length < PhiT l r := by
      unfold PhiT
      cases hf : findW l r with
      | some old => exact hlt old hf
      | none =>
        show _ < 100000
        have h3 := j.le3
        have := bnd_le (n := l.length) h3
        have h4 : ((putW l r ds).map (·.1)).length ≤ rn3.length := nodup_len hnd fun x hx => by
          obtain ⟨e, he, rfl⟩ := List.mem_map.mp hx
          exact hrn e he
        rw [List.length_map, putW_len, hf, if_neg (by simp)] at h4
        have h5 : l.length + 1 ≤ 3 := h4
        have := bnd_le h5
        have e6 : bnd (l.length + 1) = 35 * (bnd l.length + 1) + 1 := rfl
        omega
    refine sum_less (fun x => ?_) ?_ hr
    · rw [hP]
      split
      · rename_i e; rw [e]; exact Nat.le_of_lt hdl
      · exact Nat.le_refl _
    · rw [hP, if_pos rfl]
      exact hdl
def RtOk (c : Code) (l : List (Str × List PyData)) (r : Str) : Prop := ∃ S : Plc → Prop, S ⟨r, 0, 0⟩ ∧ Closed c (InL l) false S ∧ ((∃ p, S p ∧ c.row p = some .back) → InL l r)
theorem Closed.all {c : Code} {D : Str → Prop} {ent : Bool} : Closed c D ent fun _ => True := fun _ _ _ _ => trivial
section
variable {T : List (Addr × Str)} {X : Cx} {σ : L2.St} {H : Hp} {o i value : Expr} {pos p' : Pos} {n : Nat} {thr : Addr} {l : List (Str × List PyData)} {r : Str} {ds : List PyData} {D : Ends} {rest : List Stmt}
theorem ws_putTR (c : Cok n X) (hv : EvD T X value σ H (.tuple ds)) (ho : EvV T X o σ H (.ref thr)) (hi : EvD T X i σ H (.str r)) (t : TR X.K H thr l) (hz : l.length < 1000)
    (q : ∀ H', Chg T [thr] H H' → TR X.K H' thr (putW l r ds) → wS X rest D σ H') (hs : swapsWith value (some (.Subscript o i p')) pos.line X.env = pure false := by rfl) : wS X (.Assign [.Subscript o i p'] value pos :: rest) D σ H := by
  obtain ⟨kvs, h1, h2⟩ := t
  have hzl : kvs.length = l.length := by
    have := Paired.length h2
    unfold thrL at this
    rwa [List.length_map] at this
  refine wS_cons (ps_dput c.hu peW peW peW hs) (hv H .refl _ fun v Ha ca hva => ho Ha ca _ fun Hb cb => hi Hb (ca.trans cb) _ fun y Hc cc hy => ?_)
  have c3 := (ca.trans cb).trans cc
  have g := c3.get h1
  rw [hy.inv_str]
  have c4 : Chg T [thr] Hc (upd Hc thr (.dK (putK kvs (.inr r) v))) := .set g wr_dK (by simp)
  refine ⟨thr, _, rfl, DPut.k (k := .inr r) g (small1000 (by omega)), q _ (c3.then_ c4) ⟨_, upd_same, ?_⟩⟩
  rw [← thrL_put]
  exact ((h2.tk c3.tup).tk c4.tup).put _ (c4.dt ((cb.trans cc).dt hva))
end
section
variable {P : Program} {w : World} {K : PySem.W.Frag} {mg : Str → Option Value} {base : Heap} {T : List (Addr × Str)}
/-! ### ways_through -/
theorem sc_ways_through : FnScope ["code", "through", "is_more", "routine", "blocks", "way"] ["code"] (defScope (top 48)) := ⟨rfl, rfl, rfl, by decide +kernel, rfl, by decide +kernel, by decide +kernel⟩
def spThru (K : PySem.W.Frag) (T : List (Addr × Str)) : Sp' := fun vs H Q => ∃ (c : Code) (v1 : V), vs = [v1] ∧ OkCode c ∧ LamX.Tabs T H ∧ DT K H v1 c.d ∧
  ∀ thr H' l, H thr = none → Ex T H H' → TR K H' thr l → ThrC c (InL l) → (∀ e ∈ l, e.2.length ≤ 45396) → Q (.ref thr) H'
theorem g_ways_through (F : At K mg "ways_through" 48) (B : Blt mg) (Gb : GDef P w K mg base 6 "back_way" (spBack K T)) : GDef P w K mg base 7 "ways_through" (spThru K T) := by
  refine F.ok sc_ways_through (fun _ _ _ _ _ _ us hl => match us, hl with | [_], _ => rfl) (fun vs H Q ⟨c, v1, e, _⟩ => by rw [e]; rfl) fun f cdv Ar outer s H vs Q k ⟨c, v1, e, oc, htab, h1, q⟩ => ?_
  subst e
  refine ws_parV 1 2 k (wA_cons (wE_newK (T := T) fun thr H1 hthr c1 t1 => wA_cons (EvD.go (T := T) ed_bl .refl fun vb H2 c2 hvb => wA_nil ⟨_, _, rfl, ?_⟩)))
  rw [hvb.inv_bl]
  have d2 : Ex T H H2 := c1.trans c2
  have T2 : TR K H2 thr [] := ⟨_, c2.get t1, .nil⟩
  refine ws_while (T := T) (fun m σ' H' => ∃ (l : List (Str × List PyData)) (b : Bool) (u3 u4 u5 : Option V), m = 2 * sumT l + (if b = true then 1 else 0) ∧ σ' = [some v1, some (.ref thr), some (.bl b), u3, u4, u5] ∧ Chg T [thr] H2 H' ∧ TR K H' thr l ∧ LJ l ∧ (b = false → ThrC c (InL l))) _ ⟨[], true, none, none, none, rfl, rfl, .refl, T2, .nil, fun z => by cases z⟩ ?_
  rintro m σ' H3 ⟨l, b, u3, u4, u5, rfl, rfl, c3, T3, j, hdone⟩
  refine ⟨b, et_val (ed_name 2 (.bl b)), fun z H4 c4 => ?_, fun z H4 c4 => ?_⟩
  · subst z
    refine ws_asg (T := T) (d := .bool false) 2 k ed_bl fun vf H5 c5 hvf => ?_
    have hvf := hvf.inv_bl
    subst hvf
    have c25 : Chg T [thr] H2 H5 := c3.and_ (c4.trans c5)
    have T5 := T3.keep (c4.trans c5) (by simp)
    refine ws_forT2 (T := T) 3 4 k (EvD.is (d' := .tuple (c.rts.map rtD)) (ed_at1 (ed_name 0 (c25.dt (d2.dt h1)))) rfl) fun H6 c6 => ⟨fun i σ2 H' => ∃ (l2 : List (Str × List PyData)) (b2 : Bool) (u3 u4 u5 : Option V), σ2 = [some v1, some (.ref thr), some (.bl b2), u3, u4, u5] ∧ Chg T [thr] H6 H' ∧ TR K H' thr l2 ∧ LJ l2 ∧ (b2 = true → sumT l2 < sumT l) ∧ (b2 = false → l2 = l ∧ ∀ x ∈ c.rts.take i, RtOk c l x.1), ⟨l, false, u3, u4, u5, rfl, .refl, T5.keep c6 (by simp), j, (fun z => by cases z), fun _ => ⟨rfl, fun x hx => by simp at hx⟩⟩, fun i σ2 H' ⟨_, _, _, _, _, _, cg, _⟩ => cg.tup, ?_, ?_⟩
    · rintro i d σ2 H7 hd ⟨l2, b2, w3, w4, w5, rfl, c7, T7, j2, hlt, heq⟩
      rw [List.getElem?_map] at hd
      obtain ⟨⟨r, bs⟩, hx, rfl⟩ := Option.map_eq_some_iff.mp hd
      have hmem := List.mem_of_getElem? hx
      have hrn : r ∈ rn3 := oc.rn_mem hmem
      have hbs : c.blks r = some bs := findW_of_mem (ws := c.rts) oc.rnd hmem
      have hasr : c.has ⟨r, 0, 0⟩ := blk_has hbs (blks_ne oc hbs)
      refine ⟨.str r, _, rfl, fun y3 y4 g3 g4 => ?_⟩
      have g3 := g3.inv_str
      subst g3
      have c27 : Chg T [thr] H2 H7 := (c25.and_ c6).trans c7
      have hB := bnd_le (n := l2.length) j2.le3
      refine ws_set 5 k (wE_cl Gb k (wA_cons (EvD.go (T := T) (ed_name 0 (c27.dt (d2.dt h1))) .refl fun y1 Ha ca g1 => wA_cons (EvD.go (T := T) (ed_name 3 (.str r)) .refl fun y2 Hb cb g2 => wA_cons (EvV.go (T := T) (ev_name 1) .refl fun Hc cc => wA_nil ⟨c, r, l2, thr, bnd l2.length, y1, y2, oc, hasr, T7.keep ((ca.trans cb).trans cc) (by simp), by omega, j2.len, ((ca.trans cb).trans cc).tab (c27.tab (d2.tab htab)), rfl, (cb.trans cc).dt g1, cc.dt g2, fun v H8 d c8 hR hd => ?_⟩)))))
      have c78 : Ex T H7 H8 := ((ca.trans cb).trans cc).trans c8
      have T8 := T7.keep c78 (by simp)
      rcases hR with ⟨rfl, S, hS1, hS2, hS3⟩ | ⟨ds, rfl, hds⟩
      · refine ws_when (T := T) (k := false && true) (et_and (EvT.is (et_cmp (ec_notN (ed_name 5 hd))) rfl) fun z => by cases z) (fun z => by cases z) fun _ H9 c9 => wS_nil ⟨l2, b2, _, _, _, rfl, c7.and_ (c78.trans c9), T8.keep c9 (by simp), j2, hlt, fun hb => ⟨(heq hb).1, fun x hx' => ?_⟩⟩
        rw [List.take_succ, hx] at hx'
        rcases List.mem_append.mp hx' with z | z
        · exact (heq hb).2 x z
        · have z : x = (r, bs) := by simpa using z
          rw [z]
          have e := (heq hb).1
          rw [e] at hS2
          exact ⟨S, hS1, hS2, fun z => absurd z hS3⟩
      · refine ws_when (T := T) (k := true && (!(findW l2 r).isSome || decide ((ds.length : Int) < (((findW l2 r).getD []).length : Int)))) (et_and (EvT.is (et_cmp (ec_notN (ed_name 5 hd))) rfl) fun _ => et_or (et_cmp (ec_notInTR k (ed_name 3 (.str r)) (ev_name 1) T8)) fun z2 => ?_) (fun z2 H9 c9 => ?_) fun z2 H9 c9 => ?_
        · obtain ⟨old, hold⟩ := Option.isSome_iff_exists.mp (by simpa using z2 : (findW l2 r).isSome = true)
          refine et_cmp (ec_lt (ed_lenT B.len (ed_name 5 hd)) (ed_lenT B.len (EvD.is (ed_getTR k (ev_name 1) (ed_name 3 (.str r)) T8 hold) ?_)))
          rw [hold]
          rfl
        · rw [Bool.true_and] at z2
          have hlt2 : ∀ old, findW l2 r = some old → ds.length < old.length := fun old ho => by
            rw [ho] at z2
            simp only [Option.isSome_some, Bool.not_true, Bool.false_or, decide_eq_true_eq, Option.getD_some] at z2
            omega
          obtain ⟨jn, hsum⟩ := j2.put hrn hds hlt2
          have hz3 := j2.le3
          refine ws_putTR (T := T) k (ed_name 5 (c9.dt hd)) (ev_name 1) (ed_name 3 (.str r)) (T8.keep c9 (by simp)) (by omega) fun H10 c10 T10 => ?_
          refine ws_asg (T := T) (d := .bool true) 2 k ed_bl fun vt H11 c11 hvt => wS_nil (wS_nil ?_)
          have hvt := hvt.inv_bl
          subst hvt
          refine ⟨_, true, _, _, _, rfl, ((c7.and_ (c78.trans c9)).trans c10).and_ c11, T10.keep c11 (by simp), jn, fun _ => ?_, fun z => by cases z⟩
          cases b2 with
          | true => exact Nat.lt_trans hsum (hlt rfl)
          | false =>
            have e := (heq rfl).1
            rw [e] at hsum ⊢
            exact hsum
        · rw [Bool.true_and] at z2
          have hsome : (findW l2 r).isSome = true := by
            cases ho : findW l2 r with
            | none =>
              rw [ho] at z2
              simp at z2
            | some old => rfl
          refine wS_nil ⟨l2, b2, _, _, _, rfl, c7.and_ (c78.trans c9), T8.keep c9 (by simp), j2, hlt, fun hb => ⟨(heq hb).1, fun x hx' => ?_⟩⟩
          rw [List.take_succ, hx] at hx'
          rcases List.mem_append.mp hx' with z | z
          · exact (heq hb).2 x z
          · have z : x = (r, bs) := by simpa using z
            rw [z]
            have e := (heq hb).1
            rw [e] at hsome
            exact ⟨fun _ => True, trivial, Closed.all, fun _ => hsome⟩
    · rintro σ2 H7 ⟨l2, b2, w3, w4, w5, rfl, c7, T7, j2, hlt, heq⟩
      rw [List.length_map, List.take_length] at heq
      refine wS_nil ⟨_, ?_, l2, b2, _, _, _, rfl, rfl, (c25.and_ c6).trans c7, T7, j2, fun hb => ?_⟩
      · cases b2 with
        | true =>
          have := hlt rfl
          simp only [if_true]
          omega
        | false =>
          rw [(heq rfl).1]
          simp
      · obtain ⟨e, h⟩ := heq hb
        subst e
        exact fun r bs hb2 => h (r, bs) (blks_mem hb2)
  · subst z
    refine ws_retV (T := T) (ev_name 1) fun H5 c5 => ?_
    exact q thr H5 l hthr (Chg.fresh d2 (c3.and_ (c4.trans c5)) fun x hx => by rw [List.mem_singleton.mp hx]; exact hthr) (T3.keep (c4.trans c5) (by simp)) (hdone rfl) fun e he => Nat.le_trans (j.len e he) (bnd_le j.le3)
/-! ### all_ways -/
theorem sc_all_ways : FnScope ["code"] ["code"] (defScope (top 49)) := ⟨rfl, rfl, rfl, by decide +kernel, rfl, by decide +kernel, by decide +kernel⟩
def spAllW (P : Program) (w : World) (K : PySem.W.Frag) (T : List (Addr × Str)) : Sp' := fun vs H Q => ∃ (c : Code) (v1 : V), vs = [v1] ∧ OkCode c ∧ LamX.Tabs T H ∧ DT K H v1 c.d ∧
  ∀ wy H' ws l, H wy = none → Ex T H H' → WY P w K H' wy ws → ThrC c (InL l) → SpR c (InL l) true main 45396 ws → Q (.ref wy) H'
theorem g_all_ways (F : At K mg "all_ways" 49) (M : Mods K mg) (Gs : GDef P w K mg base 5 "spread" (spSpread P w K T)) (Gt : GDef P w K mg base 7 "ways_through" (spThru K T)) : GDef P w K mg base 8 "all_ways" (spAllW P w K T) := by
  refine F.ok sc_all_ways (fun _ _ _ _ _ _ us hl => match us, hl with | [_], _ => rfl) (fun vs H Q ⟨c, v1, e, _⟩ => by rw [e]; rfl) fun f cdv Ar outer s H vs Q k ⟨c, v1, e, oc, htab, h1, q⟩ => ?_
  subst e
  obtain ⟨mA, hmg, hmD⟩ := M.main
  refine ws_return (wE_cl Gs k (wA_cons (EvD.go (T := T) (ed_name 0 h1) .refl fun y1 Ha ca g1 => wA_cons (EvD.go (T := T) (ed_gr hmg (hmD Ha)) .refl fun y2 Hb cb g2 => wA_cons (wE_cl Gt k (wA_cons (EvD.go (T := T) (ed_name 0 ((ca.trans cb).dt h1)) .refl fun y0 Hc cc g0 => wA_nil ⟨c, y0, rfl, oc, ((ca.trans cb).trans cc).tab htab, g0, fun thr Hd l hthr cd tr thc hl => wA_cons (EvD.go (T := T) ed_bl .refl fun y4 He ce g4 => wA_nil ?_)⟩)))))))
  have dE := (((ca.trans cb).trans cc).trans cd).trans ce
  exact ⟨c, main, l, thr, true, 45396, y1, y2, y4, oc, main_has oc, tr.keep ce (by simp), by omega, hl, dE.tab htab, rfl, (((cb.trans cc).trans cd).trans ce).dt g1, ((cc.trans cd).trans ce).dt g2, g4, fun wy H' ws hwy c' Wy sp => q wy H' ws l (dE.back wy hwy) (dE.trans c') Wy thc sp⟩
/-! ### met_places -/
theorem sc_met_places : FnScope ["code"] ["code"] (defScope (top 50)) := ⟨rfl, rfl, rfl, by decide +kernel, rfl, by decide +kernel, by decide +kernel⟩
structure MetR (c : Code) (ps : List Plc) : Prop where
  has : ∀ p ∈ ps, c.has p
  met : ∀ (way : List Stp) (p : Plc), Good c way → (st c way).1 = some p → p ∈ ps
  z : ps.length ≤ 36
def spMetP (K : PySem.W.Frag) (T : List (Addr × Str)) : Sp' := fun vs H Q => ∃ (c : Code) (v1 : V), vs = [v1] ∧ OkCode c ∧ LamX.Tabs T H ∧ DT K H v1 c.d ∧ ∀ v H' ps, Ex T H H' → MetR c ps → DT K H' v (plcsD ps) → Q v H'
theorem g_met_places (F : At K mg "met_places" 50) (B : Blt mg) (Ga : GDef P w K mg base 8 "all_ways" (spAllW P w K T)) : GDef P w K mg base 9 "met_places" (spMetP K T) := by
  refine F.ok sc_met_places (fun _ _ _ _ _ _ us hl => match us, hl with | [_], _ => rfl) (fun vs H Q ⟨c, v1, e, _⟩ => by rw [e]; rfl) fun f cdv Ar outer s H vs Q k ⟨c, v1, e, oc, htab, h1, q⟩ => ?_
  subst e
  refine ws_retR (T := T) (R := fun d => ∃ ps, MetR c ps ∧ d = plcsD ps) (EvR.imp (er_tuple B.tuple (R := fun ds => ∃ ps, MetR c ps ∧ ds = ps.map Plc.d) fun H1 c1 Q1 q1 => ?_) fun d ⟨ds, ⟨ps, m, e⟩, e2⟩ => ⟨ps, m, by rw [e2, e]; rfl⟩) fun v H1 d c1 ⟨ps, m, e⟩ hd => q v H1 ps c1 m (e ▸ hd)
  refine wE.of (pe_callB (call_sortedKT k.calm) rfl B.sorted (by decide +kernel) (pa_cons peW pa_nil rfl) (by decide) (by decide) rfl (by rfl)) ?_
  refine wE_cl Ga k (wA_cons (EvD.go (T := T) (ed_name 0 (c1.dt h1)) .refl fun y1 Ha ca g1 => wA_nil ⟨c, y1, rfl, oc, (c1.trans ca).tab htab, g1, fun wy H2 ws l hwy c2 Wy thc sp => ?_⟩))
  obtain ⟨kvt, td, sd⟩ := Wy.ex
  have ek : (kvt.map fun e => keyDs e.1) = (ws.map (·.1)).map Plc.d := by
    have := sd.keys
    have e2 : (kvt.map fun e => keyDs e.1) = (kvt.map (·.1)).map keyDs := by rw [List.map_map]; rfl
    rw [e2, this]
    unfold wayL
    rw [List.map_map, List.map_map, List.map_map]
    rfl
  have hkl : kvt.length = ws.length := by
    have := congrArg List.length ek
    rwa [List.length_map, List.length_map, List.length_map] at this
  have hz := sp.z
  refine ⟨wy, kvt, rfl, td, ?_, ?_, by omega, ?_, fun p vs' ds' hp pm hv => ?_⟩
  · rw [ek]
    exact PySem.W.AllAlike.of fun x y => by simp [Plc.d, PySem.W.alike, PySem.W.alikeAll]
  · rw [ek]
    exact PySem.W.Sortable.tuples fun x => ⟨_, _, rfl⟩
  · intro e he
    have : keyDs e.1 ∈ (ws.map (·.1)).map Plc.d := by
      rw [← ek]
      exact List.mem_map.mpr ⟨e, he, rfl⟩
    obtain ⟨p, _, hp⟩ := List.mem_map.mp this
    rw [← hp]
    have h1 : p.d.depth = 1 := by simp [Plc.d, PyData.depth, PyData.depthAll]
    have := k.hu64
    omega
  · rw [ek] at pm
    obtain ⟨ps, e1, pm2⟩ := perm_map_inv Plc.d pm _ rfl
    have hlen : ps.length = ws.length := by rw [pm2.length_eq, List.length_map]
    subst e1
    refine q1 p _ vs' _ (ca.trans c2 |>.back p hp) ((ca.trans c2).trans (.new hp)) upd_same ⟨ps, ⟨fun p hp => ?_, fun way p hg hst => ?_, by omega⟩, rfl⟩ (Chg.dts (T := T) (S := []) (.new hp) hv) (by rw [hv.len, List.length_map]; omega)
    · obtain ⟨e, he, rfl⟩ := List.mem_map.mp (pm2.mem_iff.mp hp)
      exact sp.has e he
    · exact pm2.mem_iff.mpr (met_law oc thc sp.cl (findW_isSome.mp sp.fst) _ way rfl hg p hst).1
end
end K7
/-! ## M1A -/
set_option Elab.async false
set_option linter.all false
set_option maxRecDepth 100000
set_option maxHeartbeats 4000000
/-! The law's draws. -/
namespace K7
open PySem PySem.Spec PyProof.Rows L2
section
variable {T : List (Addr × Str)} {X : Cx} {σ : L2.St} {H : Hp} {a b e : Expr} {n : Nat} {l : Addr} {vs : List V} {pos p : Pos} {Q : VK}
theorem ed_mod {i j : Int} (ha : EvD T X a σ H (.int i)) (hb : EvD T X b σ H (.int j)) (hj : 0 < j) : EvD T X (.BinOp a .Mod b pos) σ H (.int (i % j)) := fun H1 c Q q =>
  wE.of (pe_op op_mod peW peW) (ha H1 c _ fun x H2 c2 hx => hb H2 (c.trans c2) _ fun y H3 c3 hy => ⟨i, j, hx.inv_int, hy.inv_int, hj, q _ H3 (c2.trans c3) (.int _)⟩)
theorem ed_fdiv {i j : Int} (ha : EvD T X a σ H (.int i)) (hb : EvD T X b σ H (.int j)) (hj : 0 < j ∧ j < 1073741824) : EvD T X (.BinOp a .FloorDiv b pos) σ H (.int (i / j)) := fun H1 c Q q =>
  wE.of (pe_op op_fdiv peW peW) (ha H1 c _ fun x H2 c2 hx => hb H2 (c.trans c2) _ fun y H3 c3 hy => ⟨i, j, hx.inv_int, hy.inv_int, hj, q _ H3 (c2.trans c3) (.int _)⟩)
theorem ed_pow {i j : Int} (ha : EvD T X a σ H (.int i)) (hb : EvD T X b σ H (.int j)) (hj : 0 ≤ j ∧ j ≤ 1000000 ∧ i.natAbs < 2 ^ 64) : EvD T X (.BinOp a .Pow b pos) σ H (.int (i ^ j.toNat)) := fun H1 c Q q =>
  wE.of (pe_op op_pow peW peW) (ha H1 c _ fun x H2 c2 hx => hb H2 (c.trans c2) _ fun y H3 c3 hy => ⟨i, j, hx.inv_int, hy.inv_int, hj, q _ H3 (c2.trans c3) (.int _)⟩)
theorem ed_lenV (hm : X.mg "len" = none) (h : EvV T X a σ H (.ref l)) (hl : H l = some (.lst vs)) (hg : Gl X "len" := by rfl) (h1 : starEach [a] X.env = (false, eval a X.env) :: starEach [] X.env := by rfl) : EvD T X (.Call (.Name "len" p) [a] [] pos) σ H (.int vs.length) := fun H1 c Q q =>
  wE.of (pe_callB call_len_seq hg hm PySem.boot_len (pa_cons peW pa_nil h1) (by decide) (by decide) h1 (by rfl)) (h H1 c _ fun H2 c2 => ⟨l, vs, rfl, .inl (SqL.of ((c.trans c2).get hl)), q _ H2 c2 (.int _)⟩)
/-- l[i] of a list at hand -/
theorem ev_ixL {i : Int} {v : V} (ha : EvV T X a σ H (.ref l)) (hl : H l = some (.lst vs)) (hb : EvD T X b σ H (.int i)) (hv : atI vs i = some v) (hs : PlainIx b := by exact fun _ _ => rfl) : EvV T X (.Subscript a b pos) σ H v := fun H1 c Q q =>
  wE.of (pe_ix ix_list peW peW hs) (ha H1 c _ fun H2 c2 => hb H2 (c.trans c2) _ fun y H3 c3 hy => ⟨l, vs, i, v, rfl, hy.inv_int, SqL.of (((c.trans c2).trans c3).get hl), hv, q H3 (c2.trans c3)⟩)
end
def fkv (cl : Addr) (a l tn : Int) : List (Key × V) := [(.inr "cells", .ref cl), (.inr "at", .int a), (.inr "left", .int l), (.inr "turn", .int tn)]
theorem fkv_turn {cl : Addr} {a l tn x : Int} : putK (fkv cl a l tn) (.inr "turn") (.int x) = fkv cl a l x := by rfl
theorem fkv_left {cl : Addr} {a l tn x : Int} : putK (fkv cl a l tn) (.inr "left") (.int x) = fkv cl a x tn := by rfl
theorem fkv_at {cl : Addr} {a l tn x : Int} : putK (fkv cl a l tn) (.inr "at") (.int x) = fkv cl x l tn := by rfl
/-- the feed at fd, its numbers at cl, after at most t draws -/
structure FeedAt (H : Hp) (fd cl : Addr) (t : Int) : Prop where
  ex : ∃ (ns : List Int) (a l tn : Int), H fd = some (.dK (fkv cl a l tn)) ∧ H cl = some (.lst (ns.map V.int)) ∧ 0 ≤ a ∧ 0 ≤ tn ∧ tn ≤ t ∧ ns.length ≤ 63
theorem FeedAt.keep {T : List (Addr × Str)} {S : List Addr} {H H' : Hp} {fd cl : Addr} {t : Int} (h : FeedAt H fd cl t) (c : Chg T S H H') (h1 : fd ∉ S := by simp) (h2 : cl ∉ S := by simp) : FeedAt H' fd cl t := by
  obtain ⟨ns, a, l, tn, e1, e2, r⟩ := h
  exact ⟨ns, a, l, tn, c.get e1 h1, c.get e2 h2, r⟩
theorem FeedAt.le {H : Hp} {fd cl : Addr} {t t' : Int} (h : FeedAt H fd cl t) (hl : t ≤ t') : FeedAt H fd cl t' := by
  obtain ⟨ns, a, l, tn, e1, e2, h1, h2, h3, h4⟩ := h
  exact ⟨ns, a, l, tn, e1, e2, h1, h2, Int.le_trans h3 hl, h4⟩
theorem FeedAt.nf {H : Hp} {fd cl x : Addr} {t : Int} (h : FeedAt H fd cl t) (hx : H x = none) : fd ≠ x ∧ cl ≠ x := by
  obtain ⟨ns, a, l, tn, e1, e2, _⟩ := h
  refine ⟨fun z => ?_, fun z => ?_⟩
  · rw [z, hx] at e1
    cases e1
  · rw [z, hx] at e2
    cases e2
theorem FeedAt.ne {H : Hp} {fd cl : Addr} {t : Int} (h : FeedAt H fd cl t) : fd ≠ cl := fun z => by
  obtain ⟨ns, a, l, tn, e1, e2, _⟩ := h
  rw [z, e2] at e1
  cases e1
section
variable {P : Program} {w : World} {K : PySem.W.Frag} {mg : Str → Option Value} {base : Heap} {T : List (Addr × Str)}
/-! ### _law_draw -/
theorem sc_draw : FnScope ["_law_feed_here", "_law_many", "_law_found", "_law_at", "_law_turn", "_law_cells", "_law_cell", "_law_mixed"] ["_law_feed_here", "_law_many"] (defScope (top 53)) := ⟨rfl, rfl, rfl, by decide +kernel, rfl, by decide +kernel, by decide +kernel⟩
def spDraw (T : List (Addr × Str)) : Sp' := fun vs H Q => ∃ (fd cl : Addr) (t : Int) (m : Nat), vs = [.ref fd, .int m] ∧ FeedAt H fd cl t ∧ t ≤ 100000 ∧ 1 ≤ m ∧ m ≤ 1000 ∧ ∀ (r : Nat) H', r < m → Chg T [fd] H H' → FeedAt H' fd cl (t + 1) → Q (.int r) H'
theorem g_draw (F : At K mg "_law_draw" 53) (B : Blt mg) : GDef P w K mg base 1 "_law_draw" (spDraw T) := by
  refine F.ok sc_draw (fun _ _ _ _ _ _ us hl => match us, hl with | [_, _], _ => rfl) (fun vs H Q ⟨fd, cl, t, m, e, _⟩ => by rw [e]; rfl) fun f cdv Ar outer s H vs Q k ⟨fd, cl, t, m, e, Fd, ht, h1m, hm, q⟩ => ?_
  subst e
  obtain ⟨ns, a, l, tn, e1, e2, ha, htn, hle, hz⟩ := Fd
  have hm0 : (0 : Int) < (m : Int) := by omega
  have q' : ∀ (r : Int) H', 0 ≤ r → r < m → Chg T [fd] H H' → FeedAt H' fd cl (t + 1) → Q (.int r) H' := fun r H' h0 hr c F => by
    obtain ⟨j, rfl⟩ := Int.eq_ofNat_of_zero_le h0
    exact q j H' (by omega) c F
  have nf : cl ≠ fd := fun z => by
    rw [z, e1] at e2
    cases e2
  refine ws_putK (T := T) (v := .int (tn + 1)) k (EvD.val (ed_add ((ev_getK k (ev_name 0) ed_str e1 (v := .int tn) rfl).dat (.int tn)) ed_int)) (ev_name 0) ed_str e1 (by simp [fkv]) fun H1 c1 g1 => ?_
  rw [fkv_turn]
  have c2 : Chg T [fd] H1 (upd H1 fd (.dK (fkv cl a l (tn + 1)))) := .set g1 wr_dK (by simp)
  have d2 := c1.then_ c2
  have f2 : (upd H1 fd (.dK (fkv cl a l (tn + 1)))) fd = some (.dK (fkv cl a l (tn + 1))) := upd_same
  have l2 := d2.get e2 (by simpa using nf)
  generalize upd H1 fd (.dK (fkv cl a l (tn + 1))) = H2 at *
  refine ws_when (T := T) (k := decide (0 < l)) (et_cmp (ec_gt ((ev_getK k (ev_name 0) ed_str f2 (v := .int l) rfl).dat (.int l)) ed_int)) (fun z H3 c3 => ?_) fun z H3 c3 => ?_
  · have f3 := c3.get f2
    refine ws_asg (T := T) (d := .int (l % m)) 2 k (ed_mod ((ev_getK k (ev_name 0) ed_str f3 (v := .int l) rfl).dat (.int l)) (ed_name 1 (.int m)) hm0) fun v H4 c4 hv => ?_
    have f4 := c4.get f3
    refine ws_putK (T := T) (v := .int (l / m)) k (EvD.val (ed_fdiv ((ev_getK k (ev_name 0) ed_str f4 (v := .int l) rfl).dat (.int l)) (ed_name 1 (.int m)) ⟨hm0, by omega⟩)) (ev_name 0) ed_str f4 (by simp [fkv]) fun H5 c5 g5 => ?_
    rw [fkv_left]
    have c6 : Chg T [fd] H5 (upd H5 fd (.dK (fkv cl a (l / m) (tn + 1)))) := .set g5 wr_dK (by simp)
    refine ws_retV (T := T) (v := .int (l % m)) (by rw [← hv.inv_int]; exact ev_name 2) fun H7 c7 => ?_
    have d7 := ((d2.and_ (c3.trans (c4.trans c5))).trans c6).and_ c7
    exact q' _ H7 (Int.emod_nonneg _ (by omega)) (Int.emod_lt_of_pos _ hm0) d7 ⟨ns, a, l / m, tn + 1, c7.get upd_same, (((c3.trans (c4.trans c5)).any.trans c6).and_ c7).get l2 (by simpa using nf), ha, by omega, by omega, hz⟩
  · have f3 := c3.get f2
    have l3 := c3.get l2
    refine wS_cons (ps_par3 (i := 3) (j := 4) (l := 5) k.calm k.nd rfl rfl rfl (by decide) (by decide) (by decide) rfl rfl rfl paW rfl) (wA_cons (EvV.go (T := T) (ev_getK k (ev_name 0) ed_str f3 (v := .int a) rfl) .refl fun H4 c4 => wA_cons (EvV.go (T := T) (ev_getK k (ev_name 0) ed_str (c4.get f3) (v := .int (tn + 1)) rfl) .refl fun H5 c5 => wA_cons (EvV.go (T := T) (ev_getK k (ev_name 0) ed_str ((c4.trans c5).get f3) (v := .ref cl) rfl) .refl fun H6 c6 => wA_nil ⟨_, _, _, rfl, ?_⟩))))
    have c36 := (c4.trans c5).trans c6
    have f6 := c36.get f3
    refine ws_putK (T := T) (v := .int (a + 1)) k (EvD.val (ed_add (ed_name 3 (.int a)) ed_int)) (ev_name 0) ed_str f6 (by simp [fkv]) fun H7 c7 g7 => ?_
    rw [fkv_at]
    have c8 : Chg T [fd] H7 (upd H7 fd (.dK (fkv cl (a + 1) l (tn + 1)))) := .set g7 wr_dK (by simp)
    have d8 : Chg T [fd] H (upd H7 fd (.dK (fkv cl (a + 1) l (tn + 1)))) := (d2.and_ (c3.trans (c36.trans c7))).trans c8
    have f8 : (upd H7 fd (.dK (fkv cl (a + 1) l (tn + 1)))) fd = some (.dK (fkv cl (a + 1) l (tn + 1))) := upd_same
    have l8 := d8.get e2 (by simpa using nf)
    generalize upd H7 fd (.dK (fkv cl (a + 1) l (tn + 1))) = H8 at *
    refine ws_set 6 k (wE.imp (Q := fun v H9 => ∃ z : Int, v = .int z ∧ Ex T H8 H9) (wE.of (pe_ifExp ptW peW peW) ((et_cmp (T := T) (ec_neL0 k (ev_name 5) l8)) H8 .refl _ fun H9 c9 => ?_)) fun v H9 ⟨z, ev, c9⟩ => ?_)
    · cases hns : ns with
      | nil => exact EvV.go (T := T) (EvD.val ed_int) .refl fun H10 c10 => ⟨_, rfl, c9.trans c10⟩
      | cons n0 ns0 =>
        rw [← hns]
        rw [if_pos (by rw [hns]; rfl)]
        have hlen : 0 < ns.length := by rw [hns]; simp
        have hidx : (a % (ns.length : Int)).toNat < ns.length := by
          have h1 := Int.emod_nonneg a (show (ns.length : Int) ≠ 0 by omega)
          have h2 := Int.emod_lt_of_pos a (show (0 : Int) < ns.length by omega)
          omega
        obtain ⟨zz, hzz⟩ : ∃ zz, ns[(a % (ns.length : Int)).toNat]? = some zz := ⟨_, List.getElem?_eq_getElem hidx⟩
        refine EvV.go (T := T) (ev_ixL (v := .int zz) (ev_name 5) (c9.get l8) (ed_mod (ed_name 3 (.int a)) (EvD.is (ed_lenV B.len (ev_name 5) (c9.get l8)) (by rw [List.length_map])) (by omega)) ?_) .refl fun H10 c10 => ⟨_, rfl, c9.trans c10⟩
        have h1 := Int.emod_nonneg a (show (ns.length : Int) ≠ 0 by omega)
        rw [show a % (ns.length : Int) = (((a % (ns.length : Int)).toNat : Nat) : Int) by omega]
        exact atI_nat (by rw [List.getElem?_map, hzz]; rfl)
    · subst ev
      have f9 := c9.get f8
      have l9 := c9.get l8
      have d9 := d8.and_ c9
      refine ws_when (T := T) (k := decide ((10 : Int) ^ ((18 : Int).toNat) ≤ z) && decide (a < ((ns.map V.int).length : Int))) (et_and (et_cmp (ec_ge (ed_name 6 (.int z)) (ed_pow ed_int ed_int (by decide)))) fun _ => et_cmp (ec_lt (ed_name 3 (.int a)) (ed_lenV B.len (ev_name 5) l9))) (fun _ H10 c10 => ?_) fun _ H10 c10 => ?_
      · have f10 := c10.get f9
        refine ws_putK (T := T) (v := .int (z / m)) k (EvD.val (ed_fdiv (ed_name 6 (.int z)) (ed_name 1 (.int m)) ⟨hm0, by omega⟩)) (ev_name 0) ed_str f10 (by simp [fkv]) fun H11 c11 g11 => ?_
        rw [fkv_left]
        have c12 : Chg T [fd] H11 (upd H11 fd (.dK (fkv cl (a + 1) (z / m) (tn + 1)))) := .set g11 wr_dK (by simp)
        refine ws_retV (T := T) (v := .int (z % m)) (EvD.val (ed_mod (ed_name 6 (.int z)) (ed_name 1 (.int m)) hm0)) fun H13 c13 => ?_
        have d13 := ((d9.and_ (c10.trans c11)).trans c12).and_ c13
        exact q' _ H13 (Int.emod_nonneg _ (by omega)) (Int.emod_lt_of_pos _ hm0) d13 ⟨ns, a + 1, z / m, tn + 1, c13.get upd_same, d13.get e2 (by simpa using nf), by omega, by omega, by omega, hz⟩
      · have sq : 0 ≤ 11 * (tn + 1) * (tn + 1) ∧ 11 * (tn + 1) * (tn + 1) ≤ 200000000000 := by
          refine ⟨Int.mul_nonneg (by omega) (by omega), ?_⟩
          exact Int.le_trans (Int.mul_le_mul (show 11 * (tn + 1) ≤ 1100011 by omega) (show tn + 1 ≤ 100001 by omega) (by omega) (by omega)) (by decide)
        have hm1 := Int.emod_nonneg z (show (2147482717 : Int) ≠ 0 by decide)
        have hm2 := Int.emod_lt_of_pos z (show (0 : Int) < 2147482717 by decide)
        refine ws_asg (T := T) (d := .int ((z % 2147482717 + 11 * (tn + 1) * (tn + 1) + 211) ^ ((5 : Int).toNat) % 2147482711)) 7 k (ed_mod (ed_pow (ed_add (ed_add (ed_mod (ed_name 6 (.int z)) ed_int (by decide)) (ed_mul (ed_mul ed_int (ed_name 4 (.int (tn + 1))) (.inl (by decide))) (ed_name 4 (.int (tn + 1))) (.inl ⟨by omega, by omega⟩))) ed_int) ed_int ⟨by decide, by decide, by omega⟩) ed_int (by decide)) fun v H11 c11 hv => ?_
        have hx1 := Int.emod_nonneg ((z % 2147482717 + 11 * (tn + 1) * (tn + 1) + 211) ^ ((5 : Int).toNat)) (show (2147482711 : Int) ≠ 0 by decide)
        have hx2 := Int.emod_lt_of_pos ((z % 2147482717 + 11 * (tn + 1) * (tn + 1) + 211) ^ ((5 : Int).toNat)) (show (0 : Int) < 2147482711 by decide)
        generalize (z % 2147482717 + 11 * (tn + 1) * (tn + 1) + 211) ^ ((5 : Int).toNat) % 2147482711 = mx at *
        refine ws_retV (T := T) (v := .int ((mx + 57037 * (tn + 1)) ^ ((5 : Int).toNat) % 2147482693 / 64 % m)) (EvD.val (ed_mod (ed_fdiv (ed_mod (ed_pow (ed_add (ed_name 7 hv) (ed_mul ed_int (ed_name 4 (.int (tn + 1))) (.inl (by decide)))) ed_int ⟨by decide, by decide, by omega⟩) ed_int (by decide)) ed_int (by decide)) (ed_name 1 (.int m)) hm0)) fun H12 c12 => ?_
        have d12 := d9.and_ (c10.trans (c11.trans c12))
        exact q' _ H12 (Int.emod_nonneg _ (by omega)) (Int.emod_lt_of_pos _ hm0) d12 ⟨ns, a + 1, l, tn + 1, (c10.trans (c11.trans c12)).get f9, d12.get e2 (by simpa using nf), by omega, by omega, by omega, hz⟩
end
end K7
/-! ## M1B -/
set_option Elab.async false
set_option linter.all false
set_option maxRecDepth 100000
set_option maxHeartbeats 4000000
/-! Rules for the law's makers: draws within expressions, append and pop of lists that stand. -/
namespace K7
open PySem PySem.Spec PyProof.Rows L2
section
variable {T : List (Addr × Str)} {X : Cx} {σ : L2.St} {H : Hp} {a b e o i1 i2 iter elt : Expr} {n : Nat} {l : Addr} {vs : List V} {pos p pt apos cpos : Pos} {Q : VK} {D : Ends} {rest : List Stmt}
/-- draw(feed, many) -/
theorem wE_draw {fd cl : Addr} {t : Int} {m : Nat} {j : Nat} {H0 : Hp} (G : GDef X.prog X.w X.K X.mg X.base j "_law_draw" (spDraw T)) (c : Cok n X) (ha : EvV T X a σ H (.ref fd)) (hb : EvD T X b σ H (.int m)) (c0 : Ex T H H0) (F : FeedAt H0 fd cl t) (ht : t ≤ 100000) (h1 : 1 ≤ m) (hm : m ≤ 1000)
    (q : ∀ (r : Nat) H', r < m → Chg T [fd] H0 H' → FeedAt H' fd cl (t + 1) → Q (.int r) H') (hj : j ≤ n := by omega) (hg : Gl X "_law_draw" := by rfl) (he : starEach [a, b] X.env = (false, eval a X.env) :: starEach [b] X.env := by rfl) (he2 : starEach [b] X.env = (false, eval b X.env) :: starEach [] X.env := by rfl) (hpl : (backTo pos (starEach [b] X.env)).any (·.1) = false := by rfl) :
    wE X (.Call (.Name "_law_draw" p) [a, b] [] pos) σ H0 Q :=
  wE_call G c hj hg (wA_cons (ha.go c0 fun H1 c1 => wA_cons (hb.go (c0.trans c1) fun v H2 c2 hv => wA_nil ⟨fd, cl, t, m, by rw [hv.inv_int], F.keep (c1.trans c2), ht, h1, hm, fun r H' hr c3 F' => q r H' hr ((c1.trans c2).then_ c3) F'⟩) he2) he) (by decide) he hpl
/-- i + e, i a written number -/
theorem wE_iadd {i : Int} {k : Nat} {p1 : Pos} (h : wE X e σ H fun v H1 => ∃ x : Int, v = .int x ∧ Q (.int (i + x)) H1) : wE X (.BinOp (.Constant (.int i) k p1) .Add e pos) σ H Q :=
  wE.of (pe_op op_add pe_int peW) (h.imp fun v H1 ⟨x, ev, q⟩ => ⟨i, x, rfl, ev, q⟩)
/-- e - i, i a written number -/
theorem wE_isub {i : Int} {k : Nat} {p1 : Pos} (h : wE X e σ H fun v H1 => ∃ x : Int, v = .int x ∧ Q (.int (x - i)) H1) : wE X (.BinOp e .Sub (.Constant (.int i) k p1) pos) σ H Q :=
  wE.of (pe_op op_sub peW pe_int) (h.imp fun v H1 ⟨x, ev, q⟩ => ⟨x, i, ev, rfl, q⟩)
/-- min(i, j) -/
theorem ed_min2 {i j : Int} (c : Cok n X) (hm : X.mg "min" = none) (ha : EvD T X a σ H (.int i)) (hb : EvD T X b σ H (.int j)) (hg : Gl X "min" := by rfl) (h1 : starEach [a, b] X.env = (false, eval a X.env) :: starEach [b] X.env := by rfl) (h2 : starEach [b] X.env = (false, eval b X.env) :: starEach [] X.env := by rfl) (h3 : (backTo pos (starEach [b] X.env)).any (·.1) = false := by rfl) :
    EvD T X (.Call (.Name "min" p) [a, b] [] pos) σ H (.int (if j < i then j else i)) := fun H1 c1 Q q =>
  wE.of (pe_callB (call_min2 c.calm) hg hm PyProof.Rows.boot_min (pa_cons peW (pa_cons peW pa_nil h2) h1) (by decide) (by decide) h1 h3) (ha H1 c1 _ fun x H2 c2 hx => hb H2 (c1.trans c2) _ fun y H3 c3 hy => ⟨i, j, by rw [hx.inv_int, hy.inv_int], q _ H3 (c2.trans c3) (.int _)⟩)
/-- [..][e], the index known late -/
theorem wE_ixLst {es : List Expr} {ds : List PyData} {p2 : Pos} {H0 : Hp} (hes : EvA T X es σ H ds) (hz : ds.length ≤ 1000) (c0 : Ex T H H0) (h : ∀ H1, Ex T H0 H1 → wE X e σ H1 fun v H2 => ∃ (i : Nat) (d : PyData), v = .int i ∧ ds[i]? = some d ∧ (∀ r us, H1 r = some (.lst us) → H0 r = none → H2 r = some (.lst us)) ∧ Tk H1 H2 ∧ ∀ u, DT X.K H2 u d → Q u H2) (hs : PlainIx e := by exact fun _ _ => rfl) : wE X (.Subscript (.List es p2) e pos) σ H0 Q :=
  wE.of (pe_ix ix_list peW peW hs) ((el_lst (T := T) hes hz).go c0 fun r H1 us ds' hr c1 hr1 ed hds _ => by
    subst ed
    refine (h H1 c1).imp fun v H2 ⟨i, d, ev, hd, hk, tk, q⟩ => ?_
    obtain ⟨u, hu, hdt⟩ := hds.at_ hd
    exact ⟨r, us, i, u, rfl, ev, SqL.of (hk r us hr1 hr), atI_nat hu, q u (hdt.tk tk)⟩)
/-- l.append(e) -/
theorem ws_appW (ho : EvV T X o σ H (.ref l)) (hl : H l = some (.lst vs)) (he : ∀ H1, Ex T H H1 → wE X e σ H1 fun v H2 => ∃ ys, H2 l = some (.lst ys) ∧ ys.length ≤ 100000 ∧ wS X rest D σ (upd H2 l (.lst (ys ++ [v]))))
    (hs : swapsWith (.Call (.Attribute o "append" apos) [e] [] cpos) none pos.line X.env = pure false := by rfl)
    (hbase : attributeBase o "append" X.env (eval o X.env) = eval o X.env := by rfl) (hline : (apos.endLine == cpos.line) = true := by rfl)
    (hfew : ((backTo cpos (starEach [e] X.env)).all (fun x => !x.1) && (backToKw cpos (keywordEach [] X.env)).all (fun x => x.1.isSome) && decide (([e]).length + ([] : List Keyword).length + (if ([] : List Keyword).isEmpty then 0 else 1) < 30)) = true := by rfl)
    (h1 : starEach [e] X.env = (false, eval e X.env) :: starEach [] X.env := by rfl) (h2 : (backTo cpos (starEach [] X.env)).any (·.1) = false := by rfl) : wS X (.Expr (.Call (.Attribute o "append" apos) [e] [] cpos) pos :: rest) D σ H :=
  wS_cons (ps_expr (pe_bm PySem.F.plainAttrs_list PySem.F.slot_list_append PySem.F.type_list_append mt_append peW (pa_cons peW pa_nil h1) hbase hfew hline h1 h2) hs) (ho H .refl _ fun H1 c1 => ⟨tyL (c1.get hl), (he H1 c1).imp fun v H2 ⟨ys, h3, h4, q⟩ => ⟨l, ys, v, rfl, rfl, h3, small5 h4, q⟩⟩)
/-- l.pop(e) -/
theorem wE_popL (ho : EvV T X o σ H (.ref l)) (hl : H l = some (.lst vs)) {H0 : Hp} (c0 : Ex T H H0) (he : ∀ H1, Ex T H0 H1 → wE X e σ H1 fun v H2 => ∃ (i : Nat) (y : V) (ys : List V), v = .int i ∧ H2 l = some (.lst ys) ∧ ys[i]? = some y ∧ ys.length ≤ 1000 ∧ Q y (upd H2 l (.lst (ys.eraseIdx i))))
    (hbase : attributeBase o "pop" X.env (eval o X.env) = eval o X.env := by rfl) (hline : (apos.endLine == cpos.line) = true := by rfl)
    (hfew : ((backTo cpos (starEach [e] X.env)).all (fun x => !x.1) && (backToKw cpos (keywordEach [] X.env)).all (fun x => x.1.isSome) && decide (([e]).length + ([] : List Keyword).length + (if ([] : List Keyword).isEmpty then 0 else 1) < 30)) = true := by rfl)
    (h1 : starEach [e] X.env = (false, eval e X.env) :: starEach [] X.env := by rfl) (h2 : (backTo cpos (starEach [] X.env)).any (·.1) = false := by rfl) : wE X (.Call (.Attribute o "pop" apos) [e] [] cpos) σ H0 Q :=
  wE.of (pe_bm PySem.F.plainAttrs_list PySem.F.slot_list_pop PySem.F.type_list_pop mt_popAt peW (pa_cons peW pa_nil h1) hbase hfew hline h1 h2) (ho.go c0 fun H1 c1 => ⟨tyL ((c0.trans c1).get hl), (he H1 c1).imp fun v H2 ⟨i, y, ys, ev, h3, h4, h5, q⟩ => by
    have hi := (List.getElem?_eq_some_iff.mp h4).1
    obtain ⟨j, e1, e2, e3, _, _⟩ := atI_get (atI_nat h4)
    have ej : j = i := by
      unfold seqIndex? at e1
      rw [if_neg (show ¬ ((i : Int) < 0) by omega)] at e1
      simp only at e1
      split at e1
      · simpa using e1.symm
      · cases e1
    subst ej
    exact ⟨l, ys, (j : Int), j, y, rfl, by rw [ev], h3, by omega, by omega, e1, h4, q⟩⟩)
/-- [elt for x in l], l a list at hand -/
theorem el_lcLh {scope : Scope} {own : List (Str × Nat)} {x : Str} {ss : List PyData} (j : Nat) (f : PyData → PyData) (c : Cok n X) (ok : BlkOk X.N X.env.scope scope own) (hi : EvV T X iter σ H (.ref l)) (hl : H l = some (.lst vs)) (hd : DTs X.K H vs ss) (hz : ss.length ≤ 1000)
    (hx : X.N[j]? = some x) (hlx : (relS scope X.env.scope).names.lookup x = some .local)
    (he : ∀ (s : Shared) (Hs : Hp) (C : Addr) (cl : List (Str × Addr)) (fp : List Addr) (src : PyData) (v : V) (H1 : Hp), src ∈ ss → Ex T H H1 → DT X.K H1 v src → EvD T (X.blk s Hs scope (compEnvC scope cl C X.env) fp) elt ((wipe σ (own.map (·.2))).set j (some v)) H1 (f src))
    (hw : ∀ v, wipe ((wipe σ (own.map (·.2))).set j v) (own.map (·.2)) = wipe σ (own.map (·.2)))
    (hs : ∀ x, foldedSetIterable iter X.env x = pure x := by intro _; rfl) : EvL T X (.ListComp elt [⟨.Name x pt, iter, [], 0⟩] scope pos) σ H (fun ds => ds = ss.map f) := fun H0 c0 Q q => by
  refine wE_lc (T := T) (own := own) (tt := tYes) (g := gName j) (wi := iList X.K (wE X iter)) c ok (pi_list peW) (fun s Hs C cl fp => pg_name c.nd hx (.inl hlx) (.inr hlx)) (fun _ _ _ _ _ => pts_nil) ?_ hs
  refine hi.go c0 fun H1 c1 => ?_
  have hl1 := (c0.trans c1).get hl
  have hd1 := (c0.trans c1).dts hd
  have hlen := hd1.len
  refine ⟨l, rfl, ⟨vs, SqL.of hl1⟩, vs.length, _, _, walk_list (xs := vs), fun i us H2 => Ex T H1 H2 ∧ DTs X.K H2 us ((ss.take i).map f) ∧ i ≤ ss.length, [], ⟨.refl, .nil, Nat.zero_le _⟩, fun _ z => absurd z (by simp), fun D' i us H2 H3 hD ⟨c2, hv, hi⟩ c3 => ⟨Chg.fresh c2 c3 (fun x hx => by rw [List.mem_singleton.mp hx]; exact hD), c3.dts hv, hi⟩, fun i us H2 ⟨c2, hv, hi⟩ => ⟨SqL.of (c2.get hl1), by rw [hv.len, List.length_map, List.length_take]; omega⟩, fun i us z H2 H3 hi2 ⟨c2, hv, _⟩ ⟨e3, hyx⟩ Out Skip ho _ => ?_, fun L us H2 hL c2 h2 ⟨c3, hv, _⟩ => ?_⟩
  · subst e3
    obtain ⟨src, hsrc, hdt⟩ := hd1.atV hyx
    refine ⟨hw _, ?_⟩
    show bE X scope elt _ H3 _
    intro s Hs C cl fp
    refine he s Hs C cl fp src z H3 (List.mem_of_getElem? hsrc) ((c0.trans c1).trans c2) (c2.dt hdt) H3 .refl _ fun v H4 c4 hd4 => ho v H4 c4 ⟨c2.trans c4, ?_, by omega⟩
    rw [List.take_succ, hsrc, List.map_append]
    exact (c4.dts hv).app (.one hd4)
  · rw [hlen, List.take_length] at hv
    exact q L H2 us _ (c1.back L hL) (c1.trans c2) h2 rfl hv (by rw [hv.len, List.length_map]; omega)
/-- [elt for x, y in a tuple of pairs] -/
theorem el_lcT2 {scope : Scope} {own : List (Str × Nat)} {x y : Str} {A : Type} {as : List A} {g1 g2 : A → PyData} {kt : Nat} {p1 p3 : Pos} (j k : Nat) (f : A → PyData) (c : Cok n X) (ok : BlkOk X.N X.env.scope scope own) (hi : EvD T X iter σ H (.tuple (as.map fun a => .tuple [g1 a, g2 a]))) (hz : as.length ≤ 1000)
    (hx : X.N[j]? = some x) (hlx : (relS scope X.env.scope).names.lookup x = some .local) (hy : X.N[k]? = some y) (hly : (relS scope X.env.scope).names.lookup y = some .local)
    (he : ∀ (s : Shared) (Hs : Hp) (C : Addr) (cl : List (Str × Addr)) (fp : List Addr) (a : A) (v w : V) (H1 : Hp), a ∈ as → Ex T H H1 → DT X.K H1 v (g1 a) → DT X.K H1 w (g2 a) → EvD T (X.blk s Hs scope (compEnvC scope cl C X.env) fp) elt (((wipe σ (own.map (·.2))).set j (some v)).set k (some w)) H1 (f a))
    (hw : ∀ v w, wipe (((wipe σ (own.map (·.2))).set j v).set k w) (own.map (·.2)) = wipe σ (own.map (·.2)))
    (hs : ∀ x, foldedSetIterable iter X.env x = pure x := by intro _; rfl) : EvL T X (.ListComp elt [⟨.Tuple [.Name x p1, .Name y p3] kt pt, iter, [], 0⟩] scope pos) σ H (fun ds => ds = as.map f) := fun H0 c0 Q q => by
  refine wE_lc (T := T) (own := own) (tt := tYes) (g := gTup X.K 2 (gCons (gName j) (gCons (gName k) gNil))) (wi := iTup X.K (wE X iter)) c ok (pi_tup peW) (fun s Hs C cl fp => pg_tup (n := 2) (blkC_ok c).calm (pgs_cons (pg_name c.nd hx (.inl hlx) (.inr hlx)) (pgs_cons (pg_name c.nd hy (.inl hly) (.inr hly)) pgs_nil))) (fun _ _ _ _ _ => pts_nil) ?_ hs
  refine hi.go c0 fun u H1 c1 hu => ?_
  obtain ⟨a, xs, rfl, hq, hxs⟩ := hu.inv_tup
  have hlen := hxs.len
  rw [List.length_map] at hlen
  refine ⟨a, rfl, ⟨xs, hq.t⟩, xs.length, _, _, walk_tup (xs := xs), fun i us H2 => Ex T H1 H2 ∧ DTs X.K H2 us ((as.take i).map f) ∧ i ≤ as.length, [], ⟨.refl, .nil, Nat.zero_le _⟩, fun _ z => absurd z (by simp), fun D' i us H2 H3 hD ⟨c2, hv, hi⟩ c3 => ⟨Chg.fresh c2 c3 (fun x hx => by rw [List.mem_singleton.mp hx]; exact hD), c3.dts hv, hi⟩, fun i us H2 ⟨c2, hv, hi⟩ => ⟨c2.sq hq.t, by rw [hv.len, List.length_map, List.length_take]; omega⟩, fun i us z H2 H3 hi2 ⟨c2, hv, _⟩ ⟨e3, hyx⟩ Out Skip ho _ => ?_, fun L us H2 hL c2 h2 ⟨c3, hv, _⟩ => ?_⟩
  · subst e3
    obtain ⟨src, hsrc, hdt⟩ := hxs.atV hyx
    rw [List.getElem?_map] at hsrc
    obtain ⟨s0, hs0, rfl⟩ := Option.map_eq_some_iff.mp hsrc
    obtain ⟨b, ys, rfl, hqb, hys⟩ := (c2.dt hdt).inv_tup
    obtain ⟨w1, w2, rfl, g3, g4⟩ := hys.inv2
    refine ⟨b, _, rfl, hqb.t, rfl, w1, _, rfl, w2, _, rfl, rfl, hw _ _, ?_⟩
    show bE X scope elt _ H3 _
    intro s Hs C cl fp
    refine he s Hs C cl fp s0 w1 w2 H3 (List.mem_of_getElem? hs0) ((c0.trans c1).trans c2) g3 g4 H3 .refl _ fun v H4 c4 hd4 => ho v H4 c4 ⟨c2.trans c4, ?_, by omega⟩
    rw [List.take_succ, hs0, List.map_append]
    exact (c4.dts hv).app (.one hd4)
  · rw [hlen, List.take_length] at hv
    exact q L H2 us _ (c1.back L hL) (c1.trans c2) h2 rfl hv (by rw [hv.len, List.length_map]; omega)
end
end K7
/-! ## M1C -/
set_option Elab.async false
set_option linter.all false
set_option maxRecDepth 100000
set_option maxHeartbeats 4000000
/-! feed, objects. -/
namespace K7
open PySem PySem.Spec PyProof.Rows L2
theorem Chg.sl {T : List (Addr × Str)} {S : List Addr} {H H' : Hp} {K : PySem.W.Frag} {a : Addr} {xs : List V} (c : Chg T S H H') (h : SqL K H a xs) (hS : a ∉ S := by simp) : SqL K H' a xs := by
  rcases h with (h | ⟨o, h⟩) | h
  · exact .inl (.inl (c.get h hS))
  · exact .inl (.inr ⟨o, c.get h hS⟩)
  · exact .inr h
theorem cutV_ints (ns : List Int) (lo hi : Option Int) : ∃ ms : List Int, cutV (ns.map V.int) lo hi = ms.map V.int ∧ ms.length ≤ ns.length := by
  refine ⟨(ns.drop (HT.sIx (ns.map V.int).length 0 lo)).take (HT.sIx (ns.map V.int).length (ns.map V.int).length hi - HT.sIx (ns.map V.int).length 0 lo), ?_, ?_⟩
  · unfold cutV
    rw [List.map_take, List.map_drop]
  · rw [List.length_take, List.length_drop]
    omega
section
variable {P : Program} {w : World} {K : PySem.W.Frag} {mg : Str → Option Value} {base : Heap} {T : List (Addr × Str)}
/-! ### _law_feed -/
theorem sc_feed : FnScope ["_law_script"] ["_law_script"] (defScope (top 52)) := ⟨rfl, rfl, rfl, by decide +kernel, rfl, by decide +kernel, by decide +kernel⟩
def spFeed (K : PySem.W.Frag) (T : List (Addr × Str)) : Sp' := fun vs H Q => ∃ (a : Addr) (ns : List Int), vs = [.ref a] ∧ SqL K H a (ns.map V.int) ∧ ns.length ≤ 63 ∧ ∀ fd cl H', H fd = none → Ex T H H' → FeedAt H' fd cl 0 → Q (.ref fd) H'
theorem g_feed (F : At K mg "_law_feed" 52) (B : Blt mg) : GDef P w K mg base 1 "_law_feed" (spFeed K T) := by
  refine F.ok sc_feed (fun _ _ _ _ _ _ us hl => match us, hl with | [_], _ => rfl) (fun vs H Q ⟨a, ns, e, _⟩ => by rw [e]; rfl) fun f cdv Ar outer s H vs Q k ⟨a, ns, e, hs, hz, q⟩ => ?_
  subst e
  refine ws_return (wE.of (pe_disp (pps_cons pe_str (pe_callTy call_list_of rfl B.list (by decide +kernel) (pa_cons (pe_slice sl_list peW poW poW) pa_nil rfl) (by decide) (by decide) rfl (by rfl)) (pps_cons pe_str pe_int (pps_cons pe_str pe_int (pps_cons pe_str pe_int pps_nil)))) rfl rfl (by simp) (by decide)) fun fd hfd => ?_)
  have c1 : Ex T H (upd H fd (.dK [])) := .new hfd
  have g1 : (upd H fd (.dK [])) fd = some (.dK []) := upd_same
  generalize upd H fd (.dK []) = H1 at *
  refine EvV.go (T := T) (v := .ref a) (ev_name 0) .refl fun H2 c2 => ?_
  refine eo_none (T := T) H2 .refl _ fun H3 c3 => ?_
  refine eo_some (T := T) ed_int H3 .refl _ fun H4 c4 => ?_
  have c14 := (c2.trans c3).trans c4
  obtain ⟨ms, ems, hms⟩ := cutV_ints ns none (some 63)
  refine ⟨a, ns.map V.int, rfl, (c1.trans c14).sl hs, fun p1 hp1 => ⟨p1, ms.map V.int, rfl, .inl ?_, fun cl hcl => ?_⟩⟩
  · rw [ems]
    exact SqL.of upd_same
  · have c5 : Ex T H4 (upd H4 p1 (.lst (cutV (ns.map V.int) none (some 63)))) := .new hp1
    have c6 : Ex T (upd H4 p1 (.lst (cutV (ns.map V.int) none (some 63)))) (upd (upd H4 p1 (.lst (cutV (ns.map V.int) none (some 63)))) cl (.lst (ms.map V.int))) := .new hcl
    have c16 := c14.trans (c5.trans c6)
    have g6 := c16.get g1
    have nfc : fd ≠ cl := fun z => by
      rw [← z] at hcl
      rw [(c14.trans c5).get g1] at hcl
      cases hcl
    have d6 := c1.trans c16
    have h6 : (upd (upd H4 p1 (.lst (cutV (ns.map V.int) none (some 63)))) cl (.lst (ms.map V.int))) cl = some (.lst (ms.map V.int)) := upd_same
    generalize upd (upd H4 p1 (.lst (cutV (ns.map V.int) none (some 63)))) cl (.lst (ms.map V.int)) = H6 at *
    refine ⟨g6, fkv cl 0 0 0, rfl, by simp [fkv], q fd cl _ hfd ?_ ⟨ms, 0, 0, 0, upd_same, by rw [upd_ne (Ne.symm nfc)]; exact h6, by omega, by omega, by omega, by omega⟩⟩
    exact Chg.fresh (S := [fd]) d6 (.set g6 wr_dK (by simp)) fun x hx => by rw [List.mem_singleton.mp hx]; exact hfd
/-! ### _law_objects -/
theorem sc_objects : FnScope ["_law_feed_here", "_law_rest", "_law_found", "_law_k"] ["_law_feed_here"] (defScope (top 54)) := ⟨rfl, rfl, rfl, by decide +kernel, rfl, by decide +kernel, by decide +kernel⟩
structure OkObs (ob : List (Str × Nat)) : Prop where
  ne : ob ≠ []
  len : ob.length ≤ 3
  nd : (ob.map (·.1)).Nodup
  ws : ∀ p ∈ ob, p.1 ∈ words5 ∧ 1 ≤ p.2 ∧ p.2 ≤ 3
theorem dts_strs {H : Hp} : ∀ {xs : List Str} {vs : List V}, DTs K H vs (xs.map .str) → vs = xs.map V.str
  | [], _, .nil => rfl
  | x :: xs, _, .cons h t => by
    rw [dts_strs t, h.inv_str]
    rfl
theorem dts_ofStrs {H : Hp} : ∀ xs : List Str, DTs K H (xs.map V.str) (xs.map .str)
  | [] => .nil
  | x :: xs => .cons (.str x) (dts_ofStrs xs)
theorem erase_map {α β : Type} (f : α → β) : ∀ (l : List α) (i : Nat), (l.map f).eraseIdx i = (l.eraseIdx i).map f
  | [], _ => rfl
  | x :: l, 0 => rfl
  | x :: l, i + 1 => by
    show f x :: (l.map f).eraseIdx i = f x :: (l.eraseIdx i).map f
    rw [erase_map f l i]
theorem erase_perm {α : Type} {x : α} : ∀ {l : List α} {i : Nat}, l[i]? = some x → l.Perm (x :: l.eraseIdx i)
  | [], i, h => by simp at h
  | y :: l, 0, h => by
    simp only [List.getElem?_cons_zero, Option.some.injEq] at h
    subst h
    exact .refl _
  | y :: l, i + 1, h => by
    have := erase_perm (l := l) (i := i) (by simpa using h)
    exact (this.cons y).trans (.swap x y _)
theorem erase_len {α : Type} {l : List α} {i : Nat} {x : α} (h : l[i]? = some x) : (l.eraseIdx i).length + 1 = l.length := by
  have := (erase_perm h).length_eq
  simpa using this.symm
def spObs (K : PySem.W.Frag) (T : List (Addr × Str)) : Sp' := fun vs H Q => ∃ (fd cl : Addr) (t : Int), vs = [.ref fd] ∧ FeedAt H fd cl t ∧ t ≤ 90000 ∧ ∀ v H' ob, OkObs ob → Chg T [fd] H H' → FeedAt H' fd cl (t + 10) → DT K H' v (.tuple (ob.map obD)) → Q v H'
theorem g_objects (F : At K mg "_law_objects" 54) (B : Blt mg) (Gd : GDef P w K mg base 1 "_law_draw" (spDraw T)) : GDef P w K mg base 2 "_law_objects" (spObs K T) := by
  refine F.ok sc_objects (fun _ _ _ _ _ _ us hl => match us, hl with | [_], _ => rfl) (fun vs H Q ⟨fd, cl, t, e, _⟩ => by rw [e]; rfl) fun f cdv Ar outer s H vs Q k ⟨fd, cl, t, e, Fd, ht, q⟩ => ?_
  subst e
  refine ws_parV 1 2 k (wA_cons ((el_lst (T := T) (ea_cons ed_str (ea_cons ed_str (ea_cons ed_str (ea_cons ed_str (ea_cons ed_str ea_nil)))))).go .refl fun lr H1 us ds hlr c1 hr1 eds hds _ => wA_cons ((el_lst (T := T) ea_nil).go .refl fun lf H2 us2 ds2 hlf c2 hf2 eds2 hds2 _ => wA_nil ⟨_, _, rfl, ?_⟩)))
  subst eds
  subst eds2
  cases hds2
  have eus := dts_strs (xs := words5) hds
  subst eus
  have F1 := Fd.keep c1
  obtain ⟨n1, n2⟩ := Fd.nf hlr
  obtain ⟨n3, n4⟩ := F1.nf hlf
  have n5 : lr ≠ lf := fun z => by
    rw [← z, hr1] at hlf
    cases hlf
  have F2 := F1.keep c2
  have nfc := Fd.ne
  refine ws_forR 3 k B.range (wE_iadd (wE_draw (m := 3) Gd k (ev_name 0) ed_int .refl F2 (by omega) (by omega) (by omega) fun r H3 hr c3 F3 => ⟨_, rfl, 1 + r, by rw [Int.natCast_add]; rfl, by omega, ?_⟩))
  refine ⟨fun i σ2 H' => ∃ (ws : List Str) (ob : List (Str × Nat)) (us : List V) (u3 : Option V), σ2 = [some (.ref fd), some (.ref lr), some (.ref lf), u3] ∧ Chg T [fd, lr, lf] H2 H' ∧ FeedAt H' fd cl (t + 1 + 2 * i) ∧ H' lr = some (.lst (ws.map V.str)) ∧ H' lf = some (.lst us) ∧ DTs K H' us (ob.map obD) ∧ ob.length = i ∧ ws.length + i = 5 ∧ (ob.map (·.1) ++ ws).Nodup ∧ (∀ x ∈ ws, x ∈ words5) ∧ ∀ p ∈ ob, p.1 ∈ words5 ∧ 1 ≤ p.2 ∧ p.2 ≤ 3,
    ⟨words5, [], [], none, rfl, c3.mono (fun b hb => by rw [List.mem_singleton.mp hb]; simp), F3.le (by omega), (c2.then_ c3).get hr1 (by simpa using fun z => n1 z.symm), c3.get hf2 (by simpa using fun z => n3 z.symm), .nil, rfl, rfl, by decide +kernel, fun x hx => hx, fun p hp => by cases hp⟩, ?_, ?_⟩
  · rintro i σ2 H4 hi ⟨ws, ob, us, u3, rfl, c4, F4, hr4, hf4, hd4, hol, hwl, hnd, hw5, hob⟩
    have hwp : 0 < ws.length := by omega
    refine ws_appW (T := T) (ev_name 2) hf4 fun H5 c5 => wE_tup (wA_cons (wE_popL (T := T) (ev_name 1) hr4 c5 fun H6 c6 => wE_draw (m := ws.length) Gd k (ev_name 0) (EvD.is (ed_lenL B.len (ev_name 1) hr4) (by rw [List.length_map])) (c5.trans c6) (F4.keep (c5.trans c6)) (by omega) (by omega) (by omega) fun r1 H7 hr1' c7 F7 => ?_))
    obtain ⟨x, hx⟩ : ∃ x, ws[r1]? = some x := ⟨_, List.getElem?_eq_getElem hr1'⟩
    have hr7 : H7 lr = some (.lst (ws.map V.str)) := ((c5.trans c6).then_ c7).get hr4 (by simpa using fun z => n1 z.symm)
    refine ⟨r1, .str x, ws.map V.str, rfl, hr7, by rw [List.getElem?_map, hx]; rfl, by rw [List.length_map]; omega, ?_⟩
    have c8 : Chg T [lr] H7 (upd H7 lr (.lst ((ws.map V.str).eraseIdx r1))) := .set hr7 wr_lst (by simp)
    have hr8 : (upd H7 lr (.lst ((ws.map V.str).eraseIdx r1))) lr = some (.lst ((ws.eraseIdx r1).map V.str)) := by rw [upd_same, erase_map]
    have F8 := F7.keep c8 (by simpa using n1) (by simpa using n2)
    generalize upd H7 lr (.lst ((ws.map V.str).eraseIdx r1)) = H8 at *
    refine wA_cons (wE_iadd (wE_draw (m := 3) (T := T) Gd k (ev_name 0) ed_int .refl F8 (by omega) (by omega) (by omega) fun r2 H9 hr2 c9 F9 => ⟨_, rfl, ?_⟩))
    refine wA_nil ⟨by show 2 ≤ sizeLine; decide, fun p o hp ho => ?_⟩
    have c10 : Ex T H9 (upd H9 p (.frz o (.tup [.str x, .int (1 + (r2 : Int))]))) := .new hp
    have dp : DT K (upd H9 p (.frz o (.tup [.str x, .int (1 + (r2 : Int))]))) (.ref p) (obD (x, 1 + r2)) := by
      refine .new hp ho (ds := [.str x, .int ((1 + r2 : Nat) : Int)]) (.cons (.str x) (.one ?_))
      rw [Int.natCast_add]
      exact .int _
    generalize upd H9 p (.frz o (.tup [.str x, .int (1 + (r2 : Int))])) = H10 at *
    have c4_8 : Chg T [fd, lr, lf] H4 H8 := ((c5.trans c6).then_ c7 |>.mono fun b hb => by rw [List.mem_singleton.mp hb]; simp).trans (c8.mono fun b hb => by rw [List.mem_singleton.mp hb]; simp)
    have c4_10 : Chg T [fd, lr, lf] H4 H10 := (c4_8.trans (c9.mono fun b hb => by rw [List.mem_singleton.mp hb]; simp)).and_ c10
    have hf10 : H10 lf = some (.lst us) := by
      have h7 : H7 lf = some (.lst us) := ((c5.trans c6).then_ c7).get hf4 (by simpa using fun z => n3 z.symm)
      have h8 : H8 lf = some (.lst us) := c8.get h7 (by simpa using fun z => n5 z.symm)
      exact c10.get (c9.get h8 (by simpa using fun z => n3 z.symm))
    have hr10 : H10 lr = some (.lst ((ws.eraseIdx r1).map V.str)) := c10.get (c9.get hr8 (by simpa using fun z => n1 z.symm))
    have hul : us.length = i := by rw [hd4.len, List.length_map, hol]
    refine ⟨us, hf10, by omega, ?_⟩
    have c11 : Chg T [lf] H10 (upd H10 lf (.lst (us ++ [.ref p]))) := .set hf10 wr_lst (by simp)
    have F10 := F9.keep c10
    have pm := erase_perm hx
    refine wS_nil ⟨ws.eraseIdx r1, ob ++ [(x, 1 + r2)], us ++ [.ref p], _, rfl, ?_, ?_, c11.get hr10 (by simpa using n5), upd_same, ?_, by rw [List.length_append, hol]; rfl, by have := erase_len hx; omega, ?_, fun y hy => hw5 y (pm.mem_iff.mpr (List.mem_cons_of_mem _ hy)), fun p' hp' => ?_⟩
    · exact (c4.trans c4_10).trans (c11.mono fun b hb => by rw [List.mem_singleton.mp hb]; simp)
    · have := F10.keep c11 (by simpa using n3) (by simpa using n4)
      exact this.le (by omega)
    · rw [List.map_append]
      exact (c11.dts (c4_10.dts hd4)).app (.one (c11.dt dp))
    · rw [List.map_append, List.append_assoc]
      exact ((List.Perm.append_left _ pm).nodup_iff).mp hnd
    · rcases List.mem_append.mp hp' with z | z
      · exact hob p' z
      · rw [List.mem_singleton.mp z]
        exact ⟨hw5 x (List.mem_of_getElem? hx), by show 1 ≤ 1 + r2; omega, by show 1 + r2 ≤ 3; omega⟩
  · rintro σ2 H4 ⟨ws, ob, us, u3, rfl, c4, F4, hr4, hf4, hd4, hol, hwl, hnd, hw5, hob⟩
    have hds : ∀ d ∈ ob.map obD, d.depth ≤ 60 := fun d hd => by
      obtain ⟨p, _, rfl⟩ := List.mem_map.mp hd
      simp [obD, PyData.depth, PyData.depthAll]
    refine ws_retR (T := T) (R := fun d => ∃ ob' : List (Str × Nat), ob'.Perm ob ∧ d = .tuple (ob'.map obD)) (EvR.imp (er_tuple B.tuple (el_sorted k B.sorted (ev_name 2) hf4 hd4 (PySem.W.AllAlike.of fun x y => by simp [obD, PySem.W.alike, PySem.W.alikeAll]) (PySem.W.Sortable.tuples fun x => ⟨_, _, rfl⟩) (by rw [List.length_map]; omega) hds)) fun d ⟨ds, pm, ed⟩ => ?_) fun v H5 d c5 ⟨ob', pm, ed⟩ hd => ?_
    · obtain ⟨ob', e1, e2⟩ := perm_map_inv obD pm ob rfl
      exact ⟨ob', e2, by rw [ed, e1]⟩
    · subst ed
      refine q v H5 ob' ⟨fun z => ?_, ?_, ?_, fun p hp => hob p (pm.mem_iff.mp hp)⟩ ?_ ((F4.keep c5).le (by omega)) hd
      · have := pm.length_eq
        rw [z, hol] at this
        simp only [List.length_nil] at this
        omega
      · rw [pm.length_eq]
        omega
      · exact ((pm.map _).nodup_iff).mpr (List.nodup_append.mp hnd).1
      · refine Chg.fresh' (c1.trans c2) (c4.and_ c5) fun x hx => ?_
        simp only [List.mem_cons, List.mem_nil_iff, or_false] at hx
        rcases hx with z | z | z
        · rw [z]; exact .inl (by simp)
        · rw [z]; exact .inr hlr
        · rw [z]; exact .inr (c1.back lf hlf)
end
end K7
/-! ## M1D -/
set_option Elab.async false
set_option linter.all false
set_option maxRecDepth 100000
set_option maxHeartbeats 4000000
/-! where, operand. -/
namespace K7
open PySem PySem.Spec PyProof.Rows L2
theorem OkObs.obsN {ob : List (Str × Nat)} (o : OkObs ob) : ((obsL ⟨ob, []⟩).map (·.1)).Nodup := by
  have := nd_inr o.nd
  unfold obsL
  rw [List.map_map] at this ⊢
  exact this
section
variable {T : List (Addr × Str)} {X : Cx} {σ : L2.St} {H : Hp} {a b e i : Expr} {n : Nat} {l : Addr} {vs : List V} {pos p p2 pos' : Pos} {Q : VK} {ds : List PyData} {es : List Expr}
/-- dict(objects)[w] -/
theorem ed_szO {ob : List (Str × Nat)} {w : Str} {m : Nat} (k : Cok n X) (B : Blt X.mg) (oc : OkObs ob) (he : EvD T X e σ H (.tuple (ob.map obD))) (hi : EvD T X i σ H (.str w)) (hb : findW ob w = some m) (hg : Gl X "dict" := by rfl) (h1 : starEach [e] X.env = (false, eval e X.env) :: starEach [] X.env := by rfl) (hs : NoSl i := by exact fun _ _ => rfl) :
    EvD T X (.Subscript (.Call (.Name "dict" p) [e] [] pos) i pos') σ H (.int m) :=
  ed_getK k (obsL ⟨ob, []⟩) (fun H1 c1 Q q => wE_dictK (l := obsL ⟨ob, []⟩) (T := T) k B.dict ((he.mono c1).is (by rw [obsL_d])) oc.obsN (by unfold obsL; rw [List.length_map]; have := oc.len; show ob.length ≤ 1000; omega) (fun r H2 kvs _ c2 h2 hk => q r H2 kvs c2 h2 hk) hg h1) hi (by rw [obsL_look]; show ((findW ob w).map _) = _; rw [hb]; rfl) hs
/-- tuple(a list at hand) -/
theorem ed_tupL (hm : X.mg "tuple" = none) (h : EvV T X a σ H (.ref l)) (hl : H l = some (.lst vs)) (hd : DTs X.K H vs ds) (hg : Gl X "tuple" := by rfl) (h1 : starEach [a] X.env = (false, eval a X.env) :: starEach [] X.env := by rfl) : EvD T X (.Call (.Name "tuple" p) [a] [] pos) σ H (.tuple ds) := fun H1 c Q q =>
  wE.of (pe_callTy call_tupleP hg hm (by decide +kernel) (pa_cons peW pa_nil h1) (by decide) (by decide) h1 (by rfl)) (h.go c fun H2 c2 => ⟨l, vs, rfl, SqL.of ((c.trans c2).get hl), fun t o ht ho => q (.ref t) _ (c2.trans (.new ht)) (.new ht ho ((c.trans c2).dts hd))⟩)
/-- [..][i] -/
theorem ed_ixLst {j : Nat} {d : PyData} (hes : EvA T X es σ H ds) (hz : ds.length ≤ 1000) (he : EvD T X e σ H (.int j)) (hd : ds[j]? = some d) (hs : PlainIx e := by exact fun _ _ => rfl) : EvD T X (.Subscript (.List es p2) e pos) σ H d := fun H1 c Q q =>
  wE_ixLst hes hz c (fun H2 c2 => he.go (c.trans c2) fun v H3 c3 hv => ⟨j, d, by rw [hv.inv_int], hd, fun r us h _ => c3.get h, c3.tup, fun u hu => q u H3 (c2.trans c3) hu⟩) hs
theorem ea_strs : ∀ {xs : List Str} {js : List Nat} {ps : List Pos}, js.length = xs.length → ps.length = xs.length → EvA T X ((xs.zip (js.zip ps)).map fun y => .Constant (.str y.1) y.2.1 y.2.2) σ H (xs.map .str)
  | [], _, _, _, _ => ea_nil
  | x :: xs, [], _, h, _ => by cases h
  | x :: xs, _ :: _, [], _, h => by cases h
  | x :: xs, j :: js, q :: ps, h1, h2 => ea_cons ed_str (ea_strs (by simpa using h1) (by simpa using h2))
end
/-- an address of the objects -/
def OkAdrO (ob : List (Str × Nat)) (a : Adr) : Prop := ∀ c : Code, c.objs = ob → OkAdr c a
theorem names_ijx {r : Nat} (h : r < 3) : ∃ x : Str, ([.str "i", .str "j", .str "x"] : List PyData)[r]? = some (.str x) ∧ x ∈ names4 := by
  have : r = 0 ∨ r = 1 ∨ r = 2 := by omega
  rcases this with rfl | rfl | rfl
  · exact ⟨_, rfl, by decide +kernel⟩
  · exact ⟨_, rfl, by decide +kernel⟩
  · exact ⟨_, rfl, by decide +kernel⟩
def Opd.sel (b : Bool) (x : Str) (i : Int) : Opd := if b = true then .nm x else .num i
section
variable {P : Program} {w : World} {K : PySem.W.Frag} {mg : Str → Option Value} {base : Heap} {T : List (Addr × Str)}
/-! ### _law_where -/
theorem sc_where : FnScope ["_law_feed_here", "_law_objects_here", "_law_rest", "_law_some", "_law_k", "_law_least", "_law_pick", "_law_index", "_law_called", "_law_way", "_law_own", "_law_size"] ["_law_feed_here", "_law_objects_here"] (defScope (top 55)) := ⟨rfl, rfl, rfl, by decide +kernel, rfl, by decide +kernel, by decide +kernel⟩
def spWhere (K : PySem.W.Frag) (T : List (Addr × Str)) : Sp' := fun vs H Q => ∃ (fd cl : Addr) (t : Int) (vo : V) (ob : List (Str × Nat)), vs = [.ref fd, vo] ∧ FeedAt H fd cl t ∧ t ≤ 90000 ∧ OkObs ob ∧ DT K H vo (.tuple (ob.map obD)) ∧ ∀ v H' a, OkAdrO ob a → Chg T [fd] H H' → FeedAt H' fd cl (t + 10) → DT K H' v a.d → Q v H'
theorem g_where (F : At K mg "_law_where" 55) (B : Blt mg) (Gd : GDef P w K mg base 1 "_law_draw" (spDraw T)) : GDef P w K mg base 2 "_law_where" (spWhere K T) := by
  refine F.ok sc_where (fun _ _ _ _ _ _ us hl => match us, hl with | [_, _], _ => rfl) (fun vs H Q ⟨fd, cl, t, vo, ob, e, _⟩ => by rw [e]; rfl) fun f cdv Ar outer s H vs Q k ⟨fd, cl, t, vo, ob, e, Fd, ht, oo, h2, q⟩ => ?_
  subst e
  have ol := oo.len
  refine ws_parV 2 3 k (wA_cons ((el_lcT2 (T := T) (as := ob) (g1 := fun p => .str p.1) (g2 := fun p => .int p.2) (own := [("_law_own", 10), ("_law_size", 11)]) 10 11 (fun p => .str p.1) k (blkOk_by rfl) (EvD.is (ed_name 1 h2) rfl) (by omega) rfl rfl rfl rfl (fun s' Hs C cl fp a v w H1 _ c1 hv _ => ed_name 10 hv) (fun _ _ => rfl)).go .refl fun lr H1 us ds hlr c1 hr1 eds hds _ => wA_cons ((el_lst (T := T) ea_nil).go .refl fun lf H2 us2 ds2 hlf c2 hf2 eds2 hds2 _ => wA_nil ⟨_, _, rfl, ?_⟩)))
  subst eds
  subst eds2
  cases hds2
  have eus := dts_strs (xs := ob.map (·.1)) (by rw [List.map_map]; exact hds)
  subst eus
  have F1 := Fd.keep c1
  obtain ⟨n1, n2⟩ := Fd.nf hlr
  obtain ⟨n3, n4⟩ := F1.nf hlf
  have n5 : lr ≠ lf := fun z => by
    rw [← z, hr1] at hlf
    cases hlf
  have F2 := F1.keep c2
  have hr2 := c2.get hr1
  have op : 0 < ob.length := List.length_pos_iff.mpr oo.ne
  refine ws_forR 4 k B.range (wE_iadd (wE_draw (m := min 2 ob.length) Gd k (ev_name 0) (EvD.is (ed_min2 k B.min ed_int (ed_lenL B.len (ev_name 2) hr2)) ?_) .refl F2 (by omega) (by omega) (by omega) fun r H3 hr c3 F3 => ⟨_, rfl, 1 + r, by rw [Int.natCast_add]; rfl, by omega, ?_⟩))
  · rw [List.length_map, List.length_map]
    split <;> (congr 1; omega)
  refine ⟨fun i σ2 H' => ∃ (ws ss : List Str) (u4 : Option V), σ2 = [some (.ref fd), some vo, some (.ref lr), some (.ref lf), u4, none, none, none, none, none, none, none] ∧ Chg T [fd, lr, lf] H2 H' ∧ FeedAt H' fd cl (t + 1 + i) ∧ H' lr = some (.lst (ws.map V.str)) ∧ H' lf = some (.lst (ss.map V.str)) ∧ ss.length = i ∧ ws.length + i = ob.length ∧ (∀ x ∈ ws, x ∈ ob.map (·.1)) ∧ ∀ x ∈ ss, x ∈ ob.map (·.1),
    ⟨ob.map (·.1), [], none, rfl, c3.mono (fun b hb => by rw [List.mem_singleton.mp hb]; simp), F3.le (by omega), c3.get hr2 (by simpa using fun z => n1 z.symm), c3.get hf2 (by simpa using fun z => n3 z.symm), rfl, by rw [List.length_map]; omega, fun x hx => hx, fun x hx => by cases hx⟩, ?_, ?_⟩
  · rintro i σ2 H4 hi ⟨ws, ss, u4, rfl, c4, F4, hr4, hf4, hsl, hwl, hws, hss⟩
    have hwp : 0 < ws.length := by omega
    refine ws_appW (T := T) (ev_name 3) hf4 fun H5 c5 => wE_popL (T := T) (ev_name 2) hr4 c5 fun H6 c6 => wE_draw (m := ws.length) Gd k (ev_name 0) (EvD.is (ed_lenL B.len (ev_name 2) hr4) (by rw [List.length_map])) (c5.trans c6) (F4.keep (c5.trans c6)) (by omega) (by omega) (by omega) fun r1 H7 hr1' c7 F7 => ?_
    obtain ⟨x, hx⟩ : ∃ x, ws[r1]? = some x := ⟨_, List.getElem?_eq_getElem hr1'⟩
    have hr7 : H7 lr = some (.lst (ws.map V.str)) := ((c5.trans c6).then_ c7).get hr4 (by simpa using fun z => n1 z.symm)
    refine ⟨r1, .str x, ws.map V.str, rfl, hr7, by rw [List.getElem?_map, hx]; rfl, by rw [List.length_map]; omega, ?_⟩
    have c8 : Chg T [lr] H7 (upd H7 lr (.lst ((ws.map V.str).eraseIdx r1))) := .set hr7 wr_lst (by simp)
    have hr8 : (upd H7 lr (.lst ((ws.map V.str).eraseIdx r1))) lr = some (.lst ((ws.eraseIdx r1).map V.str)) := by rw [upd_same, erase_map]
    have F8 := F7.keep c8 (by simpa using n1) (by simpa using n2)
    generalize upd H7 lr (.lst ((ws.map V.str).eraseIdx r1)) = H8 at *
    have hf7 : H7 lf = some (.lst (ss.map V.str)) := ((c5.trans c6).then_ c7).get hf4 (by simpa using fun z => n3 z.symm)
    have hf8 : H8 lf = some (.lst (ss.map V.str)) := c8.get hf7 (by simpa using fun z => n5 z.symm)
    refine ⟨ss.map V.str, hf8, by rw [List.length_map]; omega, ?_⟩
    have c9 : Chg T [lf] H8 (upd H8 lf (.lst (ss.map V.str ++ [.str x]))) := .set hf8 wr_lst (by simp)
    have pm := erase_perm hx
    refine wS_nil ⟨ws.eraseIdx r1, ss ++ [x], _, rfl, ?_, ?_, c9.get hr8 (by simpa using n5), by rw [upd_same, List.map_append]; rfl, by rw [List.length_append, hsl]; rfl, by have := erase_len hx; omega, fun y hy => hws y (pm.mem_iff.mpr (List.mem_cons_of_mem _ hy)), fun y hy => ?_⟩
    · exact ((c4.and_ (c5.trans c6)).trans (c7.mono fun b hb => by rw [List.mem_singleton.mp hb]; simp)).trans ((c8.mono fun b hb => by rw [List.mem_singleton.mp hb]; simp).trans (c9.mono fun b hb => by rw [List.mem_singleton.mp hb]; simp))
    · exact (F8.keep c9 (by simpa using n3) (by simpa using n4)).le (by omega)
    · rcases List.mem_append.mp hy with z | z
      · exact hss y z
      · rw [List.mem_singleton.mp z]
        exact hws x (List.mem_of_getElem? hx)
  · rintro σ2 H4 ⟨ws, ss, u4, rfl, c4, F4, hr4, hf4, hsl, hwl, hws, hss⟩
    have d4 : Chg T [fd] H H4 := Chg.fresh' (c1.trans c2) c4 fun x hx => by
      simp only [List.mem_cons, List.mem_nil_iff, or_false] at hx
      rcases hx with z | z | z
      · rw [z]; exact .inl (by simp)
      · rw [z]; exact .inr hlr
      · rw [z]; exact .inr (c1.back lf hlf)
    have hsome : ∀ x ∈ ob.map (·.1), ∃ m, findW ob x = some m ∧ 1 ≤ m ∧ m ≤ 3 := fun x hx => by
      obtain ⟨e, he, rfl⟩ := List.mem_map.mp hx
      exact ⟨e.2, findW_of_mem oo.nd he, (oo.ws e he).2⟩
    have hdss : DTs K H4 (ss.map V.str) (ss.map .str) := dts_ofStrs ss
    -- the least size
    refine ws_set 5 k (wE.of (pe_callB (cr_min k.calm) rfl B.min PyProof.Rows.boot_min (pa_cons peW pa_nil rfl) (by decide) (by decide) rfl (by rfl)) ((el_lcLh (T := T) (own := [("_law_own", 10)]) 10 (fun d => match d with
      | .str x => .int (((findW ob x).getD 0 : Nat) : Int)
      | _ => .none) k (blkOk_by rfl) (ev_name 3) hf4 hdss (by rw [List.length_map]; omega) rfl rfl (fun s' Hs C cl fp src v H5 hsrc c5 hv => ?_) (fun _ => rfl)).go .refl fun lm H5 us ds hlm c5 hm5 eds hds _ => ?_))
    · obtain ⟨x, hx, rfl⟩ := List.mem_map.mp hsrc
      obtain ⟨m, hm, _⟩ := hsome x (hss x hx)
      refine EvD.is (ed_szO (blkC_ok k) B oo (ed_name 1 (c5.dt (d4.dt h2))) (ed_name 10 hv) hm) ?_
      show PyData.int (m : Int) = .int (((findW ob x).getD 0 : Nat) : Int)
      rw [hm]
      rfl
    subst eds
    have eus : us = (ss.map fun x => (((findW ob x).getD 0 : Nat) : Int)).map V.int := dts_ints (by rw [List.map_map] at hds ⊢; exact hds)
    refine ⟨lm, ss.map fun x => (((findW ob x).getD 0 : Nat) : Int), rfl, by rw [← eus]; exact SqL.of hm5, by rw [List.length_map]; omega, fun lst hlst hall => ?_⟩
    obtain ⟨x0, hx0, e0⟩ := List.mem_map.mp hlst
    obtain ⟨m0, hm0, hm1, hm3⟩ := hsome x0 (hss x0 hx0)
    rw [hm0] at e0
    have e0 : lst = ((m0 : Nat) : Int) := e0.symm
    subst e0
    -- pick, index
    have F5 := F4.keep c5
    have hf5 := c5.get hf4
    have hsp : 0 < ss.length := by omega
    refine ws_parV 6 7 k (wA_cons (wE_draw (m := ss.length) Gd k (ev_name 0) (EvD.is (ed_lenL B.len (ev_name 3) hf5) (by rw [List.length_map])) .refl F5 (by omega) (by omega) (by omega) fun r6 H6 hr6 c6 F6 => wA_cons (wE_draw (m := m0) (T := T) Gd k (ev_name 0) (ed_name 5 (.int _)) .refl F6 (by omega) (by omega) (by omega) fun r7 H7 hr7 c7 F7 => wA_nil ⟨_, _, rfl, ?_⟩)))
    -- called
    refine ws_set 8 k (wE_ixLst (T := T) (ea_cons ed_str (ea_cons ed_str (ea_cons ed_str ea_nil))) (by decide) .refl fun H8 c8 => wE_draw (m := 3) Gd k (ev_name 0) ed_int c8 (F7.keep c8) (by omega) (by omega) (by omega) fun r9 H9 hr9 c9 F9 => ?_)
    obtain ⟨xc, hxc, hxn⟩ := names_ijx hr9
    refine ⟨r9, .str xc, rfl, hxc, fun r us h h0 => c9.get h (by simpa using fun z => (F7.nf h0).1 z.symm), c9.tup, fun uc huc => ?_⟩
    -- way
    refine ws_set 9 k (wE_draw (m := 6) (T := T) Gd k (ev_name 0) ed_int .refl F9 (by omega) (by omega) (by omega) fun r10 H10 hr10 c10 F10 => ?_)
    have c5_10 : Chg T [fd] H5 H10 := ((c6.trans c7).and_ c8).trans (c9.trans c10)
    have hf10 : H10 lf = some (.lst (ss.map V.str)) := c5_10.get hf5 (by simpa using fun z => n3 z.symm)
    have hd10 : DTs K H10 (ss.map V.str) (ss.map .str) := dts_ofStrs ss
    refine ws_ret (T := T) (d := (⟨ss, .sel (decide ((r10 : Int) = 0) && decide (1 < ((ss.map V.str).length : Int))) xc r6, .sel (decide ((r10 : Int) < 3)) (if r10 % 2 = 0 then "i" else "x") r7⟩ : Adr).d) (ed_tup (ea_cons (ed_tupL B.tuple (ev_name 3) hf10 hd10) (ea_cons (ed_if (et_and (et_cmp (ec_eqI (ed_name 9 (.int (r10 : Int))) ed_int)) fun _ => et_cmp (ec_gt (ed_lenL B.len (ev_name 3) hf10) ed_int)) (fun z => EvD.is (ed_name 8 (c10.dt huc)) ?_) fun z => EvD.is (ed_name 6 (.int (r6 : Int))) ?_) (ea_cons (ed_if (et_cmp (ec_lt (ed_name 9 (.int (r10 : Int))) ed_int)) (fun z => EvD.is (ed_ixLst (j := r10 % 2) (d := .str (if r10 % 2 = 0 then "i" else "x")) (ea_cons ed_str (ea_cons ed_str ea_nil)) (by decide) (EvD.is (ed_mod (ed_name 9 (.int (r10 : Int))) ed_int (by decide)) ?_) ?_) ?_) fun z => EvD.is (ed_name 7 (.int (r7 : Int))) ?_) ea_nil)))) fun v H11 c11 hv => ?_
    · rw [z]; rfl
    · rw [z]; rfl
    · rw [Int.natCast_emod]; rfl
    · have : r10 % 2 = 0 ∨ r10 % 2 = 1 := by omega
      rcases this with z2 | z2 <;> rw [z2] <;> rfl
    · rw [z]; rfl
    · rw [z]; rfl
    · refine q v H11 _ (fun c ec => ?_) (((d4.and_ c5).trans c5_10).and_ c11) ((F10.keep c11).le (by omega)) hv
      have hsz : ∀ x ∈ ss, ∃ m, c.size x = some m ∧ m0 ≤ m := fun x hx => by
        obtain ⟨m, hm, _⟩ := hsome x (hss x hx)
        refine ⟨m, ?_, ?_⟩
        · show findW c.objs x = some m
          rw [ec]
          exact hm
        · have := hall _ (List.mem_map.mpr ⟨x, hx, rfl⟩)
          rw [hm] at this
          have : (m0 : Int) ≤ (m : Int) := this
          omega
      refine ⟨fun z => ?_, by show ss.length ≤ 3; omega, fun x hx => ?_, ?_, ?_⟩
      · have z : ss = [] := z
        rw [z] at hsp
        simp at hsp
      · obtain ⟨m, hm, _⟩ := hsz x hx
        exact ⟨m, hm⟩
      · have hb : ∀ b : Bool, match Opd.sel b xc r6 with
          | .num i => 0 ≤ i ∧ i < (ss.length : Int)
          | .nm x => x ∈ names4 := fun b => by
            cases b with
            | true => exact hxn
            | false => exact ⟨by omega, by omega⟩
        exact hb _
      · have hb : ∀ b : Bool, match Opd.sel b (if r10 % 2 = 0 then "i" else "x") r7 with
          | .num i => 0 ≤ i ∧ ∀ w ∈ ss, ∀ n, c.size w = some n → i < n
          | .nm x => x ∈ names4 := fun b => by
            cases b with
            | true =>
              show (if r10 % 2 = 0 then ("i" : Str) else "x") ∈ names4
              split <;> decide +kernel
            | false =>
              refine ⟨by omega, fun x hx m' hm' => ?_⟩
              obtain ⟨m, hm, hle⟩ := hsz x hx
              rw [hm'] at hm
              cases hm
              omega
        exact hb _
/-! ### _law_operand -/
theorem sc_operand : FnScope ["_law_feed_here", "_law_way", "_law_small"] ["_law_feed_here"] (defScope (top 56)) := ⟨rfl, rfl, rfl, by decide +kernel, rfl, by decide +kernel, by decide +kernel⟩
def spOpnd (K : PySem.W.Frag) (T : List (Addr × Str)) : Sp' := fun vs H Q => ∃ (fd cl : Addr) (t : Int), vs = [.ref fd] ∧ FeedAt H fd cl t ∧ t ≤ 90000 ∧ ∀ v H' o, OkOpd o → Chg T [fd] H H' → FeedAt H' fd cl (t + 2) → DT K H' v o.d → Q v H'
theorem names_5 {r : Nat} (h : r < 5) : (∃ x : Str, ([.str "i", .str "j", .str "x", .str "i", .str "xx"] : List PyData)[r]? = some (.str x) ∧ x ∈ names4) ∧ ∃ x : Str, ([.str "i", .str "j", .str "x", .str "x", .str "j"] : List PyData)[r]? = some (.str x) ∧ x ∈ names4 := by
  have : r = 0 ∨ r = 1 ∨ r = 2 ∨ r = 3 ∨ r = 4 := by omega
  rcases this with rfl | rfl | rfl | rfl | rfl
  · exact ⟨⟨_, rfl, by decide +kernel⟩, ⟨_, rfl, by decide +kernel⟩⟩
  · exact ⟨⟨_, rfl, by decide +kernel⟩, ⟨_, rfl, by decide +kernel⟩⟩
  · exact ⟨⟨_, rfl, by decide +kernel⟩, ⟨_, rfl, by decide +kernel⟩⟩
  · exact ⟨⟨_, rfl, by decide +kernel⟩, ⟨_, rfl, by decide +kernel⟩⟩
  · exact ⟨⟨_, rfl, by decide +kernel⟩, ⟨_, rfl, by decide +kernel⟩⟩
theorem g_operand (F : At K mg "_law_operand" 56) (B : Blt mg) (Gd : GDef P w K mg base 1 "_law_draw" (spDraw T)) : GDef P w K mg base 2 "_law_operand" (spOpnd K T) := by
  refine F.ok sc_operand (fun _ _ _ _ _ _ us hl => match us, hl with | [_], _ => rfl) (fun vs H Q ⟨fd, cl, t, e, _⟩ => by rw [e]; rfl) fun f cdv Ar outer s H vs Q k ⟨fd, cl, t, e, Fd, ht, q⟩ => ?_
  subst e
  refine ws_parV 1 2 k (wA_cons (wE_draw (m := 5) (T := T) Gd k (ev_name 0) ed_int .refl Fd (by omega) (by omega) (by omega) fun r1 H1 hr1 c1 F1 => wA_cons (wE_draw (m := 5) (T := T) Gd k (ev_name 0) ed_int .refl F1 (by omega) (by omega) (by omega) fun r2 H2 hr2 c2 F2 => wA_nil ⟨_, _, rfl, ?_⟩)))
  obtain ⟨⟨x1, hx1, hn1⟩, ⟨x2, hx2, hn2⟩⟩ := names_5 hr2
  have hpick : ∃ o : Opd, OkOpd o ∧ ([.str x1, .str x2, .int ((r2 : Int) - 1), .int (r2 : Int), .int (-3)] : List PyData)[r1]? = some o.d := by
    have : r1 = 0 ∨ r1 = 1 ∨ r1 = 2 ∨ r1 = 3 ∨ r1 = 4 := by omega
    rcases this with rfl | rfl | rfl | rfl | rfl
    · exact ⟨.nm x1, hn1, rfl⟩
    · exact ⟨.nm x2, hn2, rfl⟩
    · exact ⟨.num _, trivial, rfl⟩
    · exact ⟨.num _, trivial, rfl⟩
    · exact ⟨.num _, trivial, rfl⟩
  obtain ⟨o, ho, hd⟩ := hpick
  refine ws_ret (T := T) (d := o.d) (ed_ixLst (j := r1) (ea_cons (ed_ixLst (j := r2) (ea_cons ed_str (ea_cons ed_str (ea_cons ed_str (ea_cons ed_str (ea_cons ed_str ea_nil))))) (by decide) (ed_name 2 (.int _)) hx1) (ea_cons (ed_ixLst (j := r2) (ea_cons ed_str (ea_cons ed_str (ea_cons ed_str (ea_cons ed_str (ea_cons ed_str ea_nil))))) (by decide) (ed_name 2 (.int _)) hx2) (ea_cons (ed_sub (ed_name 2 (.int _)) ed_int) (ea_cons (ed_name 2 (.int _)) (ea_cons (ed_neg ed_int) ea_nil))))) (by simp) (ed_name 1 (.int _)) hd) fun v H3 c3 hv => q v H3 o ho ((c1.trans c2).and_ c3) ((F2.keep c3).le (by omega)) hv
end
end K7
/-! ## M1E -/
set_option Elab.async false
set_option linter.all false
set_option maxRecDepth 100000
set_option maxHeartbeats 4000000
/-! row. -/
namespace K7
open PySem PySem.Spec PyProof.Rows L2
section
variable {T : List (Addr × Str)} {X : Cx} {σ : L2.St} {H : Hp} {a b e : Expr} {n : Nat} {l : Addr} {pos : Pos} {Q : VK}
/-- l[e], the index known late -/
theorem wE_ixLate {vs : List V} {H0 : Hp} (ho : EvV T X a σ H (.ref l)) (c0 : Ex T H H0) (h : ∀ H1, Ex T H0 H1 → wE X b σ H1 fun v H2 => ∃ (i : Nat) (y : V) (ys : List V), v = .int i ∧ H2 l = some (.lst ys) ∧ ys[i]? = some y ∧ Q y H2) (hs : PlainIx b := by exact fun _ _ => rfl) : wE X (.Subscript a b pos) σ H0 Q :=
  wE.of (pe_ix ix_list peW peW hs) (ho.go c0 fun H1 c1 => (h H1 c1).imp fun v H2 ⟨i, y, ys, ev, hl, hy, q⟩ => ⟨l, ys, i, y, rfl, ev, SqL.of hl, atI_nat hy, q⟩)
end
section
variable {P : Program} {w : World} {K : PySem.W.Frag} {mg : Str → Option Value} {base : Heap} {T : List (Addr × Str)}
/-- what the code must have for its rows -/
def ForC (ob : List (Str × Nat)) (cs : List Str) (c : Code) : Prop := c.objs = ob ∧ ∀ r ∈ cs, ∃ bs, c.blks r = some bs
theorem sc_row : FnScope ["_law_feed_here", "_law_objects_here", "_law_called", "_law_way", "_law_own", "_law_where_here", "_law_one", "_law_other", "_law_word"] ["_law_feed_here", "_law_objects_here", "_law_called"] (defScope (top 57)) := ⟨rfl, rfl, rfl, by decide +kernel, rfl, by decide +kernel, by decide +kernel⟩
def spRowL (K : PySem.W.Frag) (T : List (Addr × Str)) : Sp' := fun vs H Q => ∃ (fd cl lc : Addr) (t : Int) (vo : V) (ob : List (Str × Nat)) (cs : List Str), vs = [.ref fd, vo, .ref lc] ∧ FeedAt H fd cl t ∧ t ≤ 80000 ∧ OkObs ob ∧ DT K H vo (.tuple (ob.map obD)) ∧ H lc = some (.lst (cs.map V.str)) ∧ cs.length ≤ 2 ∧
  ∀ v H' op, (∀ c, ForC ob cs c → OkRow c op) → Chg T [fd] H H' → FeedAt H' fd cl (t + 20) → DT K H' v op.d → Q v H'
theorem words_4 {r : Nat} (h : r < 4) : ∃ x : Str, ([.str "+", .str "-", .str "<", .str "*"] : List PyData)[r]? = some (.str x) ∧ x ∈ (["+", "-", "<", "*"] : List Str) := by
  have : r = 0 ∨ r = 1 ∨ r = 2 ∨ r = 3 := by omega
  rcases this with rfl | rfl | rfl | rfl
  · exact ⟨_, rfl, by decide +kernel⟩
  · exact ⟨_, rfl, by decide +kernel⟩
  · exact ⟨_, rfl, by decide +kernel⟩
  · exact ⟨_, rfl, by decide +kernel⟩
theorem nums_4 {r : Nat} (h : r < 4) : ∃ i : Int, ([.int (-1), .int 2, .int 3, .int 0] : List PyData)[r]? = some (.int i) ∧ -4 < i ∧ i < 4 := by
  have : r = 0 ∨ r = 1 ∨ r = 2 ∨ r = 3 := by omega
  rcases this with rfl | rfl | rfl | rfl
  · exact ⟨_, rfl, by omega, by omega⟩
  · exact ⟨_, rfl, by omega, by omega⟩
  · exact ⟨_, rfl, by omega, by omega⟩
  · exact ⟨_, rfl, by omega, by omega⟩
theorem g_row (F : At K mg "_law_row" 57) (B : Blt mg) (Gd : GDef P w K mg base 1 "_law_draw" (spDraw T)) (Gw : GDef P w K mg base 2 "_law_where" (spWhere K T)) (Go : GDef P w K mg base 2 "_law_operand" (spOpnd K T)) : GDef P w K mg base 3 "_law_row" (spRowL K T) := by
  refine F.ok sc_row (fun _ _ _ _ _ _ us hl => match us, hl with | [_, _, _], _ => rfl) (fun vs H Q ⟨fd, cl, lc, t, vo, ob, cs, e, _⟩ => by rw [e]; rfl) fun f cdv Ar outer s H vs Q k ⟨fd, cl, lc, t, vo, ob, cs, e, Fd, ht, oo, h2, hlc, hcz, q⟩ => ?_
  subst e
  have nlc : lc ≠ fd := fun z => by
    obtain ⟨ns, a, l, tn, e1, _⟩ := Fd.ex
    rw [← z, hlc] at e1
    cases e1
  -- way, own
  refine ws_parV 3 4 k (wA_cons (wE_draw (m := 14) (T := T) Gd k (ev_name 0) ed_int .refl Fd (by omega) (by omega) (by omega) fun r3 H1 hr3 c1 F1 => wA_cons (wE_ixLst (T := T) (ea_cons ed_str (ea_cons ed_str (ea_cons ed_str ea_nil))) (by decide) .refl fun H2 c2 => wE_draw (m := 3) Gd k (ev_name 0) ed_int c2 (F1.keep c2) (by omega) (by omega) (by omega) fun r4 H3 hr4 c3 F3 => ?_)))
  obtain ⟨xo, hxo, hxn⟩ := names_ijx hr4
  refine ⟨r4, .str xo, rfl, hxo, fun r us h h0 => c3.get h (by simpa using fun z => (F1.nf h0).1 z.symm), c3.tup, fun uo huo => wA_nil ⟨_, _, rfl, ?_⟩⟩
  have d3 : Chg T [fd] H H3 := (c1.and_ c2).trans c3
  -- where, one, other
  refine wS_cons (ps_par3 (i := 5) (j := 6) (l := 7) k.calm k.nd rfl rfl rfl (by decide) (by decide) (by decide) rfl rfl rfl paW rfl) (wA_cons (wE_cl Gw k (wA_cons (EvV.go (T := T) (ev_name 0) .refl fun H4 c4 => wA_cons (EvD.go (T := T) (ed_name 1 (c4.dt (d3.dt h2))) .refl fun y1 H5 c5 hy1 => wA_nil ⟨fd, cl, t + 2, y1, ob, rfl, (F3.keep (c4.trans c5)).le (by omega), by omega, oo, hy1, fun vw H6 aw haw c6 F6 hvw => ?_⟩)))))
  have d6 : Chg T [fd] H H6 := (d3.and_ (c4.trans c5)).trans c6
  refine wA_cons (wE_cl Go k (wA_cons (EvV.go (T := T) (ev_name 0) .refl fun H7 c7 => wA_nil ⟨fd, cl, t + 12, rfl, (F6.keep c7).le (by omega), by omega, fun v6 H8 o1 ho1 c8 F8 hv6 => ?_⟩)))
  refine wA_cons (wE_cl Go k (wA_cons (EvV.go (T := T) (ev_name 0) .refl fun H9 c9 => wA_nil ⟨fd, cl, t + 14, rfl, (F8.keep c9).le (by omega), by omega, fun v7 H10 o2 ho2 c10 F10 hv7 => wA_nil ⟨_, _, _, rfl, ?_⟩⟩)))
  have c810 : Chg T [fd] H8 H10 := c9.then_ c10
  have c610 : Chg T [fd] H6 H10 := (c7.then_ c8).trans c810
  have d10 : Chg T [fd] H H10 := d6.trans c610
  have hw := c610.dt hvw
  have h1 := c810.dt hv6
  have h0 : DT K H10 uo (.str xo) := (((c4.trans c5).then_ c6).trans c610).dt huo
  have F10 := F10.le (show t + 14 + 2 ≤ t + 16 by omega)
  have fin : ∀ (op : Op) (v : V) (H' : Hp), (∀ c, ForC ob cs c → OkRow c op) → Ex T H10 H' → DT K H' v op.d → Q v H' := fun op v H' ho c hv => q v H' op ho (d10.and_ c) ((F10.keep c).le (by omega)) hv
  refine ws_when (T := T) (k := decide ((r3 : Int) < 4)) (et_cmp (ec_lt (ed_name 3 (.int _)) ed_int)) (fun _ Ha ca => ws_ret (T := T) (d := (Op.store aw o1).d) (EvD.is (ed_tup (ea_cons ed_str (ea_cons (ed_name 5 (ca.dt hw)) (ea_cons (ed_name 6 (ca.dt h1)) ea_nil)))) rfl) fun v H' c' hv => fin (.store aw o1) v H' (fun c hc => ⟨haw c hc.1, ho1⟩) (ca.trans c') hv) fun _ Ha ca => ?_
  refine ws_when (T := T) (k := decide ((r3 : Int) < 7)) (et_cmp (ec_lt (ed_name 3 (.int _)) ed_int)) (fun _ Hb cb => ws_ret (T := T) (d := (Op.load xo aw).d) (EvD.is (ed_tup (ea_cons ed_str (ea_cons (ed_name 4 ((ca.trans cb).dt h0)) (ea_cons (ed_name 5 ((ca.trans cb).dt hw)) ea_nil)))) rfl) fun v H' c' hv => fin (.load xo aw) v H' (fun c hc => ⟨hxn, haw c hc.1⟩) ((ca.trans cb).trans c') hv) fun _ Hb cb => ?_
  have cB := ca.trans cb
  refine ws_when (T := T) (k := decide ((r3 : Int) < 10)) (et_cmp (ec_lt (ed_name 3 (.int _)) ed_int)) (fun _ Hc cc => ?_) fun _ Hc cc => ?_
  · have cC := cB.trans cc
    refine ws_set 8 k (wE_ixLst (T := T) (ea_cons ed_str (ea_cons ed_str (ea_cons ed_str (ea_cons ed_str ea_nil)))) (by decide) .refl fun Hd cd => wE_draw (m := 4) Gd k (ev_name 0) ed_int cd (F10.keep (cC.trans cd)) (by omega) (by omega) (by omega) fun r8 He hr8 ce Fe => ?_)
    obtain ⟨xw, hxw, hxm⟩ := words_4 hr8
    refine ⟨r8, .str xw, rfl, hxw, fun r us h h0 => ce.get h (by simpa using fun z => ((F10.keep cC).nf h0).1 z.symm), ce.tup, fun uw huw => ?_⟩
    have dE : Chg T [fd] H He := (d10.and_ (cC.trans cd)).trans ce
    have g0 := ce.dt ((cC.trans cd).dt h0)
    have g1 := ce.dt ((cC.trans cd).dt h1)
    have g2 := ce.dt ((cC.trans cd).dt hv7)
    refine ws_return (wE_tup (wA_cons (EvD.go (T := T) (ed_str (i := "set")) .refl fun y1 Hf cf hy1 => wA_cons (EvD.go (T := T) (ed_name 4 (cf.dt g0)) .refl fun y2 Hg cg hy2 => wA_cons (EvD.go (T := T) (ed_name 8 ((cf.trans cg).dt huw)) .refl fun y3 Hh ch hy3 => wA_cons (EvD.go (T := T) (ed_name 6 (((cf.trans cg).trans ch).dt g1)) .refl fun y4 Hi ci hy4 => wA_cons (wE.imp (Q := fun v H' => ∃ o : Opd, OkOpd o ∧ (xw = "*" → ∃ i : Int, o = .num i ∧ -4 < i ∧ i < 4) ∧ Chg T [fd] Hi H' ∧ FeedAt H' fd cl (t + 18) ∧ DT K H' v o.d) (wE.of (pe_ifExp ptW peW peW) ((et_cmp (T := T) (ec_neS (ed_name 8 ((((cf.trans cg).trans ch).trans ci).dt huw)) ed_str)) Hi .refl _ fun Hj cj => ?_)) fun v Hk ⟨o, hoo, hstar, ck, Fk, hv⟩ => wA_nil ⟨by show 5 ≤ sizeLine; decide, fun p ob' hp ho => ?_⟩)))))))
    · have FI : FeedAt Hj fd cl (t + 17) := (Fe.keep ((((cf.trans cg).trans ch).trans ci).trans cj)).le (by omega)
      by_cases hx : xw = "*"
      · rw [decide_eq_true hx]
        refine wE_ixLst (T := T) (ea_cons (ed_neg ed_int) (ea_cons ed_int (ea_cons ed_int (ea_cons ed_int ea_nil)))) (by simp) .refl fun Hl cl' => wE_draw (m := 4) Gd k (ev_name 0) ed_int cl' (FI.keep cl') (by omega) (by omega) (by omega) fun r9 Hm hr9 cm Fm => ?_
        obtain ⟨i9, hi9, hb1, hb2⟩ := nums_4 hr9
        exact ⟨r9, .int i9, rfl, hi9, fun r us h h0 => cm.get h (by simpa using fun z => (FI.nf h0).1 z.symm), cm.tup, fun u hu => ⟨.num i9, trivial, fun _ => ⟨i9, rfl, hb1, hb2⟩, (cj.trans cl').then_ cm, Fm.le (by omega), hu⟩⟩
      · rw [decide_eq_false hx]
        exact EvD.go (T := T) (ed_name 7 (((((cf.trans cg).trans ch).trans ci).trans cj).dt g2)) .refl fun u Hl cl' hu => ⟨o2, ho2, fun z => absurd z hx, (cj.trans cl').any, (FI.keep cl').le (by omega), hu⟩
    · have cnew : Ex T Hk (upd Hk p (.frz ob' (.tup [y1, y2, y3, y4, v]))) := .new hp
      have hd : DT K (upd Hk p (.frz ob' (.tup [y1, y2, y3, y4, v]))) (.ref p) (Op.set xo xw o1 o).d := .new hp ho (ds := [.str "set", .str xo, .str xw, o1.d, o.d]) (.cons (ck.dt (((cg.trans ch).trans ci).dt hy1)) (.cons (ck.dt ((ch.trans ci).dt hy2)) (.cons (ck.dt (ci.dt hy3)) (.cons (ck.dt hy4) (.one hv)))))
      exact q _ _ (.set xo xw o1 o) (fun c hc => ⟨hxn, hxm, ho1, hoo, hstar⟩) (((dE.and_ (((cf.trans cg).trans ch).trans ci)).trans ck).and_ cnew) ((Fk.keep cnew).le (by omega)) hd
  have cC := cB.trans cc
  have hlC : Hc lc = some (.lst (cs.map V.str)) := (d10.and_ cC).get hlc (by simpa using nlc)
  refine ws_when (T := T) (k := decide ((r3 : Int) = 10) && !(cs.map V.str).isEmpty) (et_and (et_cmp (ec_eqI (ed_name 3 (.int _)) ed_int)) fun _ => et_cmp (ec_neL0 k (ev_name 2) hlC)) (fun z Hd cd => ?_) fun _ Hd cd => ?_
  · have hne : 0 < cs.length := by
      rw [Bool.and_eq_true] at z
      have z2 := z.2
      cases cs with
      | nil => cases z2
      | cons x l => simp
    have hlD := cd.get hlC
    refine ws_return (wE_tup (wA_cons (EvD.go (T := T) (ed_str (i := "call")) .refl fun y1 He ce hy1 => wA_cons (wE_ixLate (T := T) (vs := []) (ev_name 2) ce fun Hf cf => wE_draw (m := cs.length) Gd k (ev_name 0) (EvD.is (ed_lenL B.len (ev_name 2) hlD) (by rw [List.length_map])) (ce.trans cf) (F10.keep ((cC.trans cd).trans (ce.trans cf))) (by omega) (by omega) (by omega) fun r9 Hg hr9 cg Fg => ?_))))
    obtain ⟨x, hx⟩ : ∃ x, cs[r9]? = some x := ⟨_, List.getElem?_eq_getElem hr9⟩
    refine ⟨r9, .str x, cs.map V.str, rfl, ((ce.trans cf).then_ cg).get hlD (by simpa using nlc), by rw [List.getElem?_map, hx]; rfl, wA_nil ⟨by show 2 ≤ sizeLine; decide, fun p ob' hp ho => ?_⟩⟩
    have cnew : Ex T Hg (upd Hg p (.frz ob' (.tup [y1, .str x]))) := .new hp
    have hd : DT K (upd Hg p (.frz ob' (.tup [y1, .str x]))) (.ref p) (Op.call x).d := .new hp ho (ds := [.str "call", .str x]) (.cons (cg.dt (cf.dt hy1)) (.one (.str x)))
    exact q _ _ (.call x) (fun c hc => hc.2 x (List.mem_of_getElem? hx)) (((d10.and_ ((cC.trans cd).trans (ce.trans cf))).trans cg).and_ cnew) ((Fg.keep cnew).le (by omega)) hd
  have cD := cC.trans cd
  refine ws_when (T := T) (k := decide ((r3 : Int) = 11)) (et_cmp (ec_eqI (ed_name 3 (.int _)) ed_int)) (fun z He ce => ?_) fun _ He ce => ?_
  · have cE := cD.trans ce
    refine ws_return (wE_ixLst (T := T) (ds := [(Op.need o1).d, (Op.need (.num 1)).d, (Op.touch aw).d]) (ea_cons (EvD.is (ed_tup (ea_cons ed_str (ea_cons (ed_name 6 (cE.dt h1)) ea_nil))) rfl) (ea_cons (EvD.is (ed_tup (ea_cons ed_str (ea_cons ed_int ea_nil))) rfl) (ea_cons (EvD.is (ed_tup (ea_cons ed_str (ea_cons (ed_name 5 (cE.dt hw)) ea_nil))) rfl) ea_nil))) (by simp) .refl fun Hf cf => wE_draw (m := 3) Gd k (ev_name 0) ed_int cf (F10.keep (cE.trans cf)) (by omega) (by omega) (by omega) fun r9 Hg hr9 cg Fg => ?_)
    have hpick : ∃ op : Op, (∀ c, ForC ob cs c → OkRow c op) ∧ ([(Op.need o1).d, (Op.need (.num 1)).d, (Op.touch aw).d] : List PyData)[r9]? = some op.d := by
      have : r9 = 0 ∨ r9 = 1 ∨ r9 = 2 := by omega
      rcases this with rfl | rfl | rfl
      · exact ⟨.need o1, fun _ _ => ho1, rfl⟩
      · exact ⟨.need (.num 1), fun _ _ => trivial, rfl⟩
      · exact ⟨.touch aw, fun c hc => haw c hc.1, rfl⟩
    obtain ⟨op, hop, hd⟩ := hpick
    exact ⟨r9, op.d, rfl, hd, fun r us h h0 => cg.get h (by simpa using fun z => ((F10.keep cE).nf h0).1 z.symm), cg.tup, fun u hu => q u Hg op hop ((d10.and_ (cE.trans cf)).trans cg) (Fg.le (by omega)) hu⟩
  have cE := cD.trans ce
  by_cases h13 : (r3 : Int) < 13
  · refine ws_ret (T := T) (d := (Op.tell o1).d) (ed_if (k := true) (EvT.is (et_cmp (ec_lt (ed_name 3 (.int _)) ed_int)) (decide_eq_true h13)) (fun _ => EvD.is (ed_tup (ea_cons ed_str (ea_cons (ed_name 6 (cE.dt h1)) ea_nil))) rfl) fun z => by cases z) fun v H' c' hv => fin (.tell o1) v H' (fun _ _ => ho1) (cE.trans c') hv
  · refine ws_ret (T := T) (d := (Op.touch aw).d) (ed_if (k := false) (EvT.is (et_cmp (ec_lt (ed_name 3 (.int _)) ed_int)) (decide_eq_false h13)) (fun z => by cases z) fun _ => EvD.is (ed_tup (ea_cons ed_str (ea_cons (ed_name 5 (cE.dt hw)) ea_nil))) rfl) fun v H' c' hv => fin (.touch aw) v H' (fun c hc => haw c hc.1) (cE.trans c') hv
end
end K7
/-! ## M1F -/
set_option Elab.async false
set_option linter.all false
set_option maxRecDepth 100000
set_option maxHeartbeats 4000000
/-! plan. -/
namespace K7
open PySem PySem.Spec PyProof.Rows L2
section
variable {T : List (Addr × Str)} {X : Cx} {σ : L2.St} {H : Hp} {a b e iter : Expr} {n : Nat} {l : Addr} {pos pt p2 : Pos} {Q : VK} {D : Ends} {rest body : List Stmt} {vs : List V}
theorem wO_some {Qo : Option Int → Hp → Prop} (h : wE X e σ H fun v H1 => ∃ i : Int, v = .int i ∧ Qo (some i) H1) : wO X (some e) σ H Qo := fun pins s I => (po_some peW).run pins s σ H Qo I h
/-- for x in a new list -/
theorem ws_forL1 (j : Nat) {x : Str} {p1 : Pos} {R : List PyData → Prop} (c : Cok n X) (hi : EvL T X iter σ H R)
    (h : ∀ r H1 ss us, H r = none → Ex T H H1 → R ss → H1 r = some (.lst us) → DTs X.K H1 us ss → ∃ Pv : Nat → L2.St → Hp → Prop, Pv 0 σ H1 ∧ (∀ i σ2 H2, Pv i σ2 H2 → Tk H1 H2 ∧ H2 r = some (.lst us)) ∧
      (∀ i d σ2 H2, ss[i]? = some d → Pv i σ2 H2 → ∀ v1, DT X.K H2 v1 d → wS X body { D with nx := Pv (i + 1), ct := Pv (i + 1), bk := wS X rest D } (σ2.set j (some v1)) H2) ∧ ∀ σ2 H2, Pv ss.length σ2 H2 → wS X rest D σ2 H2)
    (hN : X.N[j]? = some x := by rfl) (hx : Loc X.env.scope x := by first | exact Or.inl rfl | exact Or.inr rfl) (hf : X.fn x = true ∨ X.env.scope.names.lookup x = some .local := by first | exact .inl rfl | exact .inr rfl)
    (hp : PassesOwn (model X.prog X.w) X.A X.env X.xe := by exact PassesOwn.never) (hs : ∀ x, foldedSetIterable iter X.env x = pure x := by intro _; rfl) : wS X (.For (.Name x p1) iter body [] pos :: rest) D σ H :=
  ws_for c (pi_list peW) (pg_name c.nd hN hx hf) (hi.go .refl fun r H1 us ss hr c1 hr1 hR hds hz => by
    obtain ⟨Pv, h0, hk, ht, hd⟩ := h r H1 ss us hr c1 hR hr1 hds
    refine ⟨r, rfl, ⟨us, SqL.of hr1⟩, us.length, _, _, walk_list, Pv, h0, fun i σ2 H2 p => SqL.of (hk i σ2 H2 p).2, fun i x σ2 H2 H3 hi p ⟨e, hy⟩ => ?_, fun σ2 H2 p => hd σ2 H2 (by rw [← hds.len]; exact p)⟩
    subst e
    obtain ⟨d, hd1, hd2⟩ := hds.atV hy
    exact ht i d σ2 H3 hd1 p x (hd2.tk (hk i σ2 H3 p).1)) hp hs
/-- l + [..] -/
theorem el_cat {ds es : List PyData} {bs : List Expr} (ha : EvV T X a σ H (.ref l)) (hl : H l = some (.lst vs)) (hd : DTs X.K H vs ds) (hb : EvA T X bs σ H es) (hz : ds.length ≤ 1000) (hz2 : es.length ≤ 1000 := by simp) : EvL T X (.BinOp a .Add (.List bs p2) pos) σ H (fun l => l = ds ++ es) := fun H1 c Q q =>
  wE.of (pe_op op_cat peW peW) (ha.go c fun H2 c2 => (el_lst hb hz2).go (c.trans c2) fun r H3 us ds' hr c3 hr3 ed hds _ => by
    subst ed
    have h1 := hd.len
    have h2 := hds.len
    refine ⟨l, r, vs, us, rfl, rfl, ((c.trans c2).trans c3).get hl, hr3, Nat.le_of_lt (small5 (by omega)), fun p hp => ?_⟩
    have c4 : Ex T H3 (upd H3 p (.lst (vs ++ us))) := .new hp
    exact q p _ (vs ++ us) _ ((c2.trans c3).back p hp) ((c2.trans c3).trans c4) upd_same rfl (c4.dts ((((c.trans c2).trans c3).dts hd).app hds)) (by rw [List.length_append]; omega))
end
structure OkRt (ob : List (Str × Nat)) (cs : List Str) (bs : List Blk) : Prop where
  lo : 1 ≤ bs.length
  hi : bs.length ≤ 3
  bs : ∀ b ∈ bs, ∀ c, ForC ob cs c → OkBlk c bs.length b
abbrev mainL : List Str := ["main"]
abbrev fL : List Str := ["f", "ff"]
def IsCs (cs : List Str) : Prop := cs = [] ∨ cs = (["f"] : List Str) ∨ cs = fL
theorem cut_cs {r : Nat} (h : r < 3) : ∃ cs : List Str, cutV (fL.map V.str) none (some (r : Int)) = cs.map V.str ∧ IsCs cs := by
  have : r = 0 ∨ r = 1 ∨ r = 2 := by omega
  rcases this with rfl | rfl | rfl
  · exact ⟨[], rfl, .inl rfl⟩
  · exact ⟨["f"], rfl, .inr (.inl rfl)⟩
  · exact ⟨["f", "ff"], rfl, .inr (.inr rfl)⟩
theorem plan_ok {ob : List (Str × Nat)} {cs : List Str} {rts : List (Str × List Blk)} (oo : OkObs ob) (hc : IsCs cs) (hn : rts.map (·.1) = cs ++ mainL) (hr : ∀ x ∈ rts, OkRt ob cs x.2) : OkCode ⟨ob, rts⟩ := by
  have hfor : ForC ob cs ⟨ob, rts⟩ := ⟨rfl, fun r hr => by
    have h1 : r ∈ rts.map (·.1) := by rw [hn]; exact List.mem_append_left _ hr
    exact Option.isSome_iff_exists.mp (findW_isSome (ws := rts).mpr h1)⟩
  refine ⟨oo.ne, oo.len, oo.nd, oo.ws, ?_, fun r hr' => ⟨(hr r hr').lo, (hr r hr').hi, fun b hb => (hr r hr').bs b hb _ hfor⟩⟩
  show rts.map (·.1) = _ ∨ rts.map (·.1) = _ ∨ rts.map (·.1) = _
  rw [hn]
  rcases hc with rfl | rfl | rfl
  · exact .inl rfl
  · exact .inr (.inl rfl)
  · exact .inr (.inr rfl)
section
variable {P : Program} {w : World} {K : PySem.W.Frag} {mg : Str → Option Value} {base : Heap} {T : List (Addr × Str)}
theorem sc_plan : FnScope ["_law_feed_here", "_law_objects_here", "_law_called", "_law_found", "_law_routine", "_law_many", "_law_blocks", "_law_block", "_law_rows", "_law_way", "_law_one", "_law_other", "_law_end", "_law_k"] ["_law_feed_here"] (defScope (top 58)) := ⟨rfl, rfl, rfl, by decide +kernel, rfl, by decide +kernel, by decide +kernel⟩
def spPlan (K : PySem.W.Frag) (T : List (Addr × Str)) : Sp' := fun vs H Q => ∃ (fd cl : Addr) (t : Int), vs = [.ref fd] ∧ FeedAt H fd cl t ∧ t ≤ 70000 ∧ ∀ v H' c, OkCode c → Chg T [fd] H H' → FeedAt H' fd cl (t + 800) → DT K H' v c.d → Q v H'
theorem g_plan (F : At K mg "_law_plan" 58) (B : Blt mg) (Gd : GDef P w K mg base 1 "_law_draw" (spDraw T)) (Gb : GDef P w K mg base 2 "_law_objects" (spObs K T)) (Go : GDef P w K mg base 2 "_law_operand" (spOpnd K T)) (Gr : GDef P w K mg base 3 "_law_row" (spRowL K T)) : GDef P w K mg base 4 "_law_plan" (spPlan K T) := by
  refine F.ok sc_plan (fun _ _ _ _ _ _ us hl => match us, hl with | [_], _ => rfl) (fun vs H Q ⟨fd, cl, t, e, _⟩ => by rw [e]; rfl) fun f cdv Ar outer s H vs Q k ⟨fd, cl, t, e, Fd, ht, q⟩ => ?_
  subst e
  have nfc := Fd.ne
  -- objects
  refine ws_set 1 k (wE_cl Gb k (wA_cons (EvV.go (T := T) (ev_name 0) .refl fun H0 c0 => wA_nil ⟨fd, cl, t, rfl, Fd.keep c0, by omega, fun vo H1 ob oo c1 F1 hvo => ?_⟩)))
  have d1 : Chg T [fd] H H1 := c0.then_ c1
  -- called, found
  refine ws_unpV (T := T) 2 3 k (wA_cons (wE.of (pe_slice sl_list peW poW poW) ((el_lst (T := T) (ea_cons ed_str (ea_cons ed_str ea_nil))).go .refl fun r0 H2 us ds hr0 c2 hr2 eds hds _ => eo_none (T := T) H2 .refl _ fun H3 c3 => wO_some (wE_draw (m := 3) (T := T) Gd k (ev_name 0) ed_int .refl (F1.keep (c2.trans c3)) (by omega) (by omega) (by omega) fun r H4 hr c4 F4 => ⟨_, rfl, ?_⟩))))
  subst eds
  have eus := dts_strs (xs := fL) hds
  subst eus
  obtain ⟨cs, ecs, hcs⟩ := cut_cs hr
  have hcz : cs.length ≤ 2 := by rcases hcs with rfl | rfl | rfl <;> decide
  obtain ⟨m1, m2⟩ := F1.nf hr0
  refine ⟨r0, _, rfl, SqL.of (c4.get (c3.get hr2) (by simpa using fun z => m1 z.symm)), fun lc hlc => ?_⟩
  have e5 : (upd H4 lc (.lst (cutV (fL.map V.str) none (some (r : Int))))) lc = some (.lst (cs.map V.str)) := by rw [upd_same, ecs]
  have c5 : Ex T H4 (upd H4 lc (.lst (cutV (fL.map V.str) none (some (r : Int))))) := .new hlc
  generalize upd H4 lc (.lst (cutV (fL.map V.str) none (some (r : Int)))) = H5 at *
  obtain ⟨n1, n2⟩ := F4.nf hlc
  have F5 := F4.keep c5
  refine wA_cons ((el_lst (T := T) ea_nil).go .refl fun lf H6 us2 ds2 hlf c6 hf6 eds2 hds2 _ => wA_nil ⟨_, _, rfl, fun tp H7 htp c7 => ?_⟩)
  subst eds2
  cases hds2
  obtain ⟨n3, n4⟩ := F5.nf hlf
  have n5 : lc ≠ lf := fun z => by
    rw [← z, e5] at hlf
    cases hlf
  have d5 : Chg T [fd] H H5 := ((d1.and_ (c2.trans c3)).trans c4).and_ c5
  have c57 := c6.trans c7
  have d7 : Chg T [fd] H H7 := d5.and_ c57
  have F7 := F5.keep c57
  have hl7 := c57.get e5
  have hf7 := c7.get hf6
  have ho7 : DT K H7 vo (.tuple (ob.map obD)) := c57.dt (c5.dt (c4.dt ((c2.trans c3).dt hvo)))
  refine ws_forL1 (T := T) (R := fun ds => ds = (cs ++ mainL).map .str) 4 k (EvL.imp (el_cat (ev_name 2) hl7 (dts_ofStrs cs) (ea_cons (ed_str (i := "main")) ea_nil) (by rw [List.length_map]; omega)) fun ds e => by rw [e, List.map_append]; rfl) fun rl H8 ss us hrl c8 ess hrl8 hds8 => ?_
  subst ess
  have nrl : rl ∉ [fd, lf] := fun z => by
    rcases List.mem_cons.mp z with z | z
    · exact (F7.nf hrl).1 z.symm
    · rw [List.mem_singleton.mp z, hf7] at hrl
      cases hrl
  refine ⟨fun i σ2 H' => ∃ (rts : List (Str × List Blk)) (us : List V) (u4 u5 u6 u7 u8 u9 u10 u11 u12 : Option V), σ2 = [some (.ref fd), some vo, some (.ref lc), some (.ref lf), u4, u5, u6, u7, u8, u9, u10, u11, u12, none] ∧ Chg T [fd, lf] H8 H' ∧ FeedAt H' fd cl (t + 20 + 250 * i) ∧ H' lf = some (.lst us) ∧ DTs K H' us (rts.map rtD) ∧ rts.map (·.1) = (cs ++ mainL).take i ∧ (∀ x ∈ rts, OkRt ob cs x.2) ∧ us.length = rts.length,
    ⟨[], [], none, none, none, none, none, none, none, none, none, rfl, .refl, (F7.keep c8).le (by omega), c8.get hf7, .nil, rfl, (fun x hx => by cases hx), rfl⟩, fun i σ2 H' ⟨_, _, _, _, _, _, _, _, _, _, _, _, cg, _⟩ => ⟨cg.tup, cg.get hrl8 nrl⟩, ?_, ?_⟩
  · rintro i d σ2 H9 hd ⟨rts, us9, u4, u5, u6, u7, u8, u9, u10, u11, u12, rfl, c9, F9, hf9, hd9, hn9, hok9, hul9⟩ v1 hv1
    rw [List.getElem?_map] at hd
    obtain ⟨rn, hrn, rfl⟩ := Option.map_eq_some_iff.mp hd
    have hi3 : i < 3 := by
      have := (List.getElem?_eq_some_iff.mp hrn).1
      rw [List.length_append] at this
      simp only [List.length_cons, List.length_nil] at this
      omega
    have hv1 := hv1.inv_str
    subst hv1
    have ho9 : DT K H9 vo (.tuple (ob.map obD)) := c9.dt (c8.dt ho7)
    have hl9 : H9 lc = some (.lst (cs.map V.str)) := c9.get (c8.get hl7) (fun z => by
      rcases List.mem_cons.mp z with z | z
      · exact n1 z.symm
      · exact n5 (List.mem_singleton.mp z))
    -- many, blocks
    refine ws_parV 5 6 k (wA_cons (wE_iadd (wE_draw (m := 3) (T := T) Gd k (ev_name 0) ed_int .refl F9 (by omega) (by omega) (by omega) fun rm H10 hrm c10 F10 => ⟨_, rfl, wA_cons ((el_lst (T := T) ea_nil).go .refl fun lb H11 us2 ds2 hlb c11 hb11 eds2 hds2 _ => wA_nil ⟨_, _, rfl, ?_⟩)⟩)))
    subst eds2
    cases hds2
    rw [show (1 : Int) + (rm : Int) = ((1 + rm : Nat) : Int) by rw [Int.natCast_add]; rfl]
    generalize hM : 1 + rm = many
    have hM1 : 1 ≤ many := by omega
    have hM3 : many ≤ 3 := by omega
    obtain ⟨n6, n7⟩ := F10.nf hlb
    have hf10 : H10 lf = some (.lst us9) := c10.get hf9 (by simpa using fun z => n3 z.symm)
    have hl10 : H10 lc = some (.lst (cs.map V.str)) := c10.get hl9 (by simpa using fun z => n1 z.symm)
    have n8 : lf ≠ lb := fun z => by
      rw [← z, hf10] at hlb
      cases hlb
    have n9 : lc ≠ lb := fun z => by
      rw [← z, hl10] at hlb
      cases hlb
    have F11 := F10.keep c11
    have hf11 := c11.get hf10
    have hl11 := c11.get hl10
    have ho11 : DT K H11 vo (.tuple (ob.map obD)) := c11.dt (c10.dt ho9)
    refine ws_forR 7 k B.range (EvD.go (T := T) (ed_name 5 (.int (many : Int))) .refl fun vm H12 c12 hvm => ⟨many, hvm.inv_int, by omega, fun i2 σ3 H' => ∃ (bs : List Blk) (us : List V) (u7 u8 u9 u10 u11 u12 : Option V), σ3 = [some (.ref fd), some vo, some (.ref lc), some (.ref lf), some (.str rn), some (.int many), some (.ref lb), u7, u8, u9, u10, u11, u12, none] ∧ Chg T [fd, lb] H12 H' ∧ FeedAt H' fd cl (t + 21 + 250 * i + 80 * i2) ∧ H' lb = some (.lst us) ∧ DTs K H' us (bs.map Blk.d) ∧ bs.length = i2 ∧ us.length = i2 ∧ ∀ b ∈ bs, ∀ c, ForC ob cs c → OkBlk c many b,
      ⟨[], [], u7, u8, u9, u10, u11, u12, rfl, .refl, (F11.keep c12).le (by omega), c12.get hb11, .nil, rfl, rfl, fun b hb => by cases hb⟩, ?_, ?_⟩)
    · rintro i2 σ3 H13 hi2 ⟨bs, us13, w7, w8, w9, w10, w11, w12, rfl, c13, F13, hb13, hd13, hbl, hul, hok⟩
      have ho13 : DT K H13 vo (.tuple (ob.map obD)) := c13.dt (c12.dt ho11)
      have hl13 : H13 lc = some (.lst (cs.map V.str)) := c13.get (c12.get hl11) (fun z => by
        rcases List.mem_cons.mp z with z | z
        · exact n1 z.symm
        · exact n9 (List.mem_singleton.mp z))
      -- rows
      refine ws_set 8 k (wE.of (pe_callTy call_tupleP rfl B.tuple (by decide +kernel) (pa_cons peW pa_nil rfl) (by decide) (by decide) rfl (by rfl)) (wE_lc (T := T) (own := [("_law_k", 13)]) (tt := tYes) (g := gName 13) k (blkOk_by rfl) (pi_range1 rfl B.range paW rfl) (fun s Hs C cl fp => pg_name (blkC_ok k).nd rfl (.inl rfl) (.inr rfl)) (fun _ _ _ _ _ => pts_nil) (wA_cons (wE_draw (m := 4) (T := T) Gd k (ev_name 0) ed_int .refl F13 (by omega) (by omega) (by omega) fun r4 H14 hr4 c14 F14 => wA_nil ?_))))
      have ho14 : DT K H14 vo (.tuple (ob.map obD)) := c14.dt ho13
      have hl14 : H14 lc = some (.lst (cs.map V.str)) := c14.get hl13 (by simpa using fun z => n1 z.symm)
      refine ⟨(r4 : Int), rfl, by omega, by omega, (r4 : Int).toNat, _, _, walk_range, fun i3 us H' => ∃ ops : List Op, Chg T [fd] H14 H' ∧ FeedAt H' fd cl (t + 22 + 250 * i + 80 * i2 + 20 * i3) ∧ DTs K H' us (ops.map Op.d) ∧ ops.length = i3 ∧ us.length = i3 ∧ i3 ≤ r4 ∧ ∀ op ∈ ops, ∀ c, ForC ob cs c → OkRow c op, [fd],
        ⟨[], .refl, F14.le (by omega), .nil, rfl, rfl, by omega, fun op hop => by cases hop⟩, fun x hx => ?_, ?_, ?_, ?_, ?_⟩
      · rw [List.mem_singleton.mp hx]
        obtain ⟨_, _, _, _, e1, _⟩ := F14.ex
        rw [e1]
        simp
      · rintro D' i3 us H15 H16 hD ⟨ops, c15, F15, h1, h2, h3, h4, h5⟩ c16
        obtain ⟨z1, z2⟩ := F14.nf hD
        exact ⟨ops, Chg.fresh' (S' := [fd, D']) .refl ((c15.mono fun b hb => by rw [List.mem_singleton.mp hb]; simp).trans (c16.mono fun b hb => by rw [List.mem_singleton.mp hb]; simp)) (fun x hx => by
          rcases List.mem_cons.mp hx with z | z
          · exact .inl (by rw [z]; simp)
          · exact .inr (by rw [List.mem_singleton.mp z]; exact hD)), F15.keep c16 (by simpa using z1) (by simpa using z2), c16.dts h1, h2, h3, h4, h5⟩
      · rintro i3 us H15 ⟨ops, _, _, _, _, h3, h4, _⟩
        exact ⟨trivial, by omega⟩
      · rintro i3 us x H15 H16 hi3' ⟨ops, c15, F15, h1, h2, h3, h4, h5⟩ ⟨rfl, rfl⟩ Out Skip hO hS
        refine ⟨rfl, ?_⟩
        show bE _ _ _ _ H16 _
        intro s' Hs C cl' fp
        have hi3r : i3 < r4 := by have : i3 < (r4 : Int).toNat := hi3'; omega
        refine wE_cl Gr (blkC_ok k) (wA_cons (EvV.go (T := T) (ev_name 0) .refl fun H17 c17 => wA_cons (EvD.go (T := T) (ed_name 1 (c17.dt (c15.dt ho14))) .refl fun y1 H18 c18 hy1 => wA_cons (EvV.go (T := T) (ev_name 2) .refl fun H19 c19 => wA_nil ⟨fd, cl, lc, t + 22 + 250 * i + 80 * i2 + 20 * i3, y1, ob, cs, rfl, F15.keep ((c17.trans c18).trans c19), by omega, oo, c19.dt hy1, ?_, hcz, fun v H20 op hop c20 F20 hv => ?_⟩))))
        · exact ((c17.trans c18).trans c19).get (c15.get hl14 (by simpa using fun z => n1 z.symm))
        · have cc : Chg T [fd] H16 H20 := ((c17.trans c18).trans c19).then_ c20
          refine hO v H20 cc ⟨ops ++ [op], c15.trans cc, F20.le (by omega), ?_, by rw [List.length_append, h2]; rfl, by rw [List.length_append, h3]; rfl, by omega, fun o ho => ?_⟩
          · rw [List.map_append]
            exact (cc.dts h1).app (.one hv)
          · rcases List.mem_append.mp ho with z | z
            · exact h5 o z
            · rw [List.mem_singleton.mp z]
              exact hop
      · rintro L us H15 hL c15 hL15 ⟨ops, c15', F15, h1, h2, h3, h4, h5⟩
        refine ⟨L, us, rfl, SqL.of hL15, fun tp2 o2 htp2 ho2 => ?_⟩
        have c16 : Ex T H15 (upd H15 tp2 (.frz o2 (.tup us))) := .new htp2
        have hrows : DT K (upd H15 tp2 (.frz o2 (.tup us))) (.ref tp2) (.tuple (ops.map Op.d)) := .new htp2 ho2 h1
        generalize upd H15 tp2 (.frz o2 (.tup us)) = H16 at *
        have hi3z : (r4 : Int).toNat = r4 := by omega
        rw [hi3z] at F15 h2 h3
        have F16 : FeedAt H16 fd cl (t + 82 + 250 * i + 80 * i2) := (F15.keep c16).le (by omega)
        have c1316 : Chg T [fd] H13 H16 := (c14.trans c15).and_ c16
        -- way, one, other
        refine wS_cons (ps_par3 (i := 9) (j := 10) (l := 11) k.calm k.nd rfl rfl rfl (by decide) (by decide) (by decide) rfl rfl rfl paW rfl) (wA_cons (wE_draw (m := 4) (T := T) Gd k (ev_name 0) ed_int .refl F16 (by omega) (by omega) (by omega) fun r9 H17 hr9 c17 F17 => wA_cons (wE_draw (m := many) (T := T) Gd k (ev_name 0) (ed_name 5 (.int _)) .refl F17 (by omega) (by omega) (by omega) fun r10 H18 hr10 c18 F18 => wA_cons (wE_draw (m := many) (T := T) Gd k (ev_name 0) (ed_name 5 (.int _)) .refl F18 (by omega) (by omega) (by omega) fun r11 H19 hr11 c19 F19 => wA_nil ⟨_, _, _, rfl, ?_⟩))))
        have c1619 : Chg T [fd] H16 H19 := (c17.trans c18).trans c19
        -- end
        refine ws_set 12 k (wE.of (pe_ix ix_list peW peW (fun _ _ => rfl)) (wE.of (pe_lst paW) (wA_cons (EvD.go (T := T) (d := (Op.go r10).d) (EvD.is (ed_tup (ea_cons ed_str (ea_cons (ed_name 10 (.int (r10 : Int))) ea_nil))) rfl) .refl fun y1 H20 c20 hy1 => wA_cons (wE_tup (wA_cons (EvD.go (T := T) (ed_str (i := "if")) .refl fun z1 H21 c21 hz1 => wA_cons (wE_cl Go k (wA_cons (EvV.go (T := T) (ev_name 0) .refl fun H22 c22 => wA_nil ⟨fd, cl, t + 85 + 250 * i + 80 * i2, rfl, (F19.keep ((c20.trans c21).trans c22)).le (by omega), by omega, fun z2 H23 o3 ho3 c23 F23 hz2 => wA_cons (EvD.go (T := T) (ed_name 10 (.int (r10 : Int))) .refl fun z3 H24 c24 hz3 => wA_cons (EvD.go (T := T) (ed_name 11 (.int (r11 : Int))) .refl fun z4 H25 c25 hz4 => wA_nil ⟨by show 4 ≤ sizeLine; decide, fun p3 o4 hp3 ho4 => ?_⟩))⟩))))))))))
        have c26 : Ex T H25 (upd H25 p3 (.frz o4 (.tup [z1, z2, z3, z4]))) := .new hp3
        have hif : DT K (upd H25 p3 (.frz o4 (.tup [z1, z2, z3, z4]))) (.ref p3) (Op.iff o3 r10 r11).d := .new hp3 ho4 (ds := [.str "if", o3.d, .int (r10 : Int), .int (r11 : Int)]) (.cons ((c24.trans c25).dt (c23.dt (c22.dt hz1))) (.cons ((c24.trans c25).dt hz2) (.cons (c25.dt hz3) (.one hz4))))
        generalize upd H25 p3 (.frz o4 (.tup [z1, z2, z3, z4])) = H26 at *
        have c2026 : Chg T [fd] H20 H26 := ((c21.trans c22).then_ c23).and_ ((c24.trans c25).trans c26)
        refine wA_cons (EvD.go (T := T) (d := Op.back.d) (EvD.is (ed_tup (ea_cons ed_str ea_nil)) rfl) .refl fun y3 H27 c27 hy3 => wA_cons (EvD.go (T := T) (d := Op.back.d) (EvD.is (ed_tup (ea_cons ed_str ea_nil)) rfl) .refl fun y4 H28 c28 hy4 => wA_nil ⟨by show 4 ≤ sizeLine; decide, fun rl2 hrl2 => ?_⟩))
        have c29 : Ex T H28 (upd H28 rl2 (.lst [y1, .ref p3, y3, y4])) := .new hrl2
        have e29 : (upd H28 rl2 (.lst [y1, .ref p3, y3, y4])) rl2 = some (.lst [y1, .ref p3, y3, y4]) := upd_same
        have hends : DTs K (upd H28 rl2 (.lst [y1, .ref p3, y3, y4])) [y1, .ref p3, y3, y4] [(Op.go r10).d, (Op.iff o3 r10 r11).d, Op.back.d, Op.back.d] := .cons ((c27.trans (c28.trans c29)).dt (c2026.dt hy1)) (.cons ((c27.trans (c28.trans c29)).dt hif) (.cons ((c28.trans c29).dt hy3) (.one (c29.dt hy4))))
        generalize upd H28 rl2 (.lst [y1, .ref p3, y3, y4]) = H29 at *
        refine EvD.go (T := T) (ed_name 9 (.int (r9 : Int))) .refl fun vi H30 c30 hvi => ?_
        have hpick : ∃ op : Op, OkEnd many op ∧ ([(Op.go r10).d, (Op.iff o3 r10 r11).d, Op.back.d, Op.back.d] : List PyData)[r9]? = some op.d := by
          have : r9 = 0 ∨ r9 = 1 ∨ r9 = 2 ∨ r9 = 3 := by omega
          rcases this with rfl | rfl | rfl | rfl
          · exact ⟨.go r10, hr10, rfl⟩
          · exact ⟨.iff o3 r10 r11, ⟨ho3, hr10, hr11⟩, rfl⟩
          · exact ⟨.back, trivial, rfl⟩
          · exact ⟨.back, trivial, rfl⟩
        obtain ⟨op, hop, hpd⟩ := hpick
        obtain ⟨ue, hue, hued⟩ := hends.at_ hpd
        refine ⟨rl2, _, (r9 : Int), ue, rfl, hvi.inv_int, SqL.of (c30.get e29), atI_nat hue, ?_⟩
        have c2630 : Ex T H26 H30 := ((c27.trans c28).trans c29).trans c30
        have c1930 : Chg T [fd] H19 H30 := (c20.then_ c2026).and_ c2630
        have c1330 : Chg T [fd] H13 H30 := (c1316.trans c1619).trans c1930
        have F30 : FeedAt H30 fd cl (t + 87 + 250 * i + 80 * i2) := (F23.keep (((c24.trans c25).trans c26).trans c2630)).le (by omega)
        have hb30 : H30 lb = some (.lst us13) := c1330.get hb13 (by simpa using fun z => n6 z.symm)
        -- blocks.append
        generalize hcond : (decide ((i2 : Int) + 1 < (many : Int)) || decide ((r9 : Int) = 1)) = cond
        have hend : OkEnd many (if cond = true then op else .back) := by
          split
          · exact hop
          · exact trivial
        refine ws_appW (T := T) (ev_name 6) hb30 fun H31 c31 => EvD.go (T := T) (d := Blk.d (ops, if cond = true then op else .back)) (EvD.is (ed_tup (ea_cons (ed_name 8 ((c1619.trans c1930).dt hrows)) (ea_cons (ed_if (k := cond) (d := (if cond = true then op else .back).d) (EvT.is (et_or (et_cmp (ec_lt (ed_add (ed_name 7 (.int (i2 : Int))) ed_int) (ed_name 5 (.int (many : Int))))) fun _ => et_cmp (ec_eqI (ed_name 9 (.int (r9 : Int))) ed_int)) hcond) (fun z => EvD.is (ed_name 12 (c30.dt hued)) (by rw [if_pos z])) fun z => EvD.is (ed_tup (ea_cons ed_str ea_nil)) (by rw [if_neg (by rw [z]; decide)]; rfl)) ea_nil))) rfl) c31 fun vb H32 c32 hvb => ⟨us13, (c31.trans c32).get hb30, by omega, ?_⟩
        have c3032 := c31.trans c32
        have c33 : Chg T [lb] H32 (upd H32 lb (.lst (us13 ++ [vb]))) := .set (c3032.get hb30) wr_lst (by simp)
        refine wS_nil ⟨bs ++ [(ops, if cond = true then op else .back)], us13 ++ [vb], _, _, _, _, _, _, rfl, ?_, ?_, upd_same, ?_, by rw [List.length_append, hbl]; rfl, by rw [List.length_append, hul]; rfl, fun b hb => ?_⟩
        · exact (c13.trans ((c1330.and_ c3032).mono fun b hb => by rw [List.mem_singleton.mp hb]; simp)).trans (c33.mono fun b hb => by rw [List.mem_singleton.mp hb]; simp)
        · exact ((F30.keep c3032).keep c33 (by simpa using n6) (by simpa using n7)).le (by omega)
        · rw [List.map_append]
          exact (c33.dts ((c1330.and_ c3032).dts hd13)).app (.one (c33.dt hvb))
        · rcases List.mem_append.mp hb with z | z
          · exact hok b z
          · rw [List.mem_singleton.mp z]
            exact fun c hc => ⟨by show ops.length ≤ 3; omega, fun o ho => h5 o ho c hc, hend⟩
    · rintro σ3 H13 ⟨bs, us13, w7, w8, w9, w10, w11, w12, rfl, c13, F13, hb13, hd13, hbl, hul, hok⟩
      have hf13 : H13 lf = some (.lst us9) := c13.get (c12.get hf11) (fun z => by
        rcases List.mem_cons.mp z with z | z
        · exact n3 z.symm
        · exact n8 (List.mem_singleton.mp z))
      refine ws_appW (T := T) (ev_name 3) hf13 fun H14 c14 => EvD.go (T := T) (d := rtD (rn, bs)) (EvD.is (ed_tup (ea_cons (ed_name 4 (.str rn)) (ea_cons (ed_tupL B.tuple (ev_name 6) hb13 hd13) ea_nil))) rfl) c14 fun vr H15 c15 hvr => ⟨us9, (c14.trans c15).get hf13, ?_, ?_⟩
      · have := congrArg List.length hn9
        rw [List.length_map, List.length_take] at this
        omega
      have c16 : Chg T [lf] H15 (upd H15 lf (.lst (us9 ++ [vr]))) := .set ((c14.trans c15).get hf13) wr_lst (by simp)
      have c915 : Chg T [fd] H9 H15 := by
        have := (((c10.and_ (c11.trans c12)).mono (S' := [fd, lb]) fun b hb => by rw [List.mem_singleton.mp hb]; simp).trans c13).and_ (c14.trans c15)
        refine Chg.fresh' (S := [fd]) (T := T) (H := H9) .refl this fun x hx => ?_
        rcases List.mem_cons.mp hx with z | z
        · exact .inl (by rw [z]; simp)
        · exact .inr (by rw [List.mem_singleton.mp z]; exact c10.back lb hlb)
      refine wS_nil ⟨rts ++ [(rn, bs)], us9 ++ [vr], _, _, _, _, _, _, _, _, _, rfl, ?_, ?_, upd_same, ?_, ?_, fun x hx => ?_, by rw [List.length_append, List.length_append, hul9]; rfl⟩
      · exact (c9.trans (c915.mono fun b hb => by rw [List.mem_singleton.mp hb]; simp)).trans (c16.mono fun b hb => by rw [List.mem_singleton.mp hb]; simp)
      · exact ((F13.keep (c14.trans c15)).keep c16 (by simpa using n3) (by simpa using n4)).le (by omega)
      · rw [List.map_append]
        exact (c16.dts (c915.dts hd9)).app (.one (c16.dt hvr))
      · rw [List.map_append, hn9, List.take_succ, hrn]
        rfl
      · rcases List.mem_append.mp hx with z | z
        · exact hok9 x z
        · rw [List.mem_singleton.mp z]
          exact ⟨by show 1 ≤ bs.length; omega, by show bs.length ≤ 3; omega, fun b hb c hc => by
            show OkBlk c bs.length b
            rw [hbl]
            exact hok b hb c hc⟩
  · rintro σ2 H9 ⟨rts, us9, u4, u5, u6, u7, u8, u9, u10, u11, u12, rfl, c9, F9, hf9, hd9, hn9, hok9, hul9⟩
    rw [List.length_map] at hn9 F9
    rw [List.take_length] at hn9
    have hlen : (cs ++ mainL).length ≤ 3 := by
      rw [List.length_append]
      simp only [List.length_cons, List.length_nil]
      omega
    refine ws_ret (T := T) (d := (⟨ob, rts⟩ : Code).d) (EvD.is (ed_tup (ea_cons (ed_name 1 (c9.dt (c8.dt ho7))) (ea_cons (ed_tupL B.tuple (ev_name 3) hf9 hd9) ea_nil))) rfl) fun v H10 c10 hv => ?_
    refine q v H10 ⟨ob, rts⟩ (plan_ok oo hcs hn9 hok9) ?_ ((F9.keep c10).le (by omega)) hv
    have := ((d7.and_ c8).mono (S' := [fd, lf]) fun b hb => by rw [List.mem_singleton.mp hb]; simp).trans (c9.and_ c10)
    refine Chg.fresh' (S := [fd]) (T := T) (H := H) .refl this fun x hx => ?_
    rcases List.mem_cons.mp hx with z | z
    · exact .inl (by rw [z]; simp)
    · exact .inr (by rw [List.mem_singleton.mp z]; exact d5.back lf hlf)
end
end K7
/-! ## M1G -/
set_option Elab.async false
set_option linter.all false
set_option maxRecDepth 100000
set_option maxHeartbeats 4000000
/-! beginning. -/
namespace K7
open PySem PySem.Spec PyProof.Rows L2
section
variable {T : List (Addr × Str)} {X : Cx} {σ : L2.St} {H : Hp} {a b : Expr} {n : Nat} {pos p p1 p2 p3 : Pos} {D : Ends} {rest yes no : List Stmt}
/-- if draw(feed, many) == 0 -/
theorem ws_ifD {fd cl : Addr} {t : Int} {m j jj : Nat} (G : GDef X.prog X.w X.K X.mg X.base j "_law_draw" (spDraw T)) (c : Cok n X) (ha : EvV T X a σ H (.ref fd)) (hb : EvD T X b σ H (.int m)) (F : FeedAt H fd cl t) (ht : t ≤ 100000) (h1 : 1 ≤ m) (hm : m ≤ 1000)
    (q : ∀ (r : Nat) H', r < m → Chg T [fd] H H' → FeedAt H' fd cl (t + 1) → wS X (if r = 0 then yes else no) { D with nx := wS X rest D } σ H') (hj : j ≤ n := by omega) (hg : Gl X "_law_draw" := by rfl) (he : starEach [a, b] X.env = (false, eval a X.env) :: starEach [b] X.env := by rfl) (he2 : starEach [b] X.env = (false, eval b X.env) :: starEach [] X.env := by rfl) (hpl : (backTo p1 (starEach [b] X.env)).any (·.1) = false := by rfl)
    (hbm : behindInMarks .Eq (.Constant (.int 0) jj p2) = false := by first | exact nobehind _ (by decide) (by decide) | rfl) :
    wS X (.If (.Compare (.Call (.Name "_law_draw" p) [a, b] [] p1) [.Eq] [.Constant (.int 0) jj p2] p3) yes no pos :: rest) D σ H :=
  wS_cons (ps_if ptW pssW pssW) (wT.of (pt_cmpR op_eq peW pe_int hbm) (wE_draw G c ha hb .refl F ht h1 hm (fun r H' hr c1 F1 => by
    have hq := q r H' hr c1 F1
    refine ⟨rfl, _, rfl, ?_⟩
    by_cases hr0 : r = 0
    · rw [if_pos hr0] at hq
      subst hr0
      exact hq
    · rw [if_neg hr0] at hq
      have : decide (V.int (r : Int) = V.int 0) = false := by
        rw [decide_eq_false_iff_not]
        intro z
        injection z with z
        omega
      rw [this]
      exact hq) hj hg he he2 hpl))
end
theorem nums_5 {r : Nat} (h : r < 5) : ∃ i : Int, ([.int 0, .int 1, .int 2, .int (-1), .int ((10 : Int) ^ ((9 : Int).toNat))] : List PyData)[r]? = some (.int i) := by
  have : r = 0 ∨ r = 1 ∨ r = 2 ∨ r = 3 ∨ r = 4 := by omega
  rcases this with rfl | rfl | rfl | rfl | rfl <;> exact ⟨_, rfl⟩
abbrev ijqx : List Str := ["i", "j", "q", "x"]
section
variable {P : Program} {w : World} {K : PySem.W.Frag} {mg : Str → Option Value} {base : Heap} {T : List (Addr × Str)}
theorem sc_beginning : FnScope ["_law_feed_here", "_law_plan_here", "_law_known", "_law_stored_now", "_law_own", "_law_size", "_law_k"] ["_law_feed_here", "_law_plan_here"] (defScope (top 59)) := ⟨rfl, rfl, rfl, by decide +kernel, rfl, by decide +kernel, by decide +kernel⟩
def spBegin (K : PySem.W.Frag) (T : List (Addr × Str)) : Sp' := fun vs H Q => ∃ (fd cl : Addr) (t : Int) (vp : V) (c : Code), vs = [.ref fd, vp] ∧ FeedAt H fd cl t ∧ t ≤ 80000 ∧ OkCode c ∧ DT K H vp c.d ∧ ∀ v H' s, OkStart c s → Chg T [fd] H H' → FeedAt H' fd cl (t + 40) → DT K H' v (startD s) → Q v H'
theorem g_beginning (F : At K mg "_law_beginning" 59) (B : Blt mg) (Gd : GDef P w K mg base 1 "_law_draw" (spDraw T)) : GDef P w K mg base 2 "_law_beginning" (spBegin K T) := by
  refine F.ok sc_beginning (fun _ _ _ _ _ _ us hl => match us, hl with | [_, _], _ => rfl) (fun vs H Q ⟨fd, cl, t, vp, c, e, _⟩ => by rw [e]; rfl) fun f cdv Ar outer s H vs Q k ⟨fd, cl, t, vp, c, e, Fd, ht, oc, hp, q⟩ => ?_
  subst e
  have nfc := Fd.ne
  refine ws_ifD (m := 4) (T := T) Gd k (ev_name 0) ed_int Fd (by omega) (by omega) (by omega) fun r0 H1 _ c1 F1 => ?_
  by_cases hr0 : r0 = 0
  · rw [if_pos hr0]
    exact ws_ret (T := T) (d := startD none) (EvD.is ed_non rfl) fun v H2 c2 hv => q v H2 none ⟨List.nodup_nil, Nat.zero_le _, Nat.zero_le _⟩ (c1.and_ c2) ((F1.keep c2).le (by omega)) hv
  rw [if_neg hr0]
  refine wS_nil ?_
  refine ws_parV 2 3 k (wA_cons ((el_lst (T := T) ea_nil).go .refl fun lk H2 us ds hlk c2 hk2 eds hds _ => wA_cons ((el_lst (T := T) ea_nil).go .refl fun ls H3 us2 ds2 hls c3 hs3 eds2 hds2 _ => wA_nil ⟨_, _, rfl, ?_⟩)))
  subst eds
  subst eds2
  cases hds
  cases hds2
  have F2 := F1.keep c2
  obtain ⟨n1, n2⟩ := F1.nf hlk
  obtain ⟨n3, n4⟩ := F2.nf hls
  have n5 : lk ≠ ls := fun z => by
    rw [← z, hk2] at hls
    cases hls
  have F3 := F2.keep c3
  have hk3 := c3.get hk2
  have d3 : Chg T [fd] H H3 := c1.and_ (c2.trans c3)
  have fresh : ∀ {H'}, Chg T [fd, lk, ls] H3 H' → Chg T [fd] H H' := fun c => by
    refine Chg.fresh' (S' := [fd, lk, ls]) (T := T) (H := H) .refl ((d3.mono fun b hb => by rw [List.mem_singleton.mp hb]; simp).trans c) fun x hx => ?_
    simp only [List.mem_cons, List.mem_nil_iff, or_false] at hx
    rcases hx with z | z | z
    · rw [z]; exact .inl (by simp)
    · rw [z]; exact .inr (c1.back lk hlk)
    · rw [z]; exact .inr ((c1.and_ c2).back ls hls)
  refine ws_forT (T := T) (ss := ijqx.map .str) 4 k (ed_tup (ea_cons ed_str (ea_cons ed_str (ea_cons ed_str (ea_cons ed_str ea_nil))))) fun H4 c4 => ⟨fun i σ2 H' => ∃ (nms : List (Str × Int)) (us : List V) (u4 : Option V), σ2 = [some (.ref fd), some vp, some (.ref lk), some (.ref ls), u4, none, none] ∧ Chg T [fd, lk, ls] H4 H' ∧ FeedAt H' fd cl (t + 1 + 2 * i) ∧ H' lk = some (.lst us) ∧ DTs K H' us (nms.map nmD) ∧ H' ls = some (.lst []) ∧ (nms.map (·.1)).Sublist (ijqx.take i) ∧ i ≤ 4,
    ⟨[], [], none, rfl, .refl, (F3.keep c4).le (by omega), c4.get hk3, .nil, c4.get hs3, .slnil, by omega⟩, fun i σ2 H' ⟨_, _, _, _, cg, _⟩ => cg.tup, ?_, ?_⟩
  · rintro i d v σ2 H5 hd ⟨nms, us, u4, rfl, c5, F5, hk5, hd5, hs5, hsub, hi4⟩ hv
    rw [List.getElem?_map] at hd
    obtain ⟨x, hx, rfl⟩ := Option.map_eq_some_iff.mp hd
    have hv := hv.inv_str
    subst hv
    have hi : i < 4 := (List.getElem?_eq_some_iff.mp hx).1
    refine ws_ifD (m := 2) (T := T) Gd k (ev_name 0) ed_int F5 (by omega) (by omega) (by omega) fun r5 H6 _ c6 F6 => ?_
    have hk6 : H6 lk = some (.lst us) := c6.get hk5 (by simpa using fun z => n1 z.symm)
    have hs6 : H6 ls = some (.lst []) := c6.get hs5 (by simpa using fun z => n3 z.symm)
    have htake : ijqx.take (i + 1) = ijqx.take i ++ [x] := take_snoc hx
    by_cases hr5 : r5 = 0
    · rw [if_pos hr5]
      refine ws_appW (T := T) (ev_name 2) hk6 fun H7 c7 => wE_tup (wA_cons (EvD.go (T := T) (ed_name 4 (.str x)) c7 fun y1 H8 c8 hy1 => wA_cons (wE_ixLst (T := T) (ea_cons ed_int (ea_cons ed_int (ea_cons ed_int (ea_cons (ed_neg ed_int) (ea_cons (ed_pow ed_int ed_int (by decide)) ea_nil))))) (by simp) .refl fun H9 c9 => wE_draw (m := 5) (T := T) Gd k (ev_name 0) ed_int .refl (F6.keep ((c7.trans c8).trans c9)) (by omega) (by omega) (by omega) fun r9 H10 hr9 c10 F10 => ?_)))
      obtain ⟨i9, hi9⟩ := nums_5 hr9
      refine ⟨r9, .int i9, rfl, hi9, fun r us h h0 => c10.get h (by simpa using fun z => ((F6.keep (c7.trans c8)).nf h0).1 z.symm), c10.tup, fun u hu => wA_nil ⟨by show 2 ≤ sizeLine; decide, fun p o hp' ho => ?_⟩⟩
      have c11 : Ex T H10 (upd H10 p (.frz o (.tup [y1, u]))) := .new hp'
      have hnm : DT K (upd H10 p (.frz o (.tup [y1, u]))) (.ref p) (nmD (x, i9)) := .new hp' ho (ds := [.str x, .int i9]) (.cons (c10.dt (c9.dt hy1)) (.one hu))
      generalize upd H10 p (.frz o (.tup [y1, u])) = H11 at *
      have c611 : Chg T [fd] H6 H11 := (((c7.trans c8).trans c9).then_ c10).and_ c11
      have hk11 : H11 lk = some (.lst us) := c611.get hk6 (by simpa using fun z => n1 z.symm)
      have hs11 : H11 ls = some (.lst []) := c611.get hs6 (by simpa using fun z => n3 z.symm)
      have hsz : us.length ≤ 4 := by
        rw [hd5.len, List.length_map]
        have := hsub.length_le
        rw [List.length_map, List.length_take] at this
        omega
      refine ⟨us, hk11, by omega, ?_⟩
      have c12 : Chg T [lk] H11 (upd H11 lk (.lst (us ++ [.ref p]))) := .set hk11 wr_lst (by simp)
      refine wS_nil (wS_nil ⟨nms ++ [(x, i9)], us ++ [.ref p], _, rfl, ?_, ?_, upd_same, ?_, c12.get hs11 (by simpa using fun z => n5 z.symm), ?_, by omega⟩)
      · exact (c5.trans ((c6.trans c611).mono fun b hb => by rw [List.mem_singleton.mp hb]; simp)).trans (c12.mono fun b hb => by rw [List.mem_singleton.mp hb]; simp)
      · exact ((F10.keep c11).keep c12 (by simpa using n1) (by simpa using n2)).le (by omega)
      · rw [List.map_append]
        exact (c12.dts ((c6.trans c611).dts hd5)).app (.one (c12.dt hnm))
      · rw [htake, List.map_append]
        exact hsub.append (.refl _)
    · rw [if_neg hr5]
      refine wS_nil (wS_nil ⟨nms, us, _, rfl, c5.trans (c6.mono fun b hb => by rw [List.mem_singleton.mp hb]; simp), F6.le (by omega), hk6, c6.dts hd5, hs6, ?_, by omega⟩)
      rw [htake]
      exact hsub.trans (List.sublist_append_left _ _)
  · rintro σ2 H5 ⟨nms, us, u4, rfl, c5, F5, hk5, hd5, hs5, hsub, hi4⟩
    have c35 : Chg T [fd, lk, ls] H3 H5 := c4.any.trans c5
    have hnd : (nms.map (·.1)).Nodup := by
      rw [show (ijqx.map PyData.str).length = 4 from rfl] at hsub
      exact hsub.nodup (by decide +kernel)
    have hnl : nms.length ≤ 4 := by
      have := hsub.length_le
      rw [List.length_map, List.length_take] at this
      omega
    have ol := oc.len
    refine ws_forT2 (T := T) (ss := c.objs.map obD) 4 5 k (EvD.is (ed_at0 (ed_name 1 ((fresh c35).dt hp))) rfl) fun H6 c6 => ⟨fun i σ2 H' => ∃ (cls : List (Cell × Int)) (us' : List V) (u4 u5 u6 : Option V), σ2 = [some (.ref fd), some vp, some (.ref lk), some (.ref ls), u4, u5, u6] ∧ Chg T [fd, ls] H6 H' ∧ FeedAt H' fd cl (t + 9 + 6 * i) ∧ H' ls = some (.lst us') ∧ DTs K H' us' (cls.map ciD) ∧ cls.length ≤ 3 * i,
      ⟨[], [], u4, none, none, rfl, .refl, (F5.keep c6).le (by rw [show (ijqx.map PyData.str).length = 4 from rfl]; omega), c6.get hs5, .nil, by simp⟩, fun i σ2 H' ⟨_, _, _, _, _, _, cg, _⟩ => cg.tup, ?_, ?_⟩
    · rintro i d σ2 H7 hd ⟨cls, us7, w4, w5, w6, rfl, c7, F7, hs7, hd7, hz7⟩
      rw [List.getElem?_map] at hd
      obtain ⟨⟨x, m⟩, hx, rfl⟩ := Option.map_eq_some_iff.mp hd
      have hi : i < c.objs.length := (List.getElem?_eq_some_iff.mp hx).1
      have hm3 : m ≤ 3 := (oc.ws _ (List.mem_of_getElem? hx)).2.2
      refine ⟨.str x, .int (m : Int), rfl, fun v1 v2 g1 g2 => ?_⟩
      have g1 := g1.inv_str
      subst g1
      have g2 := g2.inv_int
      subst g2
      refine ws_forR 6 k B.range (EvD.go (T := T) (ed_name 5 (.int (m : Int))) .refl fun vm H8 c8 hvm => ⟨m, hvm.inv_int, by omega, fun i2 σ3 H' => ∃ (cls : List (Cell × Int)) (us' : List V) (u6 : Option V), σ3 = [some (.ref fd), some vp, some (.ref lk), some (.ref ls), some (.str x), some (.int m), u6] ∧ Chg T [fd, ls] H8 H' ∧ FeedAt H' fd cl (t + 9 + 6 * i + 2 * i2) ∧ H' ls = some (.lst us') ∧ DTs K H' us' (cls.map ciD) ∧ cls.length ≤ 3 * i + i2,
        ⟨cls, us7, w6, rfl, .refl, (F7.keep c8).le (by omega), c8.get hs7, c8.dts hd7, by omega⟩, ?_, ?_⟩)
      · rintro i2 σ3 H9 hi2 ⟨cls9, us9, v6, rfl, c9, F9, hs9, hd9, hz9⟩
        refine ws_ifD (m := 2) (T := T) Gd k (ev_name 0) ed_int F9 (by omega) (by omega) (by omega) fun r10 H10 _ c10 F10 => ?_
        have hs10 : H10 ls = some (.lst us9) := c10.get hs9 (by simpa using fun z => n3 z.symm)
        by_cases hr10 : r10 = 0
        · rw [if_pos hr10]
          refine ws_appW (T := T) (ev_name 3) hs10 fun H11 c11 => wE_tup (wA_cons (EvD.go (T := T) (d := Cell.d (x, i2)) (EvD.is (ed_tup (ea_cons (ed_name 4 (.str x)) (ea_cons (ed_name 6 (.int (i2 : Int))) ea_nil))) rfl) c11 fun y1 H12 c12 hy1 => wA_cons (wE_isub (wE_draw (m := 9) (T := T) Gd k (ev_name 0) ed_int .refl (F10.keep (c11.trans c12)) (by omega) (by omega) (by omega) fun r13 H13 hr13 c13 F13 => ⟨_, rfl, wA_nil ⟨by show 2 ≤ sizeLine; decide, fun p o hp' ho => ?_⟩⟩))))
          have c14 : Ex T H13 (upd H13 p (.frz o (.tup [y1, .int ((r13 : Int) - 4)]))) := .new hp'
          have hci : DT K (upd H13 p (.frz o (.tup [y1, .int ((r13 : Int) - 4)]))) (.ref p) (ciD ((x, i2), (r13 : Int) - 4)) := .new hp' ho (ds := [Cell.d (x, i2), .int ((r13 : Int) - 4)]) (.cons (c13.dt hy1) (.one (.int _)))
          generalize upd H13 p (.frz o (.tup [y1, .int ((r13 : Int) - 4)])) = H14 at *
          have c1014 : Chg T [fd] H10 H14 := ((c11.trans c12).then_ c13).and_ c14
          have hs14 : H14 ls = some (.lst us9) := c1014.get hs10 (by simpa using fun z => n3 z.symm)
          refine ⟨us9, hs14, by rw [hd9.len, List.length_map]; omega, ?_⟩
          have c15 : Chg T [ls] H14 (upd H14 ls (.lst (us9 ++ [.ref p]))) := .set hs14 wr_lst (by simp)
          refine wS_nil (wS_nil ⟨cls9 ++ [((x, i2), (r13 : Int) - 4)], us9 ++ [.ref p], _, rfl, ?_, ?_, upd_same, ?_, by rw [List.length_append]; simp only [List.length_cons, List.length_nil]; omega⟩)
          · exact (c9.trans ((c10.trans c1014).mono fun b hb => by rw [List.mem_singleton.mp hb]; simp)).trans (c15.mono fun b hb => by rw [List.mem_singleton.mp hb]; simp)
          · exact ((F13.keep c14).keep c15 (by simpa using n3) (by simpa using n4)).le (by omega)
          · rw [List.map_append]
            exact (c15.dts ((c10.trans c1014).dts hd9)).app (.one (c15.dt hci))
        · rw [if_neg hr10]
          exact wS_nil (wS_nil ⟨cls9, us9, _, rfl, c9.trans (c10.mono fun b hb => by rw [List.mem_singleton.mp hb]; simp), F10.le (by omega), hs10, c10.dts hd9, by omega⟩)
      · rintro σ3 H9 ⟨cls9, us9, v6, rfl, c9, F9, hs9, hd9, hz9⟩
        exact wS_nil ⟨cls9, us9, _, _, _, rfl, c7.trans (c8.any.trans c9), F9.le (by omega), hs9, hd9, by omega⟩
    · rintro σ2 H7 ⟨cls, us7, w4, w5, w6, rfl, c7, F7, hs7, hd7, hz7⟩
      rw [List.length_map] at F7 hz7
      have hk7 : H7 lk = some (.lst us) := c7.get (c6.get hk5) (fun z => by
        rcases List.mem_cons.mp z with z | z
        · exact n1 z.symm
        · exact n5 (List.mem_singleton.mp z))
      have hd7' : DTs K H7 us (nms.map nmD) := c7.dts (c6.dts hd5)
      refine ws_ret (T := T) (d := startD (some ⟨nms, cls⟩)) (EvD.is (ed_tup (ea_cons (ed_tupL B.tuple (ev_name 2) hk7 hd7') (ea_cons (ed_tupL B.tuple (ev_name 3) hs7 hd7) ea_nil))) rfl) fun v H8 c8 hv => ?_
      refine q v H8 (some ⟨nms, cls⟩) ⟨hnd, hnl, by show cls.length ≤ 20; omega⟩ ?_ ((F7.keep c8).le (by omega)) hv
      exact fresh ((c35.and_ c6).trans ((c7.mono fun b hb => by
        rcases List.mem_cons.mp hb with z | z
        · rw [z]; simp
        · rw [List.mem_singleton.mp z]; simp).and_ c8))
end
end K7
/-! ## M1H -/
set_option Elab.async false
set_option linter.all false
set_option maxRecDepth 100000
set_option maxHeartbeats 4000000
/-! is_right. -/
namespace K7
open PySem PySem.Spec PyProof.Rows L2
theorem findW_perm {κ α : Type} [DecidableEq κ] {l1 l2 : List (κ × α)} (nd : (l1.map (·.1)).Nodup) (pm : l1.Perm l2) (k : κ) : findW l1 k = findW l2 k := by
  have nd2 : (l2.map (·.1)).Nodup := ((pm.map _).nodup_iff).mp nd
  cases h : findW l1 k with
  | some d => exact (findW_of_mem nd2 (pm.mem_iff.mp (findW_some h))).symm
  | none =>
    cases h2 : findW l2 k with
    | none => rfl
    | some d =>
      have := findW_of_mem nd (pm.mem_iff.mpr (findW_some h2))
      rw [h] at this
      cases this
theorem lastS_nd {c : Code} {l : List (Cell × Plc)} (x : Stp) (h : (l.map (·.1)).Nodup) : ((lastS c l x).map (·.1)).Nodup := by
  unfold lastS
  split
  · exact putW_nodup h
  · exact h
theorem lastL_nd (c : Code) (way : List Stp) : ((lastL c way).map (·.1)).Nodup := by
  unfold lastL
  have : ∀ (way : List Stp) (l : List (Cell × Plc)), (l.map (·.1)).Nodup → ((way.foldl (lastS c) l).map (·.1)).Nodup := by
    intro way
    induction way with
    | nil => exact fun l h => h
    | cons x way ih => exact fun l h => ih _ (lastS_nd x h)
  exact this way [] List.nodup_nil
theorem lastL_all {c : Code} {Pr : Plc → Prop} : ∀ {w : List Stp} {l : List (Cell × Plc)}, (∀ e ∈ l, Pr e.2) → (∀ x ∈ w, Pr x.1) → ∀ e ∈ w.foldl (lastS c) l, Pr e.2
  | [], _, h, _ => h
  | x :: w, l, h, hw => by
    refine lastL_all (w := w) (l := lastS c l x) (fun e he => ?_) fun y hy => hw y (List.mem_cons_of_mem _ hy)
    unfold lastS at he
    split at he
    · rcases mem_putW he with z | z
      · rw [z]
        exact hw x (List.mem_cons_self ..)
      · exact h e z
    · exact h e he
theorem lastL_has {c : Code} (oc : OkCode c) {way : List Stp} (good : Good c way) {i : Nat} {e : Cell × Plc} (h : e ∈ lastL c (way.take i)) : PlcB e.2 := by
  refine lastL_all (Pr := PlcB) (w := way.take i) (l := []) (fun e he => by cases he) (fun x hx => ?_) e h
  obtain ⟨j, hj⟩ := List.getElem?_of_mem (List.mem_of_mem_take hx)
  exact oc.has_ok ((st_ok oc rfl (good.take j)).here _ (good j x hj).1)
theorem lastK_nd {l : List (Cell × Plc)} (h : (l.map (·.1)).Nodup) : ((lastK l).map (·.1)).Nodup := by
  unfold lastK
  rw [List.map_map]
  have e : (fun e : List Key × PyData => e.1) ∘ (fun e : Cell × Plc => (cellK e.1, e.2.d)) = fun e : Cell × Plc => cellK e.1 := rfl
  show (l.map ((fun e : List Key × PyData => e.1) ∘ fun e : Cell × Plc => (cellK e.1, e.2.d))).Nodup
  rw [e]
  induction l with
  | nil => exact List.nodup_nil
  | cons p l ih =>
    rw [List.map_cons, List.nodup_cons] at h ⊢
    refine ⟨fun z => ?_, ih h.2⟩
    obtain ⟨q, hq, e⟩ := List.mem_map.mp z
    exact h.1 (List.mem_map.mpr ⟨q, hq, cellK_inj e⟩)
theorem cut_take {ds : List PyData} {i : Nat} (h : i ≤ ds.length) : cutD ds none (some (i : Int)) = ds.take i := by
  unfold cutD
  rw [HT.sIx_nat, HT.sIx_none, List.drop_zero, Nat.sub_zero, Nat.min_eq_left h]
section
variable {T : List (Addr × Str)} {X : Cx} {σ : L2.St} {H : Hp} {a b o i e c0 : Expr} {n : Nat} {pos pt p1 p2 : Pos} {D : Ends} {rest yes : List Stmt}
theorem ed_at0R {j : Nat} {d0 : PyData} (h : EvR T X a σ H (fun d => ∃ ds, d = .tuple ds ∧ ds[0]? = some d0)) : EvD T X (.Subscript a (.Constant (.int 0) j p1) pos) σ H d0 := fun H1 c Q q =>
  wE.of (pe_ix ix_tup peW pe_int (fun _ _ => rfl)) (h H1 c _ fun x H2 d c2 ⟨ds, ed, hd⟩ hx => by
    subst ed
    obtain ⟨p, xs, rfl, s, hxs⟩ := hx.inv_tup
    obtain ⟨v, e2, hv⟩ := at_dts hxs (atI_nat (j := 0) hd)
    exact ⟨p, xs, 0, v, rfl, rfl, s.t, e2, q v H2 c2 hv⟩)
theorem ec_notInStrsR {x : Str} (ha : EvD T X a σ H (.str x)) (hb : EvL T X b σ H (fun ds => ∃ xs : List Str, ds = xs.map .str ∧ x ∈ xs)) : EvC T X .NotIn a b σ H false := fun H1 c1 Q q =>
  ha H1 c1 _ fun u H2 c2 hu => hb H2 (c1.trans c2) _ fun p H3 vs ds hp c3 hl ⟨xs, e, hx⟩ hv hz => by
    subst e
    obtain ⟨i1, i2⟩ := inV_strs (x := x) hv
    rw [hu.inv_str]
    refine ⟨_, op_notIn_seq, p, vs, rfl, .inl (SqL.of hl), rfl, i1, ?_⟩
    rw [i2, decide_eq_true hx]
    exact q H3 (c2.trans c3)
/-- a, b = e, where e's answer is told by R -/
theorem ws_unp2R (i j : Nat) {x y : Str} {kt : Nat} {R : PyData → PyData → Prop} (c : Cok n X) (h : EvR T X e σ H (fun d => ∃ d1 d2, d = .tuple [d1, d2] ∧ R d1 d2)) (q : ∀ v1 v2 d1 d2 H1, Ex T H H1 → R d1 d2 → DT X.K H1 v1 d1 → DT X.K H1 v2 d2 → wS X rest D ((σ.set i (some v1)).set j (some v2)) H1)
    (hi : X.N[i]? = some x := by rfl) (hj : X.N[j]? = some y := by rfl) (hx : Loc X.env.scope x := by first | exact Or.inl rfl | exact Or.inr rfl) (hy : Loc X.env.scope y := by first | exact Or.inl rfl | exact Or.inr rfl)
    (hfx : X.fn x = true ∨ X.env.scope.names.lookup x = some .local := by first | exact .inl rfl | exact .inr rfl) (hfy : X.fn y = true ∨ X.env.scope.names.lookup y = some .local := by first | exact .inl rfl | exact .inr rfl)
    (hs : swapsWithSole [.Tuple [.Name x p1, .Name y p2] kt pt] e pos.line X.env = pure false := by rfl) (hw : swappedStores [.Tuple [.Name x p1, .Name y p2] kt pt] e X.env = pure none := by rfl) :
    wS X (.Assign [.Tuple [.Name x p1, .Name y p2] kt pt] e pos :: rest) D σ H :=
  wS_cons (ps_asg peW (pg_tup (n := 2) c.calm (pgs_cons (pg_name c.nd hi hx hfx) (pgs_cons (pg_name c.nd hj hy hfy) pgs_nil))) hs hw (by rfl)) (h H .refl _ fun v H1 d c1 ⟨d1, d2, ed, hr⟩ hv => by
    subst ed
    obtain ⟨a, xs, e1, sq, hxs⟩ := hv.inv_tup
    obtain ⟨v1, v2, e2, h1, h2⟩ := hxs.inv2
    subst e1
    subst e2
    exact ⟨a, _, rfl, sq.t, rfl, v1, _, rfl, v2, _, rfl, rfl, q v1 v2 d1 d2 H1 c1 hr h1 h2⟩)
/-- a test that does not hold -/
theorem ws_skip (h : EvT T X c0 σ H false) (q : ∀ H1, Ex T H H1 → wS X rest D σ H1) : wS X (.If c0 yes [] pos :: rest) D σ H := ws_when h (fun z => by cases z) fun _ => q
/-- d.get(k), d a dict just made -/
theorem ed_get1D {apos cpos : Pos} {ks : List Key} (c : Cok n X) (l : List (List Key × PyData)) (ho : ∀ H1, Ex T H H1 → ∀ Q : VK, (∀ p H2 kvs, Ex T H1 H2 → TD X.prog X.w X.K H2 p kvs → SD X.K H2 kvs l → Q (.ref p) H2) → wE X o σ H1 Q) (hi : EvD T X i σ H (keyDs ks)) (mm : M1 X o "get" apos i cpos := by exact ⟨rfl, rfl, rfl, rfl⟩) :
    EvD T X (.Call (.Attribute o "get" apos) [i] [] cpos) σ H ((lookD l ks).getD .none) := fun H1 c1 Q q =>
  wE_methT PySem.F.slot_dict_get PySem.F.type_dict_get (ho H1 c1 _ fun dd H2 kvs c2 t sd => ⟨dd, kvs, rfl, t, hi H2 (c1.trans c2) _ fun y H3 c3 hy pins s u I ry => by
    obtain ⟨p, e, sq⟩ := dt_key hy
    subst e
    cases ry
    refine td_get c.hu I (t.keep c3 (by simp)) sq.t fun w' s' I' r => ⟨_, H3, I', r, q _ H3 (c2.trans c3) ?_⟩
    cases hl : lookD l ks with
    | none =>
      rw [sd.none hl]
      exact .non
    | some d =>
      obtain ⟨v, e2, hd⟩ := sd.some hl
      rw [e2]
      exact c3.dt hd⟩) mm
end
section
variable {P : Program} {w : World} {K : PySem.W.Frag} {mg : Str → Option Value} {base : Heap} {T : List (Addr × Str)}
theorem sc_is_right : FnScope ["_law_plan_here", "_law_way", "_law_word", "_law_met", "_law_k", "_law_spot", "_law_choice", "_law_ahead_of_it", "_law_told", "_law_last", "_law_one"] ["_law_plan_here", "_law_way", "_law_word"] (defScope (top 61)) := ⟨rfl, rfl, rfl, by decide +kernel, rfl, by decide +kernel, by decide +kernel⟩
def spRight (K : PySem.W.Frag) (T : List (Addr × Str)) : Sp' := fun vs H Q => ∃ (c : Code) (way : List Stp) (word : Str) (v1 v2 : V), vs = [v1, v2, .str word] ∧ OkCode c ∧ Good c way ∧ way.length ≤ 800 ∧ LamX.Tabs T H ∧ DT K H v1 c.d ∧ DT K H v2 (wayD way) ∧ wordOf (st c way).1 = (if word = "ends" then ("ends" : Str) else "open") ∧ ∀ H', Ex T H H' → Q (.bl true) H'
theorem g_is_right (F : At K mg "_law_is_right" 61) (B : Blt mg) (Gm : GDef P w K mg base 9 "met_places" (spMetP K T)) (Gl' : GDef P w K mg base 5 "lets_way" (spLets K T)) (Gs : GDef P w K mg base 5 "state_of" (spState K T)) (Gg : GDef P w K mg base 6 "goes_on" (spGo K T)) (Gr : GDef P w K mg base 1 "_law_row_at" (spRow K T)) (Gh : GDef P w K mg base 5 "shows" (spShows K T)) :
    GDef P w K mg base 10 "_law_is_right" (spRight K T) := by
  refine F.ok sc_is_right (fun _ _ _ _ _ _ us hl => match us, hl with | [_, _, _], _ => rfl) (fun vs H Q ⟨c, way, word, v1, v2, e, _⟩ => by rw [e]; rfl) fun f cdv Ar outer s H vs Q k ⟨c, way, word, v1, v2, e, oc, good, hz, htab, h1, h2, hword, q⟩ => ?_
  subst e
  refine ws_set 3 k (wE_cl Gm k (wA_cons (EvD.go (T := T) (ed_name 0 h1) .refl fun y1 Ha ca g1 => wA_nil ⟨c, y1, rfl, oc, ca.tab htab, g1, fun vm H1 ps cb met hm => ?_⟩)))
  have c1 : Ex T H H1 := ca.trans cb
  have hps : ∀ p ∈ ps, p.r ∈ rn3 := fun p hp => (oc.has_ok (met.has p hp)).1
  have hlay : PyData.canLayAll0 (ps.map Plc.d) = true := canLay_all fun d hd => by
    obtain ⟨p, hp, rfl⟩ := List.mem_map.mp hd
    exact (plc_lay (hps p hp)).1
  refine ws_skip (T := T) (EvT.is (et_cmp (ec_neS (ed_at0R (EvR.imp (er_cf Gl' k (c, way) (ea_cons (ed_name 0 (c1.dt h1)) (ea_cons (ed_name 1 (c1.dt h2)) ea_nil)) ⟨oc, good, by show way.length ≤ 900; omega⟩) fun d ⟨l, _, e⟩ => ⟨_, e, rfl⟩)) (ed_if (k := decide (word = "ends")) (d := .str (if word = "ends" then ("ends" : Str) else "open")) (et_cmp (ec_eqS (ed_name 2 (.str word)) ed_str)) (fun z => EvD.is ed_str (by rw [if_pos (of_decide_eq_true z)])) fun z => EvD.is ed_str (by rw [if_neg (of_decide_eq_false z)])))) ?_) fun H2 c2 => ?_
  · rw [Bool.not_eq_false', decide_eq_true_eq]
    exact hword
  have c02 := c1.trans c2
  have hm2 := c2.dt hm
  refine ws_for (g := gTup K 2 (gCons (gName 4) (gCons (gTup K 2 (gCons (gName 5) (gCons (gName 6) gNil))) gNil))) k (pi_enumT rfl B.enumerate paW) (pg_tup (n := 2) k.calm (pgs_cons (pg_name k.nd rfl (.inl rfl)) (pgs_cons (pg_tup (n := 2) k.calm (pgs_cons (pg_name k.nd rfl (.inl rfl)) (pgs_cons (pg_name k.nd rfl (.inl rfl)) pgs_nil))) pgs_nil))) ?_
  refine wA_cons (EvD.go (T := T) (ed_name 1 (c02.dt h2)) .refl fun vW H7 c7 hW => wA_nil ?_)
  obtain ⟨aw, xs, rfl, hsq, hxs⟩ := hW.inv_tup
  have c07 := c02.trans c7
  refine ⟨aw, xs, rfl, hsq.t, xs.length, _, _, walk_enumT, fun i σ2 H' => ∃ u4 u5 u6 u7 u8 u9, Ex T H7 H' ∧ σ2 = [some v1, some v2, some (.str word), some vm, u4, u5, u6, u7, u8, u9, none],
    ⟨none, none, none, none, none, none, .refl, rfl⟩, fun i σ2 H' ⟨_, _, _, _, _, _, c8, _⟩ => c8.sq hsq.t, ?_, ?_⟩
  · rintro i x σ2 H8 H9 hi ⟨u4, u5, u6, u7, u8, u9, c8, rfl⟩ ⟨TT, y1, y2, e1, hTT, e2, e3, e4⟩
    cases e3
    subst e1
    subst e2
    have c9 : Ex T H8 (upd H8 TT (.tup [.int (i : Nat), y2])) := .new hTT
    have hlen : xs.length = way.length := by rw [hxs.len, List.length_map]
    obtain ⟨⟨p, ch⟩, hx⟩ : ∃ x, way[i]? = some x := ⟨_, List.getElem?_eq_getElem (by omega)⟩
    obtain ⟨hst, op, hrow, hch⟩ := good i _ hx
    have hst : (st c (way.take i)).1 = some p := hst
    have hrow : c.row p = some op := hrow
    have hch : ch ∈ c.chs op := hch
    have hb := chs_b oc hrow
    have hpb : PlcB p := oc.has_ok ((st_ok oc rfl (good.take i)).here _ hst)
    obtain ⟨dx, hdx, hyd⟩ := hxs.atV e4
    rw [List.getElem?_map, hx] at hdx
    cases hdx
    obtain ⟨b, ys, rfl, hsb, hys⟩ := ((c8.trans c9).dt hyd).inv_tup
    obtain ⟨vp, vc, rfl, hvp, hvc⟩ := hys.inv2
    refine ⟨TT, _, rfl, .inl (.inl upd_same), rfl, _, _, rfl, _, _, rfl, ⟨b, _, rfl, hsb.t, rfl, _, _, rfl, _, _, rfl, rfl, rfl, ?_⟩⟩
    generalize upd H8 TT (.tup [.int (i : Nat), .ref b]) = H9 at *
    have d9 := (c07.trans c8).trans c9
    have h1' := d9.dt h1
    have h2' := d9.dt h2
    have hm' := ((c7.trans c8).trans c9).dt hm2
    have pre : PreW (c, way.take i) := ⟨oc, good.take i, by show (way.take i).length ≤ 900; rw [List.length_take]; omega⟩
    have pre1 : PreW (c, way.take (i + 1)) := ⟨oc, good.take (i + 1), by show (way.take (i + 1)).length ≤ 900; rw [List.length_take]; omega⟩
    have shp := plc_shaped hpb.1
    -- ahead of it
    show wS _ (_ :: _) _ [some v1, some v2, some (V.str word), some vm, some (.int (i : Nat)), some vp, some vc, u7, u8, u9, none] H9
    refine ws_asg (T := T) (d := wayD (way.take i)) 7 k (EvD.is (ed_slT (ds := way.map Stp.d) (ed_name 1 h2') eo_none (eo_some (ed_name 4 (.int (i : Int))))) (by rw [cut_take (by rw [List.length_map]; omega), ← List.map_take]; rfl)) fun va Ha ca hva => ?_
    refine ws_skip (T := T) (EvT.is (et_or (et_cmp (ec_notInDT k (ed_name 5 (ca.dt hvp)) (ed_name (d := .tuple (ps.map Plc.d)) 3 (ca.dt hm')) shp hlay)) fun _ => et_cmp (ec_neD k (ed_at0 (ds := [p.d, plcsD (st c (way.take i)).2]) (EvD.is (ed_cf Gs k (c, way.take i) (ea_cons (ed_name 0 (ca.dt h1')) (ea_cons (ed_name 7 hva) ea_nil)) pre) (by unfold stD; rw [hst]; rfl))) (ed_name 5 (ca.dt hvp)) shp shp)) ?_) fun Hb cb => ?_
    · have hany : ((ps.map Plc.d).any fun z => PyData.eqv z p.d) = true := List.any_eq_true.mpr ⟨p.d, List.mem_map.mpr ⟨p, met.met _ p (good.take i) hst, rfl⟩, eqv_plc p⟩
      rw [hany, eqv_plc]
      rfl
    have cB := ca.trans cb
    refine ws_skip (T := T) (et_cmp (ec_notInStrsR (x := (Stp.d (p, ch)).shown) (ed_repr k B.repr (EvD.is (ed_tup (ea_cons (ed_name 5 (cB.dt hvp)) (ea_cons (ed_name 6 (cB.dt hvc)) ea_nil))) rfl) (stp_sm (s := (p, ch)) hpb (hb ch hch)).shw) (EvL.imp (el_lcMR (R := fun ss => ∃ l : List Chc, ss = l.map (fun ch => Stp.d (p, ch)) ∧ ∀ x, x ∈ l ↔ x ∈ c.chs op) (own := [("_law_one", 10)]) 10 (fun d => .str d.shown) k (blkOk_by rfl) (EvR.imp (er_cf Gg k (c, way.take i, p, op) (ea_cons (ed_name 0 (cB.dt h1')) (ea_cons (ed_name 7 (cb.dt hva)) ea_nil)) ⟨pre, hst, hrow⟩) fun d ⟨l, e, e6, e7⟩ => ⟨_, e, by rw [List.length_map]; omega, l, rfl, e6⟩) rfl (by simp) rfl (fun s' Hs C cl fp ss src v H3 ⟨l, e5, e6⟩ hsrc c3 hv => ?_) (fun _ => rfl)) fun ds ⟨ss, ⟨l, e5, e6⟩, e7⟩ => ?_))) fun Hc cc => ?_
    · rw [e5] at hsrc
      obtain ⟨ch2, hch2, rfl⟩ := List.mem_map.mp hsrc
      exact ed_repr (blkC_ok k) B.repr (ed_name 10 hv) (stp_sm (s := (p, ch2)) hpb (hb ch2 ((e6 ch2).mp hch2))).shw
    · refine ⟨l.map fun ch => (Stp.d (p, ch)).shown, ?_, List.mem_map.mpr ⟨ch, (e6 ch).mpr hch, rfl⟩⟩
      rw [e7, e5, List.map_map, List.map_map]
      rfl
    have cC := cB.trans cc
    -- told, last
    refine ws_unp2R (T := T) (R := fun d1 d2 => d1 = .str "open" ∧ ∃ l : List (Cell × Plc), l.Perm (lastL c (way.take i)) ∧ d2 = .tuple (l.map lpD)) 8 9 k (EvR.imp (er_cf Gl' k (c, way.take i) (ea_cons (ed_name 0 (cC.dt h1')) (ea_cons (ed_name 7 ((cb.trans cc).dt hva)) ea_nil)) pre) fun d ⟨l, pm, e⟩ => ⟨_, _, e, by show PyData.str (wordOf (st c (way.take i)).1) = _; rw [hst]; rfl, l, pm, rfl⟩) fun v8 v9 d8 d9' Hd cd ⟨e8, l, pm, e9⟩ hv8 hv9 => ?_
    subst e8
    subst e9
    have cD := cC.trans cd
    refine ws_skip (T := T) (EvT.is (et_cmp (ec_neS (ed_name 8 hv8) ed_str)) (by simp)) fun He ce => ?_
    have cE := cD.trans ce
    have fin : ∀ Hf, Ex T He Hf → ∃ u4' u5' u6' u7' u8' u9', Ex T H7 Hf ∧ ([some v1, some v2, some (V.str word), some vm, some (.int (i : Nat)), some vp, some vc, some va, some v8, some v9, none] : L2.St) = [some v1, some v2, some (.str word), some vm, u4', u5', u6', u7', u8', u9', none] := fun Hf cf => ⟨_, _, _, _, _, _, ((c8.trans c9).trans cE).trans cf, rfl⟩
    refine ws_when (T := T) (k := decide (op.word = "load")) (et_cmp (ec_eqS (ed_at0 (ds := .str op.word :: op.more) (ed_cf Gr k (c, p, op) (ea_cons (ed_name 0 (cE.dt h1')) (ea_cons (ed_name 5 (cE.dt hvp)) ea_nil)) ⟨oc, hrow⟩)) ed_str)) (fun z Hf cf => ?_) fun z Hf cf => wS_nil (fin Hf cf)
    obtain ⟨x, a, rfl⟩ := w_load (of_decide_eq_true z)
    obtain ⟨kc, rfl⟩ : ∃ kc, ch = .cell kc := by
      have hch2 : ch ∈ (c.face a).map Chc.cell := hch
      obtain ⟨kc, _, e⟩ := List.mem_map.mp hch2
      exact ⟨kc, e.symm⟩
    have htk := take_snoc hx
    have esh : shownD c (way.take (i + 1)) = .tuple [p.d, optD (getL (lastL c (way.take i)) kc)] := by
      rw [htk, shownD_snoc]
      unfold shS
      simp only [hrow]
    have cF := cE.trans cf
    have hlnd := ((pm.map (·.1)).nodup_iff).mpr (lastL_nd c (way.take i))
    have hll : l.length ≤ 900 := by
      rw [pm.length_eq]
      have := lastL_len c (way.take i)
      rw [List.length_take] at this
      omega
    have egl : getL l kc = getL (lastL c (way.take i)) kc := findW_perm hlnd pm kc
    have hsh : Shw (.tuple [p.d, optD (getL (lastL c (way.take i)) kc)]) := by
      cases hg : getL (lastL c (way.take i)) kc with
      | none => exact (Sm.tup2 hpb.sm (Sm.non.mono (Nat.zero_le 11) (Nat.zero_le 1))).shw
      | some p2 =>
        have hp2 : PlcB p2 := by
          have hm2 := findW_some (ws := lastL c (way.take i)) hg
          exact lastL_has oc good hm2
        exact (Sm.tup2 hpb.sm hp2.sm).shw
    refine ws_skip (T := T) (EvT.is (et_cmp (ec_neS (x := (PyData.tuple [p.d, optD (getL (lastL c (way.take i)) kc)]).shown) (y := (PyData.tuple [p.d, optD (getL (lastL c (way.take i)) kc)]).shown) (ed_repr k B.repr (EvD.is (ed_cf Gh k (c, way.take (i + 1)) (ea_cons (ed_name 0 (cF.dt h1')) (ea_cons (EvD.is (ed_slT (ds := way.map Stp.d) (ed_name 1 (cF.dt h2')) eo_none (eo_some (ed_add (ed_name 4 (.int (i : Int))) ed_int))) ?_) ea_nil)) ⟨pre1, ?_⟩) esh) hsh) (ed_repr k B.repr (ed_tup (ea_cons (ed_name 5 (cF.dt hvp)) (ea_cons (EvD.is (ed_get1D k (lastK l) (ks := cellK kc) (fun H1 c1 Q q => wE_dictT (l := lastK l) (T := T) k B.dict (EvD.is (ed_name 9 (((ce.trans cf).trans c1).dt hv9)) ?_) (lastK_nd hlnd) ?_ fun r H2 kvs _ c2 ht hk => q r H2 kvs c2 ht hk) (ed_name (d := keyDs (cellK kc)) 6 (cF.dt hvc))) ?_) ea_nil))) hsh))) (by simp)) fun Hg cg => wS_nil (wS_nil (fin Hg (cf.trans cg)))
    · have e1 : ((i : Int) + 1) = ((i + 1 : Nat) : Int) := by omega
      show PyData.tuple (cutD (way.map Stp.d) none (some ((i : Int) + 1))) = wayD (way.take (i + 1))
      rw [e1, cut_take (by rw [List.length_map]; omega), ← List.map_take]
      rfl
    · show isNon (shownD c (way.take (i + 1))) = false
      rw [esh]
      rfl
    · show PyData.tuple (l.map lpD) = .tuple ((lastK l).map pairD)
      rw [lp_map]
    · unfold lastK
      rw [List.length_map]
      omega
    · rw [lastK_look, egl]
      cases getL (lastL c (way.take i)) kc <;> rfl
  · rintro σ2 H8 ⟨u4, u5, u6, u7, u8, u9, c8, rfl⟩
    exact ws_ret (T := T) (d := .bool true) ed_bl fun v H9 c9 hv => by
      rw [hv.inv_bl]
      exact q H9 ((c07.trans c8).trans c9)
end
end K7
/-! ## M1I -/
set_option Elab.async false
set_option linter.all false
set_option maxRecDepth 100000
set_option maxHeartbeats 4000000
/-! law. -/
namespace K7
open PySem PySem.Spec PyProof.Rows L2
section
variable {T : List (Addr × Str)} {X : Cx} {σ : L2.St} {H : Hp} {a : Expr} {n : Nat} {pos p2 : Pos}
/-- a[lo:hi], where a's answer is told by R -/
theorem er_slT {lo hi : Option Expr} {l u : Option Int} {R : List PyData → Prop} (ha : EvR T X a σ H (fun d => ∃ ds, d = .tuple ds ∧ R ds)) (hl : EvO T X lo σ H l) (hu : EvO T X hi σ H u) : EvR T X (.Subscript a (.Slice lo hi none p2) pos) σ H (fun d => ∃ ds, d = .tuple (cutD ds l u) ∧ R ds) := fun H1 c Q q =>
  wE.of (pe_slice sl_tupP peW poW poW) (ha H1 c _ fun x H2 d c2 ⟨ds, ed, hR⟩ hx => hl H2 (c.trans c2) _ fun H3 c3 => hu H3 ((c.trans c2).trans c3) _ fun H4 c4 => by
    subst ed
    obtain ⟨p, xs, rfl, hs, hxs⟩ := ((c3.trans c4).dt hx).inv_tup
    have hc : DTs X.K H4 (cutV xs l u) (cutD ds l u) := by
      unfold cutV cutD
      rw [hxs.len]
      exact (hxs.drop _).take _
    have qq : ∀ v H5, Ex T H1 H5 → DT X.K H5 v (.tuple (cutD ds l u)) → Q v H5 := fun v H5 c5 hv => q v H5 _ c5 ⟨ds, rfl, hR⟩ hv
    refine ⟨p, xs, rfl, hs.t, fun ⟨z1, z2⟩ => ?_, fun _ p' o hp ho => qq _ _ (((c2.trans c3).trans c4).trans (.new hp)) (.new hp ho hc)⟩
    have e : cutD ds l u = ds := by
      unfold cutD
      rw [← hxs.len, z1, z2, List.drop_zero, Nat.sub_zero, hxs.len, List.take_length]
    rw [e] at qq
    exact qq _ H4 ((c2.trans c3).trans c4) (.tup hs hxs))
end
theorem cut_take' {ds : List PyData} {i : Nat} : cutD ds none (some (i : Int)) = ds.take i := by
  unfold cutD
  rw [HT.sIx_nat, HT.sIx_none, List.drop_zero, Nat.sub_zero]
  by_cases h : i ≤ ds.length
  · rw [Nat.min_eq_left h]
  · rw [Nat.min_eq_right (by omega), List.take_length, List.take_of_length_le (by omega)]
section
variable {P : Program} {w : World} {K : PySem.W.Frag} {mg : Str → Option Value} {base : Heap} {T : List (Addr × Str)}
theorem sc_law : FnScope ["_law_script", "_law_feed_here", "_law_turn", "_law_plan_here", "_law_beginning_here", "_law_limit", "_law_way", "_law_word"] ["_law_script"] (defScope (top 62)) := ⟨rfl, rfl, rfl, by decide +kernel, rfl, by decide +kernel, by decide +kernel⟩
def spLaw (K : PySem.W.Frag) (T : List (Addr × Str)) : Sp' := fun vs H Q => ∃ (a : Addr) (ns : List Int), vs = [.ref a] ∧ SqL K H a (ns.map V.int) ∧ ns.length ≤ 63 ∧ LamX.Tabs T H ∧ ∀ H', Q (.bl true) H'
theorem g_law (F : At K mg "law" 62) (B : Blt mg) (Gf : GDef P w K mg base 1 "_law_feed" (spFeed K T)) (Gp : GDef P w K mg base 4 "_law_plan" (spPlan K T)) (Gb : GDef P w K mg base 2 "_law_beginning" (spBegin K T)) (Gd : GDef P w K mg base 1 "_law_draw" (spDraw T)) (Gt : GDef P w K mg base 8 "trail" (spTrail K T)) (Gr : GDef P w K mg base 8 "run" (spRun K T)) (Gi : GDef P w K mg base 10 "_law_is_right" (spRight K T)) :
    GDef P w K mg base 11 "law" (spLaw K T) := by
  refine F.ok sc_law (fun _ _ _ _ _ _ us hl => match us, hl with | [_], _ => rfl) (fun vs H Q ⟨a, ns, e, _⟩ => by rw [e]; rfl) fun f cdv Ar outer s H vs Q k ⟨a, ns, e, hs, hz, htab, q⟩ => ?_
  subst e
  refine ws_set 1 k (wE_cl Gf k (wA_cons (EvV.go (T := T) (v := .ref a) (ev_name 0) .refl fun Ha ca => wA_nil ⟨a, ns, rfl, ca.sl hs, hz, fun fd cl H1 hfd cb F1 => ?_⟩)))
  have c1 : Ex T H H1 := ca.trans cb
  refine ws_forR 2 k B.range (EvD.go (T := T) ed_int .refl fun v3 H2 c2 hv3 => ⟨3, hv3.inv_int, by omega, fun i σ2 H' => ∃ u2 u3 u4 u5 u6 u7, σ2 = [some (.ref a), some (.ref fd), u2, u3, u4, u5, u6, u7] ∧ Chg T [fd] H2 H' ∧ FeedAt H' fd cl (850 * i), ⟨none, none, none, none, none, none, rfl, .refl, (F1.keep c2).le (by omega)⟩, ?_, ?_⟩)
  · rintro i σ2 H3 hi ⟨u2, u3, u4, u5, u6, u7, rfl, c3, F3⟩
    have tab : ∀ {H'}, Chg T [fd] H2 H' → LamX.Tabs T H' := fun c => c.tab (c2.tab (c1.tab htab))
    -- the plan
    refine ws_set 3 k (wE_cl Gp k (wA_cons (EvV.go (T := T) (ev_name 1) .refl fun H4 c4 => wA_nil ⟨fd, cl, 850 * i, rfl, F3.keep c4, by omega, fun vp H5 c oc c5 F5 hvp => ?_⟩)))
    have c25 := (c3.and_ c4).trans c5
    -- beginning, limit
    refine ws_parV 4 5 k (wA_cons (wE_cl Gb k (wA_cons (EvV.go (T := T) (ev_name 1) .refl fun H6 c6 => wA_cons (EvD.go (T := T) (ed_name 3 (c6.dt hvp)) .refl fun y1 H7 c7 hy1 => wA_nil ⟨fd, cl, 850 * i + 800, y1, c, rfl, F5.keep (c6.trans c7), by omega, oc, hy1, fun vb H8 sb osb c8 F8 hvb => wA_cons (wE_draw (m := 21) (T := T) Gd k (ev_name 1) ed_int .refl F8 (by omega) (by omega) (by omega) fun fuel H9 hfuel c9 F9 => wA_nil ⟨_, _, rfl, ?_⟩)⟩)))))
    have c59 : Chg T [fd] H5 H9 := ((c6.trans c7).then_ c8).trans c9
    have c29 := c25.trans c59
    have hp9 := c59.dt hvp
    have hb9 := c9.dt hvb
    have ga : GoneA c sb fuel := ⟨oc, osb, by omega⟩
    -- way, word
    refine ws_parV 6 7 k (wA_cons ((er_slT (T := T) (R := fun ds => ∃ s' q, ds = s'.steps.map Stp.d ∧ Runs c (s1 c sb fuel) main s' ∧ Ivt c s' q ∧ s'.word ≠ "" ∧ s'.steps.length ≤ 900) (EvR.imp (er_cf Gt k (c, sb, fuel) (ea_cons (ed_name 3 hp9) (ea_cons (ed_name 4 hb9) (ea_cons (ed_name 5 (.int _)) ea_nil))) ga) fun d ⟨s', q', e, h1, h2, h3, h4⟩ => ⟨s'.steps.map Stp.d, e, s', q', rfl, h1, h2, h3, h4⟩) eo_none (eo_some ed_int)).go .refl fun vw H10 dw c10 ⟨ds, edw, s', q', eds, hrun, hivt, hword, hlen⟩ hvw => ?_))
    subst edw
    subst eds
    refine wA_cons (wE.of (pe_ix ix_tup peW pe_int (fun _ _ => rfl)) (wE_cl Gr k (wA_cons (EvD.go (T := T) (ed_name 3 (c10.dt hp9)) .refl fun y3 H11 c11 hy3 => wA_cons (EvD.go (T := T) (ed_name 4 ((c10.trans c11).dt hb9)) .refl fun y4 H12 c12 hy4 => wA_cons (EvD.go (T := T) (ed_name 5 (.int (fuel : Int))) .refl fun y5 H13 c13 hy5 => wA_nil ⟨c, sb, fuel, ga, .cons ((c12.trans c13).dt hy3) (.cons (c13.dt hy4) (.one hy5)), fun t H14 s2 xs c14 hsq hrun2 => ⟨t, _, 0, .str s2.word, rfl, rfl, hsq, atI_nat (j := 0) rfl, wA_nil ⟨_, _, rfl, ?_⟩⟩⟩))))))
    have es : s2 = s' := Runs.det hrun2 hrun
    subst es
    have c914 : Ex T H9 H14 := (((c10.trans c11).trans c12).trans c13).trans c14
    have hw14 : DT K H14 vw (wayD (s2.steps.take 30)) := by
      have := (((c11.trans c12).trans c13).trans c14).dt hvw
      have e30 : cutD (s2.steps.map Stp.d) none (some 30) = (s2.steps.map Stp.d).take 30 := cut_take' (i := 30)
      rw [e30, ← List.map_take] at this
      exact this
    have hp14 := c914.dt hp9
    have hb14 := c914.dt hb9
    -- a long one
    refine ws_ifJ (T := T) (k := decide (30 < (s2.steps.length : Int))) (fun σ' H' => σ' = [some (.ref a), some (.ref fd), some (.int (i : Nat)), some vp, some vb, some (.int (fuel : Int)), some vw, some (.str (if 30 < s2.steps.length then ("open" : Str) else s2.word))] ∧ Ex T H14 H') (et_cmp (ec_gt (EvD.is (ed_lenT B.len (ds := s2.steps.map Stp.d) (EvR.dat (er_cf Gt k (c, sb, fuel) (ea_cons (ed_name 3 hp14) (ea_cons (ed_name 4 hb14) (ea_cons (ed_name 5 (.int _)) ea_nil))) ga) fun d ⟨s3, q3, e, h1, _⟩ => by rw [e, Runs.det h1 hrun]; rfl)) (by rw [List.length_map])) ed_int)) (fun z H15 c15 => ?_) (fun z H15 c15 => ?_) ?_
    · refine ws_asg (T := T) (d := .str "open") 7 k ed_str fun vo H16 c16 hvo => wS_nil ⟨?_, c15.trans c16⟩
      rw [hvo.inv_str, if_pos (by have := of_decide_eq_true z; omega)]
      rfl
    · refine wS_nil ⟨?_, c15⟩
      rw [if_neg (by have := of_decide_eq_false z; omega)]
      rfl
    · rintro σ' H15 ⟨rfl, c15⟩
      have hwordOf : wordOf (st c (s2.steps.take 30)).1 = (if (if 30 < s2.steps.length then ("open" : Str) else s2.word) = "ends" then ("ends" : Str) else "open") := by
        by_cases hl : 30 < s2.steps.length
        · rw [if_pos hl, if_neg (by decide)]
          obtain ⟨x, hx⟩ : ∃ x, s2.steps[30]? = some x := ⟨_, List.getElem?_eq_getElem hl⟩
          obtain ⟨h1, _⟩ := hivt.good 30 x hx
          rw [h1]
          rfl
        · rw [if_neg hl, List.take_of_length_le (by omega)]
          by_cases he : s2.word = "ends"
          · rw [if_pos he, hivt.ends he]
            rfl
          · obtain ⟨q3, h3⟩ := hivt.op_ hword he
            rw [if_neg he, h3]
            rfl
      have c915 := c914.trans c15
      refine ws_skip (T := T) (EvT.is (k := !true) (et_not (et_val (k := true) fun H16 c16 Q2 q2 => wE_cl Gi k (wA_cons (EvD.go (T := T) (ed_name 3 ((c915.trans c16).dt hp9)) .refl fun y1 H17 c17 hy1 => wA_cons (EvD.go (T := T) (ed_name 6 ((c15.trans (c16.trans c17)).dt hw14)) .refl fun y2 H18 c18 hy2 => wA_cons (EvV.go (T := T) (ev_name 7) .refl fun H19 c19 => wA_nil ⟨c, s2.steps.take 30, _, y1, y2, rfl, oc, hivt.good.take 30, by rw [List.length_take]; omega, tab (c29.and_ (((c915.trans c16).trans c17).trans (c18.trans c19))), (c18.trans c19).dt hy1, c19.dt hy2, hwordOf, fun H20 c20 => q2 _ H20 (((c17.trans c18).trans c19).trans c20) (.bl true)⟩)))))) rfl) fun H16 c16 => wS_nil ⟨_, _, _, _, _, _, rfl, c29.and_ (c915.trans c16), ?_⟩
      exact (F9.keep (c915.trans c16)).le (by omega)
  · rintro σ2 H3 ⟨u2, u3, u4, u5, u6, u7, rfl, c3, F3⟩
    exact ws_ret (T := T) (d := .bool true) ed_bl fun v H4 c4 hv => by
      rw [hv.inv_bl]
      exact q H4
end
end K7
/-! ## N0C -/
set_option Elab.async false
set_option linter.all false
set_option maxRecDepth 100000
set_option maxHeartbeats 4000000
/-! From the head's facts to the law's promise. -/
namespace K7
open PySem PySem.Spec PyProof.Rows L2
section
variable {K : PySem.W.Frag} {mg : Str → Option Value}
theorem at_of {x : Str} {i : Nat} (h : ∃ fd, FunD K x x (defArgs (top i)) (defBody (top i)) (defScope (top i)) [] [] (He.ga K x) fd) (hm : mg x = some (.ref (He.ga K x))) : At K mg x i := by
  obtain ⟨fd, ⟨oc, od, dV, kV, doc, pm, an, cdv, ct, osl, e1, e2, e3, e4, _⟩, kp⟩ := h
  rcases e4 with ⟨_, e5⟩ | ⟨e5, _⟩
  · subst e5
    subst e1
    exact ⟨_, oc, od, kV, doc, pm, an, cdv, ct, osl, e2, e3, hm, kp⟩
  · exact absurd rfl e5
theorem atc_of {x : Str} {i : Nat} (h : ∃ fd, FunD K x x (defArgs (top i)) (defBody (top i)) (defScope (top i)) [] [] (He.ga K x) fd) (hm : mg x = some (.ref (He.ga K x))) : AtC K mg x i (He.cT K (x, none)).1 := by
  obtain ⟨fd, ⟨oc, od, dV, kV, doc, pm, an, cdv, ct, osl, e1, e2, e3, e4, _⟩, kp⟩ := h
  rcases e4 with ⟨_, e5⟩ | ⟨e5, _⟩
  · subst e5
    subst e1
    obtain ⟨c, ec⟩ := He.codeIn_ref e3
    subst ec
    have e6 : (He.cT K (x, none)).1 = c := He.codeOf_eq (p := (x, none)) e2 rfl
    rw [e6]
    exact ⟨_, oc, od, kV, doc, pm, an, ct, osl, e2, e3, hm, kp⟩
  · exact absurd rfl e5
theorem atd_of {x : Str} {i : Nat} (h : ∃ fd, FunD K x x (defArgs (top i)) (defBody (top i)) (defScope (top i)) [.non, .int 100] [] (He.ga K x) fd) (hm : mg x = some (.ref (He.ga K x))) : AtD K mg x i := by
  obtain ⟨fd, ⟨oc, od, dV, kV, doc, pm, an, cdv, ct, osl, e1, e2, e3, e4, _⟩, kp⟩ := h
  rcases e4 with ⟨e5, _⟩ | ⟨_, TT, o, its, n, e5, e6, e7, e8⟩
  · cases e5
  · subst e5
    subst e1
    have hl : its.length = 2 := by
      have := e8.length
      exact this.symm
    obtain ⟨x1, x2, ei⟩ : ∃ x1 x2, its = [x1, x2] := match its, hl with
      | [x1, x2], _ => ⟨x1, x2, rfl⟩
    subst ei
    exact ⟨_, oc, od, TT, kV, doc, pm, an, cdv, ct, osl, o, x1, x2, n, e2, e3, hm, kp, e6, e7⟩
theorem fat_of {x q : Str} {st : Stmt} {f : Addr} (h : ∃ fd, FunD K x q (defArgs st) (defBody st) (defScope st) [] [] f fd) : FAt K f x q st := by
  obtain ⟨fd, ⟨oc, od, dV, kV, doc, pm, an, cdv, ct, osl, e1, e2, e3, e4, _⟩, kp⟩ := h
  rcases e4 with ⟨_, e5⟩ | ⟨e5, _⟩
  · subst e5
    subst e1
    exact ⟨oc, od, kV, doc, pm, an, cdv, ct, osl, e2, e3⟩
  · exact absurd rfl e5
theorem dt_of_main (h : mainOk K = true) (H : Hp) : DT K H (.ref (He.ga K "MAIN")) main.d := by
  unfold mainOk at h
  cases q : K.lookup (He.ga K "MAIN") with
  | none =>
    rw [q] at h
    cases h
  | some o =>
    obtain ⟨oc, od, dt, osl⟩ := o
    rw [q] at h
    cases od with
    | some b => cases oc <;> cases dt <;> cases h
    | none =>
      cases oc with
      | type ty =>
        cases dt with
        | seq its n =>
          obtain ⟨h1, h2⟩ := He.ba h
          obtain ⟨h3, h4⟩ := He.ba h2
          have ety : ty = "tuple" := of_decide_eq_true h1
          subst ety
          exact .tup (ds := [.str "main", .int ((0 : Nat) : Int), .int ((0 : Nat) : Int)]) (.inr ⟨_, its, n, q, rfl, rfl, rfl, of_decide_eq_true h3, He.relAll_ok h4⟩) (.cons (.str _) (.cons (.int _) (.one (.int _))))
        | _ => cases h
      | _ => cases dt <;> cases h
end
section
variable {P : Program} {w : World} {mg : Str → Option Value} {base : Heap}
theorem law_all (X : (hK w).In base) (G : base.Ns mainGlobals mg) (TB : LamX.TabB base mg (He.cT (hK w) ("spread", none)).1 306) : GDef P w (hK w) mg base 11 "law" (spLaw (hK w) [(306, lamQ)]) := by
  have c := (hsays w).d
  have gl : ∀ (i : Nat) (x : Str), hfa[i]? = some (.glo x) → mg x = some (.ref (He.ga (hK w) x)) := fun i x e => He.glo_ok X G (c.fact i e)
  have fr : ∀ (i : Nat) (x : Str), hfa[i]? = some (.free x) → mg x = none := fun i x e => He.free_ok X G (c.fact i e)
  have a : ∀ (i j : Nat) (x : Str), hfn[j]? = some (dd i x) → hfa[j]? = some (.glo x) → At (hK w) mg x i := fun i j x e1 e2 => at_of (c.def_ j e1) (gl j x e2)
  have B : Blt mg := ⟨fr 51 "isinstance" rfl, fr 52 "int" rfl, fr 53 "bool" rfl, fr 54 "str" rfl, fr 55 "tuple" rfl, fr 56 "len" rfl, fr 57 "all" rfl, fr 58 "dict" rfl, fr 59 "range" rfl, fr 60 "sorted" rfl, fr 61 "set" rfl, fr 62 "list" rfl, fr 63 "min" rfl, fr 64 "repr" rfl, fr 65 "enumerate" rfl⟩
  have M : Mods (hK w) mg := ⟨He.str_ok X G (c.fact 74 (f := .str "LETTERS" lettersS) rfl), He.int_ok X G (c.fact 75 (f := .int "LONGEST" 8) rfl), _, gl 48 "MAIN" rfl, fun H => dt_of_main (He.ba (hexK w)).2 H⟩
  have kc : Cl (hK w) (He.ga (hK w) "Machine") := ⟨He.cls_ok (c.fact 76 (f := .cls "Machine") rfl), fun f hf => by
    simp only [List.mem_cons, List.mem_nil_iff, or_false] at hf
    rcases hf with rfl | rfl | rfl | rfl | rfl | rfl | rfl | rfl
    · exact He.noat_ok (c.fact 66 (f := .noat "Machine" "code_here") rfl)
    · exact He.noat_ok (c.fact 67 (f := .noat "Machine" "by_names") rfl)
    · exact He.noat_ok (c.fact 68 (f := .noat "Machine" "in_cells") rfl)
    · exact He.noat_ok (c.fact 69 (f := .noat "Machine" "heard_now") rfl)
    · exact He.noat_ok (c.fact 70 (f := .noat "Machine" "steps_now") rfl)
    · exact He.noat_ok (c.fact 71 (f := .noat "Machine" "calls_now") rfl)
    · exact He.noat_ok (c.fact 72 (f := .noat "Machine" "fuel_left") rfl)
    · exact He.noat_ok (c.fact 73 (f := .noat "Machine" "word") rfl)⟩
  have mL := He.meth_ok (c.fact 78 (f := .meth "Machine" "lay_all") rfl)
  have mE := He.meth_ok (c.fact 79 (f := .meth "Machine" "may_enter") rfl)
  have mS := He.meth_ok (c.fact 80 (f := .meth "Machine" "keep_step") rfl)
  have mk := He.mkr_ok (c.fact 77 (f := .mkr "Machine") rfl)
  have fI : FAt (hK w) (He.ma (hK w) (He.ga (hK w) "Machine") "__init__") "__init__" "Machine.__init__" sInit := fat_of (c.def_ 48 (d := dm 0 "__init__" "Machine.__init__") rfl)
  have fL : FAt (hK w) (He.ma (hK w) (He.ga (hK w) "Machine") "lay_all") "lay_all" "Machine.lay_all" sLay := fat_of (c.def_ 49 (d := dm 1 "lay_all" "Machine.lay_all") rfl)
  have fE : FAt (hK w) (He.ma (hK w) (He.ga (hK w) "Machine") "may_enter") "may_enter" "Machine.may_enter" sEnter := fat_of (c.def_ 50 (d := dm 2 "may_enter" "Machine.may_enter") rfl)
  have fS : FAt (hK w) (He.ma (hK w) (He.ga (hK w) "Machine") "keep_step") "keep_step" "Machine.keep_step" sKeep := fat_of (c.def_ 51 (d := dm 3 "keep_step" "Machine.keep_step") rfl)
  have dRun : AtD (hK w) mg "run" 23 := atd_of (c.def_ 46 (d := dr 23 "run") rfl) (gl 49 "run" rfl)
  have dTrail : AtD (hK w) mg "trail" 24 := atd_of (c.def_ 47 (d := dr 24 "trail") rfl) (gl 50 "trail" rfl)
  have dSpread : AtC (hK w) mg "spread" 46 (He.cT (hK w) ("spread", none)).1 := atc_of (c.def_ 30 (d := dd 46 "spread") rfl) (gl 30 "spread" rfl)
  obtain ⟨es, nd, kd⟩ := (hsays w).tab 0 (t := (fun K => He.ga K "DOES", ["load", "store", "touch", "set", "tell", "need"])) rfl
  have does : DoesT w (hK w) mg := ⟨_, gl 47 "DOES" rfl, fun e he => by
    have key : ∀ (x y : Str), (x, He.Dv.glo y) ∈ hdo → KDct (hK w) w (He.ga (hK w) "DOES") x (.ref (He.ga (hK w) y)) := fun x y hq => by
      obtain ⟨u, e1, e2⟩ := He.valsB_ok (He.ba (hexK w)).1 hq
      exact ⟨es, nd, u, kd.at_, kd.lit, e1, e2⟩
    simp only [List.mem_cons, List.mem_nil_iff, or_false] at he
    rcases he with rfl | rfl | rfl | rfl | rfl | rfl
    · exact ⟨_, key "load" "do_load" (by simp [hdo]), gl 6 "do_load" rfl⟩
    · exact ⟨_, key "store" "do_store" (by simp [hdo]), gl 7 "do_store" rfl⟩
    · exact ⟨_, key "touch" "do_touch" (by simp [hdo]), gl 8 "do_touch" rfl⟩
    · exact ⟨_, key "set" "do_set" (by simp [hdo]), gl 9 "do_set" rfl⟩
    · exact ⟨_, key "tell" "do_tell" (by simp [hdo]), gl 10 "do_tell" rfl⟩
    · exact ⟨_, key "need" "do_need" (by simp [hdo]), gl 11 "do_need" rfl⟩⟩
  have gNum := g_is_number (P := P) (w := w) (base := base) (T := [(306, lamQ)]) (a 3 0 "is_number" rfl rfl) B
  have gWord := g_is_word (P := P) (w := w) (base := base) (T := [(306, lamQ)]) (a 4 1 "is_word" rfl rfl) B M
  have gAmt := g_amount (P := P) (w := w) (base := base) (T := [(306, lamQ)]) (a 6 2 "amount" rfl rfl) gNum
  have gMet := g_met_cell (P := P) (w := w) (base := base) (T := [(306, lamQ)]) (a 7 3 "met_cell" rfl rfl) B gAmt
  have gRow := g_row_there (P := P) (w := w) (base := base) (T := [(306, lamQ)]) (a 33 18 "row_there" rfl rfl) B
  have gLed := g_led (P := P) (w := w) (base := base) (T := [(306, lamQ)]) (a 35 20 "led" rfl rfl) gRow
  have gFace := g_face (P := P) (w := w) (base := base) (T := [(306, lamQ)]) (a 29 16 "face" rfl rfl) B gNum gWord
  have gChs := g_choices_at (P := P) (w := w) (base := base) (T := [(306, lamQ)]) (a 34 19 "choices_at" rfl rfl) B gRow gFace
  have gIs := g_is_choice (P := P) (w := w) (base := base) (T := [(306, lamQ)]) (a 38 23 "is_choice" rfl rfl) B
  have gSpot := g_is_spot (P := P) (w := w) (base := base) (T := [(306, lamQ)]) (a 36 21 "is_spot" rfl rfl) B gNum gWord
  have gStep := g_is_step (P := P) (w := w) (base := base) (T := [(306, lamQ)]) (a 37 22 "is_step" rfl rfl) B gSpot
  have gNeed := g_need_way (P := P) (w := w) (base := base) (T := [(306, lamQ)]) (a 32 17 "need_way" rfl rfl)
  have gGone := g_gone_way (P := P) (w := w) (base := base) (T := [(306, lamQ)]) (a 39 24 "gone_way" rfl rfl) B M gNeed gStep gChs gIs gRow gLed
  have gLets := g_lets_way (P := P) (w := w) (base := base) (T := [(306, lamQ)]) (a 40 25 "lets_way" rfl rfl) B gGone
  have gState := g_state_of (P := P) (w := w) (base := base) (T := [(306, lamQ)]) (a 41 26 "state_of" rfl rfl) gGone
  have gShows := g_shows (P := P) (w := w) (base := base) (T := [(306, lamQ)]) (a 42 27 "shows" rfl rfl) gNeed gGone
  have gGo := g_goes_on (P := P) (w := w) (base := base) (T := [(306, lamQ)]) (a 44 28 "goes_on" rfl rfl) B gState gChs
  have gRowL := g_law_row_at (P := P) (w := w) (base := base) (T := [(306, lamQ)]) (a 60 43 "_law_row_at" rfl rfl) B
  have rKeep := r_keep (P := P) (w := w) (base := base) (T := [(306, lamQ)]) (mg := mg) fS kc
  have rEnter := r_enter (P := P) (w := w) (base := base) (T := [(306, lamQ)]) (mg := mg) fE kc
  have MM : Ms P w (hK w) mg base [(306, lamQ)] (He.ga (hK w) "Machine") := ⟨kc, ⟨_, mS, rKeep⟩, ⟨_, mE, rEnter⟩⟩
  have gFby := g_found_by (P := P) (w := w) (base := base) (T := [(306, lamQ)]) (a 9 4 "found_by" rfl rfl) B.int
  have gAt := g_at_cell (P := P) (w := w) (base := base) (T := [(306, lamQ)]) (a 11 5 "at_cell" rfl rfl) MM gMet
  have gTouch := g_do_touch (P := P) (w := w) (base := base) (T := [(306, lamQ)]) (a 14 8 "do_touch" rfl rfl) gAt
  have gLoad := g_do_load (P := P) (w := w) (base := base) (T := [(306, lamQ)]) (a 12 6 "do_load" rfl rfl) MM gAt
  have gStore := g_do_store (P := P) (w := w) (base := base) (T := [(306, lamQ)]) (a 13 7 "do_store" rfl rfl) MM gAt gAmt
  have gSet := g_do_set (P := P) (w := w) (base := base) (T := [(306, lamQ)]) (a 15 9 "do_set" rfl rfl) MM gFby gAmt
  have gTell := g_do_tell (P := P) (w := w) (base := base) (T := [(306, lamQ)]) (a 16 10 "do_tell" rfl rfl) MM gAmt
  have gNeedR := g_do_need (P := P) (w := w) (base := base) (T := [(306, lamQ)]) (a 17 11 "do_need" rfl rfl) MM gAmt
  have D : Dos P w (hK w) mg base [(306, lamQ)] (He.ga (hK w) "Machine") := ⟨does, gLoad, gStore, gTouch, gSet, gTell, gNeedR⟩
  have gCall := g_do_call (P := P) (w := w) (base := base) (T := [(306, lamQ)]) (a 19 12 "do_call" rfl rfl) MM
  have gEnd := g_do_end (P := P) (w := w) (base := base) (T := [(306, lamQ)]) (a 20 13 "do_end" rfl rfl) MM gAmt
  have gOne := g_one_step (P := P) (w := w) (base := base) (T := [(306, lamQ)]) (a 21 14 "one_step" rfl rfl) B D gCall gEnd
  have rLay := r_lay (P := P) (w := w) (base := base) (T := [(306, lamQ)]) fL B kc
  have rInit := r_init (P := P) (w := w) (base := base) (T := [(306, lamQ)]) fI B kc mL rLay
  have gGoneM := g_gone (P := P) (w := w) (base := base) (T := [(306, lamQ)]) (a 22 15 "gone" rfl rfl) B MM (gl 46 "Machine" rfl) mk rInit gOne
  have gTrail := g_trail (P := P) (w := w) (base := base) (T := [(306, lamQ)]) dTrail B kc gGoneM
  have gRun := g_run (P := P) (w := w) (base := base) (T := [(306, lamQ)]) dRun B kc gGoneM
  have gBehind := g_behind (P := P) (w := w) (base := base) (T := [(306, lamQ)]) (a 45 29 "behind" rfl rfl) B gRow gLed gChs
  have gSpread := g_spread (P := P) (w := w) (base := base) (T := [(306, lamQ)]) dSpread TB (List.mem_singleton.mpr rfl) (fun p hp _ => by rw [List.mem_singleton.mp hp]) B gBehind
  have gBack := g_back_way (P := P) (w := w) (base := base) (T := [(306, lamQ)]) (a 47 31 "back_way" rfl rfl) B gSpread gRow
  have gThru := g_ways_through (P := P) (w := w) (base := base) (T := [(306, lamQ)]) (a 48 32 "ways_through" rfl rfl) B gBack
  have gAll := g_all_ways (P := P) (w := w) (base := base) (T := [(306, lamQ)]) (a 49 33 "all_ways" rfl rfl) M gSpread gThru
  have gMetP := g_met_places (P := P) (w := w) (base := base) (T := [(306, lamQ)]) (a 50 34 "met_places" rfl rfl) B gAll
  have gDraw := g_draw (P := P) (w := w) (base := base) (T := [(306, lamQ)]) (a 53 36 "_law_draw" rfl rfl) B
  have gFeed := g_feed (P := P) (w := w) (base := base) (T := [(306, lamQ)]) (a 52 35 "_law_feed" rfl rfl) B
  have gObs := g_objects (P := P) (w := w) (base := base) (T := [(306, lamQ)]) (a 54 37 "_law_objects" rfl rfl) B gDraw
  have gWhere := g_where (P := P) (w := w) (base := base) (T := [(306, lamQ)]) (a 55 38 "_law_where" rfl rfl) B gDraw
  have gOpnd := g_operand (P := P) (w := w) (base := base) (T := [(306, lamQ)]) (a 56 39 "_law_operand" rfl rfl) B gDraw
  have gRowD := g_row (P := P) (w := w) (base := base) (T := [(306, lamQ)]) (a 57 40 "_law_row" rfl rfl) B gDraw gWhere gOpnd
  have gPlan := g_plan (P := P) (w := w) (base := base) (T := [(306, lamQ)]) (a 58 41 "_law_plan" rfl rfl) B gDraw gObs gOpnd gRowD
  have gBeg := g_beginning (P := P) (w := w) (base := base) (T := [(306, lamQ)]) (a 59 42 "_law_beginning" rfl rfl) B gDraw
  have gRight := g_is_right (P := P) (w := w) (base := base) (T := [(306, lamQ)]) (a 61 44 "_law_is_right" rfl rfl) B gMetP gLets gState gGo gRowL gShows
  exact g_law (a 62 45 "law" rfl rfl) B gFeed gPlan gBeg gDraw gTrail gRun gRight
end
end K7
/-! ## N0D -/
set_option Elab.async false
set_option linter.all false
set_option maxRecDepth 100000
set_option maxHeartbeats 4000000
/-! The end: the law's call from what the top has left, the script laid, one table of code objects. -/
namespace K7
open PySem PySem.Spec PyProof.Rows L2
section
variable {P : Program} {w : World} {K : PySem.W.Frag} {mg mb : Str → Option Value} {fa ls cO pt : Addr} {s0 : Shared} {items : List Value} {ns : List Int}
theorem end_core (inK : K.In s0.heap) (gns : s0.heap.Ns mainGlobals mg) (bns : s0.heap.Ns builtinsNs mb) (bbs : ∀ x : Str, x ≠ "__name__" → mb x = bootBuiltins x) (nl : s0.heap.NoLimit) (ng : s0.gens = #[])
    (pe : s0.heap.get? pt = some { cls := .none, data := .fields #[] }) (pk : K.lookup pt = none) (hcd : PySem.W.codeHdIn K cO pt = true)
    (bmm : ∃ (bm : Addr) (ob : Obj), mg "__builtins__" = some (.ref bm) ∧ bm ≠ builtinsNs ∧ s0.heap.get? bm = some ob ∧ ob.cls = .type "module" ∧ ob.dict = some builtinsNs ∧ ob.data = .plain)
    (lo : s0.heap.get? ls = some { cls := .type "list", data := .seq items.toArray }) (ia : IntsAre items ns) (hz : ns.length ≤ 63) (hm : mg "law" = some (.ref fa))
    (G : ∀ base : Heap, K.In base → base.Ns mainGlobals mg → LamX.TabB base mg cO pt → GDef P w K mg base 11 "law" (spLaw K [(pt, lamQ)]))
    (Hq : Hp) (h1 : Hq pt = some (.tbl #[])) (h2 : ∀ b, b ≠ pt → Hq b = none ∨ (b = ls ∧ K.lookup ls = none ∧ Hq b = some (.frz { cls := .type "list", data := .seq items.toArray } (.lst (ns.map V.int))))) (h3 : SqL K Hq ls (ns.map V.int)) :
    codeAny (model P w) callerA (.call (.ref fa) ⟨[.ref ls], []⟩) (fun r s' => r = .ok (.ret (.bool true)) ∧ OldK s0.heap s'.heap ∧ s'.os = s0.os ∧ AllBare s'.gens) s0 := by
  have rel := vals_ints ia
  have ok : HOk P w Hq s0.heap := fun b u eb => by
    by_cases hb : b = pt
    · subst hb
      rw [h1] at eb
      cases eb
      exact pe
    · rcases h2 b hb with z | ⟨z1, _, z2⟩
      · rw [z] at eb
        cases eb
      · subst z1
        rw [z2] at eb
        cases eb
        exact ⟨lo, by rw [List.length_map, sizeLine_eq]; omega, items, _, rel, lo⟩
  have untr : ∀ {b : Addr} {o : Obj}, s0.heap.get? b = some o → (∀ xs n, o.data ≠ .seq xs n) → o.data ≠ .fields #[] → Hq b = none := fun {b o} eb n1 n2 => by
    by_cases hb : b = pt
    · rw [hb, pe] at eb
      cases eb
      exact absurd rfl n2
    · rcases h2 b hb with z | ⟨z1, _, _⟩
      · exact z
      · rw [z1, lo] at eb
        cases eb
        exact absurd rfl (n1 _ _)
  have dic : ∀ {b : Addr} {o : Obj} {es : Array DictEntry} {ep : Nat}, s0.heap.get? b = some o → o.data = .dict es ep → Hq b = none := fun {b o es ep} eb dd =>
    untr eb (fun xs n z => by rw [dd] at z; cases z) fun z => by rw [dd] at z; cases z
  have nsB : ∀ {b : Addr} {m : Str → Option Value}, s0.heap.Ns b m → (hidT s0.heap Hq).Ns b m := fun {b m} ⟨o, es, ep, eb, dd, r⟩ => ⟨o, es, ep, hidT_get eb (dic eb dd), dd, r⟩
  have kB : K.In (hidT s0.heap Hq) := fun b o eb => hidT_get (inK b o eb) (by
    by_cases hb : b = pt
    · rw [hb, pk] at eb
      cases eb
    · rcases h2 b hb with z | ⟨z1, z2, _⟩
      · exact z
      · rw [z1, z2] at eb
        cases eb)
  have md : L2.Mod K mg (hidT s0.heap Hq) := ⟨kB, nsB gns, ⟨mb, nsB bns, bbs⟩, let ⟨mc, q1, q2⟩ := nl; ⟨mc, nsB q1, q2⟩⟩
  obtain ⟨og, esg, epg, eg, dg, _⟩ := id gns
  have tb : LamX.TabB (hidT s0.heap Hq) mg cO pt := by
    refine ⟨PySem.W.codeHd_of_K kB hcd, ?_, fun z => ?_⟩
    · obtain ⟨bm, ob, b1, b2, b3, b4, b5, b6⟩ := bmm
      have g1 : bm ≠ mainGlobals := fun z => by
        rw [z, eg] at b3
        cases b3
        rw [dg] at b6
        cases b6
      have g2 : bm ≠ pt := fun z => by
        rw [z, pe] at b3
        cases b3
        cases b6
      exact ⟨bm, ob, b1, b2, g1, g2, hidT_get b3 (untr b3 (fun xs n z => by rw [b6] at z; cases z) fun z => by rw [b6] at z; cases z), b4, b5, b6⟩
    · rw [z, pe] at eg
      cases eg
      cases dg
  have env : Env0 P w K mg (hidT s0.heap Hq) callerA [] s0 Hq := ⟨rfl, md, fun b o eb => of_hidT eb, Nat.le_of_eq (hidT_size _ _), trivial, fun b hb => absurd (show b ∈ ([] : List Addr) from hb) (by simp), ok, .of_eq ng⟩
  obtain ⟨f, hf, _, run⟩ := (G _ kB (nsB gns) tb).ex
  rw [hm] at hf
  cases hf
  refine codeAny_mono (run callerA [] s0 Hq [.ref ls] [.ref ls] (fun v _ => v = .bl true) ⟨rfl, by decide, by decide⟩ rfl env (.cons rfl .nil) ⟨ls, ns, rfl, h3, hz, fun p hp => ?_, fun _ => rfl⟩) fun r s' hr => ?_
  · rw [List.mem_singleton.mp hp]
    exact LamX.TabS.nil h1
  cases r with
  | error e => exact False.elim hr
  | ok fl =>
    cases fl with
    | next => exact False.elim hr
    | brk => exact False.elim hr
    | cont => exact False.elim hr
    | ret u =>
      obtain ⟨v, H', os, bare, un, ok', rv, q⟩ := hr
      have q : v = .bl true := q
      subst q
      obtain rfl : u = Value.bool true := rv
      obtain ⟨more, gm⟩ := un.tbls pt #[] h1
      have gp := ok' pt _ gm
      have kept : ∀ b o, b ≠ pt → s0.heap.get? b = some o → s'.heap.get? b = some o := fun b o nb eb => by
        rcases h2 b nb with z | ⟨z1, _, z2⟩
        · exact un.keep b o eb z (fun z => absurd (show b ∈ ([] : List Addr) from z) (by simp)) (by simp)
        · obtain ⟨e1, _⟩ := ok b _ z2
          obtain ⟨e2, _⟩ := ok' b _ (un.frzs b _ _ z2)
          rw [eb] at e1
          cases e1
          exact e2
      refine ⟨rfl, ⟨fun b o eb => ?_, fun b o eb => ?_⟩, os, bare⟩
      · by_cases hb : b = pt
        · subst hb
          rw [pe] at eb
          cases eb
          exact .inr (.inl ⟨((PySem.W.codeHd_of_K inK hcd).tab pe).isCodeTable, rfl, #[], _, rfl, by rw [Array.empty_append]; exact gp⟩)
        · exact .inl (kept b o hb eb)
      · by_cases hb : b = pt
        · subst hb
          exact ⟨_, gp⟩
        · exact ⟨o, kept b o hb eb⟩
theorem end_call (inK : K.In s0.heap) (gns : s0.heap.Ns mainGlobals mg) (bns : s0.heap.Ns builtinsNs mb) (bbs : ∀ x : Str, x ≠ "__name__" → mb x = bootBuiltins x) (nl : s0.heap.NoLimit) (ng : s0.gens = #[])
    (pe : s0.heap.get? pt = some { cls := .none, data := .fields #[] }) (pk : K.lookup pt = none) (hcd : PySem.W.codeHdIn K cO pt = true)
    (bmm : ∃ (bm : Addr) (ob : Obj), mg "__builtins__" = some (.ref bm) ∧ bm ≠ builtinsNs ∧ s0.heap.get? bm = some ob ∧ ob.cls = .type "module" ∧ ob.dict = some builtinsNs ∧ ob.data = .plain)
    (lo : s0.heap.get? ls = some { cls := .type "list", data := .seq items.toArray }) (ia : IntsAre items ns) (hz : ns.length ≤ 63) (hm : mg "law" = some (.ref fa))
    (G : ∀ base : Heap, K.In base → base.Ns mainGlobals mg → LamX.TabB base mg cO pt → GDef P w K mg base 11 "law" (spLaw K [(pt, lamQ)])) :
    codeAny (model P w) callerA (.call (.ref fa) ⟨[.ref ls], []⟩) (fun r s' => r = .ok (.ret (.bool true)) ∧ OldK s0.heap s'.heap ∧ s'.os = s0.os ∧ AllBare s'.gens) s0 := by
  have nlp : ls ≠ pt := fun z => by
    rw [z, pe] at lo
    cases lo
  cases hk : K.lookup ls with
  | some o =>
    have e := inK ls o hk
    rw [lo] at e
    cases e
    refine end_core inK gns bns bbs nl ng pe pk hcd bmm lo ia hz hm G (fun b => if b = pt then some (.tbl #[]) else none) (if_pos rfl) (fun b hb => .inl (if_neg hb)) (.inr ⟨_, items.toArray, _, hk, rfl, rfl, rfl, ?_, by simpa using vals_ints ia⟩)
    rw [List.size_toArray, ia.length, sizeLine_eq]
    omega
  | none =>
    refine end_core inK gns bns bbs nl ng pe pk hcd bmm lo ia hz hm G (fun b => if b = pt then some (.tbl #[]) else if b = ls then some (.frz { cls := .type "list", data := .seq items.toArray } (.lst (ns.map V.int))) else none) (if_pos rfl) (fun b hb => ?_) (.inl (.inr ⟨{ cls := .type "list", data := .seq items.toArray }, (if_neg nlp).trans (if_pos rfl)⟩))
    by_cases hl : b = ls
    · exact .inr ⟨hl, hk, (if_neg hb).trans (if_pos hl)⟩
    · exact .inl ((if_neg hb).trans (if_neg hl))
end
theorem walk_end {q : Program} {loose : List Str} {XP : (Str → Option Value) → Heap → Prop} {YP : World → Heap → Prop} {d : DefRec} (hn : PySem.Challenge.rw_storeways_k27_whole_trail_is_a_way.most = some 63) (hdf : d.params.defaults = []) (hd : d.name = "law")
    (hY : ∀ (w : World) (h : Heap), YP w h → (hK w).In h ∧ h.get? 306 = some { cls := .none, data := .fields #[] }) :
    PySem.W.WalkO q loose XP YP PySem.Challenge.rw_storeways_k27_whole_trail_is_a_way.row.toRowW d [] (fun f vs => PySem.call f vs) := by
  refine Att.attach_callB hn hdf fun w s₀ s₁ mg mb fa o pm cd doc a vs ns G Y ho _ hcd hmg hobj hints hlen hbits hg => ?_
  obtain ⟨inK, pe⟩ := hY w _ Y
  rw [hd] at hmg
  exact end_call inK G.T.g G.T.b G.T.builtins G.T.nolimit hg pe (hno w) (K7.hcd w) G.T.bmain hobj hints hlen hmg fun base KB GB TB => law_all KB GB TB
end K7
theorem PySem.Challenge.cw_storeways_k27_whole_trail_is_a_way_holds : PySem.Challenge.rw_storeways_k27_whole_trail_is_a_way.Holds := by
  exact hd (K7.walk_end rfl rfl rfl fun w h Y => ⟨PySem.W.km_in_of Y, PySem.W.km_tabs_of Y 306 (List.mem_singleton.mpr rfl)⟩)
