import PyProof.Rows.All
import Wide.All
import OpenK.AllK
import Wide.FinOn
import HandS.ForMost
import HandS.Exc
import HandS.TryOnly
import HandS.ExcOwn
import HandS.WordsExc
import HandS.AnyAll
import HandS.TupAny
import HandS.Lambda
import HandS.IsInst
import KE.DataCmp
import KE.SortData
import KE.DataMinMax
import HandS.TupMul
import HandS.Deep
import PyProof.DictRoadsH
import PyProof.TupleKey
import KE.KDictKeyed
import HandS.Wide
import HandS.TupLe
import HandS.Flow
import HandS.Style
import HandS.GenList
import KE.KStateDown
import HandS.Ends
import HandS.Words
import HandS.Defaults
import HandS.Head0
import HandS.Head1
import HandS.Head2
import HandS.HeadEnd
import HandS.HeadHook1
import HandS.HeadHook2
import HandS.EndTab
import HandS.Conv
import HandS.Rev
import HandS.RevTup
import PyProof.ListNew
import HandS.TryMany
import HandS.ExcIs
import HandS.DictComp
import HandS.Zip
import KE.KMinKey
import KE.SortKeyHeap
import HandS.ExcValue
import KE.KSuper
import KE.KExcSuper
import HandS.ExcInit
import KE.GoesMore
import PyProof.Draws
import PyProof.EnumMake
import HandS.More
import PyProof.TupleOfSeq
import HandS.RaiseMore
import HandS.SetBool
import HandS.TupSets
import HandS.DictEq
import KE.KDictWalk
import KE.KDictZip
import PyProof.NeKinds
import KE.KTupSum
import KE.DataFind
import HandS.Sort
import KE.KDictSum
import KE.KDictDisplayH
import KE.KRevSl
import PyProof.SeqIndex
import HandS.Comp
import PySem.Challenge.RW_maproom_k17_half_planes_cut_in_any_order
set_option Elab.async false
set_option linter.all false
section
set_option maxRecDepth 100000
set_option maxHeartbeats 1000000
namespace Mp
open PySem PySem.Spec PyProof.Rows L2
inductive PV where
  | non | bl (b : Bool) | int (i : Int) | str (s : Str) | tup (xs : List PV) | lst (xs : List PV) | ref (n : Nat) | fn (x : Str) | dct (ks : List (List Int)) (vs : List PV)
inductive PO where
  | lst (xs : List PV) | dct (ks : List (List Int)) (vs : List PV) | dci (ks : List Int) (vs : List PV)
inductive EV where
  | un | pv (v : PV) | own (o : PO)
abbrev Sto := List PO
abbrev MEnv := List EV
structure MExc where
  cls : Str
  arg : PV
inductive MRes (α : Type) where
  | ok (a : α) (s : Sto) | exc (x : MExc) (s : Sto) | bad
inductive MFlow where
  | nx (e : MEnv) (s : Sto) | rt (v : PV) (s : Sto) | bk (e : MEnv) (s : Sto) | ct (e : MEnv) (s : Sto) | ex (x : MExc) (s : Sto) | bad
abbrev EM := MEnv → Sto → MRes PV
abbrev TM := MEnv → Sto → MRes Bool
abbrev AM := MEnv → Sto → MRes (List PV)
abbrev SM := MEnv → Sto → MFlow
abbrev FM := List PV → Sto → MRes PV
def hTup (k : List Int) : Int := reduceHash (Builtin.Tuple.tupleHashOf (k.map hashInt))
def DctAt (p : Addr) (ks : List (List Int)) (as : List Addr) (ws : List V) (h : Heap) : Prop := (p == sysModules) = false ∧ ks.length ≤ sizeLine ∧ ks.Nodup ∧ ∃ xs : List (List Int × Addr × Value),
  xs.map (·.1) = ks ∧ xs.map (·.2.1) = as ∧ Vals ws (xs.map (·.2.2)) ∧ ∃ (o : Obj) (es : Array DictEntry) (ep : Nat), h.get? p = some o ∧ o.ExactDict ∧ o.data = .dict es ep ∧ es.toList = xs.map (fun x => (⟨hTup x.1, .ref x.2.1, x.2.2⟩ : DictEntry))
def dctO (p : Addr) (ks : List (List Int)) (as : List Addr) (ws : List V) : HO := .ext (DctAt p ks as ws)
def dctP (p : Addr) (ks : List (List Int)) (as : List Addr) (ws : List V) (o : Obj) : HO := .ext fun h => DctAt p ks as ws h ∧ h.get? p = some o
section
variable (K : PySem.W.Frag) (M : Addr → Prop) (W : List Addr) (H : Hp)
def FzL (p : Addr) (ws : List V) : Prop := (Rd H p (.lst ws) ∧ ¬ M p) ∨
  ∃ (its : Array Value) (n : Nat), K.lookup p = some { cls := .type "list", data := .seq its n } ∧ its.size ≤ sizeLine ∧ Vals ws its.toList
def FzT (p : Addr) (ws : List V) : Prop := (Rd H p (.tup ws) ∧ ¬ M p) ∨
  ∃ (o : Obj) (its : Array Value) (n : Nat), K.lookup p = some o ∧ o.cls = .type "tuple" ∧ o.data = .seq its n ∧ its.size ≤ sizeLine ∧ Vals ws its.toList
def KsOk : List (List Int) → List Addr → Prop
  | [], as => as = []
  | k :: ks, as => ∃ a r, as = a :: r ∧ FzT K M H a (k.map V.int) ∧ KsOk ks r
mutual
def RF : PV → V → Prop
  | .non, w => w = .non
  | .bl b, w => w = .bl b
  | .int i, w => w = .int i
  | .str s, w => w = .str s
  | .tup xs, w => ∃ p ws, w = .ref p ∧ FzT K M H p ws ∧ RFs xs ws
  | .lst xs, w => ∃ p ws, w = .ref p ∧ FzL K M H p ws ∧ RFs xs ws
  | .ref n, w => ∃ p, w = .ref p ∧ W[n]? = some p
  | .fn x, w => ∃ f, w = .ref f ∧ PySem.W.nsIn K mainGlobals x = some (some (.ref f))
  | .dct ks vs, w => ∃ p as ws o, w = .ref p ∧ H p = some (dctP p ks as ws o) ∧ ¬ M p ∧ KsOk K M H ks as ∧ RFs vs ws
def RFs : List PV → List V → Prop
  | [], ws => ws = []
  | x :: xs, ws => ∃ w r, ws = w :: r ∧ RF x w ∧ RFs xs r
end
def kz (ks : List Int) (ws : List V) : List (Key × V) := (ks.zip ws).map fun p => (Sum.inl p.1, p.2)
def RO : PO → Addr → Prop
  | .lst xs, p => ∃ ws, H p = some (.lst ws) ∧ RFs K M W H xs ws
  | .dct ks vs, p => ∃ as ws, H p = some (dctO p ks as ws) ∧ KsOk K M H ks as ∧ RFs K M W H vs ws
  | .dci ks vs, p => ∃ ws, H p = some (.dK (kz ks ws)) ∧ ks.length = ws.length ∧ RFs K M W H vs ws
def RV (v : PV) (w : V) : Prop := RF K M W H v w ∨ ∃ xs p ws, v = .lst xs ∧ w = .ref p ∧ H p = some (.lst ws) ∧ p ∉ W ∧ RFs K M W H xs ws
end
theorem FzL.sq {K M H p ws} (h : FzL K M H p ws) : SqL K H p ws := h.elim (fun h => .inl h.1) fun ⟨its, n, h1, h2, h3⟩ => .inr ⟨_, its, n, h1, rfl, rfl, rfl, h2, h3⟩
theorem FzT.sq {K M H p ws} (h : FzT K M H p ws) : SqT K H p ws := h.elim (fun h => .inl h.1) .inr
theorem RFs.len {K M W H} : ∀ {xs : List PV} {ws : List V}, RFs K M W H xs ws → ws.length = xs.length
  | [], _, h => by unfold RFs at h; subst h; rfl
  | x :: xs, _, h => by
    unfold RFs at h
    obtain ⟨w, r, rfl, _, h⟩ := h
    simp [RFs.len h]
theorem RFs.nil {K M W H} : RFs K M W H [] [] := by unfold RFs; rfl
theorem RFs.cons {K M W H x xs w ws} (a : RF K M W H x w) (b : RFs K M W H xs ws) : RFs K M W H (x :: xs) (w :: ws) := by
  unfold RFs; exact ⟨w, ws, rfl, a, b⟩
theorem RFs.inv {K M W H x xs ws} (h : RFs K M W H (x :: xs) ws) : ∃ w r, ws = w :: r ∧ RF K M W H x w ∧ RFs K M W H xs r := by
  unfold RFs at h; exact h
theorem RFs.nil_inv {K M W H ws} (h : RFs K M W H [] ws) : ws = [] := by unfold RFs at h; exact h
theorem RFs.append {K M W H} : ∀ {xs ys : List PV} {ws us : List V}, RFs K M W H xs ws → RFs K M W H ys us → RFs K M W H (xs ++ ys) (ws ++ us)
  | [], _, _, _, a, b => by rw [a.nil_inv]; exact b
  | x :: xs, _, _, _, a, b => by
    obtain ⟨w, r, rfl, h1, h2⟩ := a.inv
    exact RFs.cons h1 (RFs.append h2 b)
theorem RFs.get {K M W H} : ∀ {xs : List PV} {ws : List V} {i : Nat} {x : PV}, RFs K M W H xs ws → xs[i]? = some x → ∃ w, ws[i]? = some w ∧ RF K M W H x w
  | [], _, i, x, _, e => by simp at e
  | y :: xs, _, 0, x, a, e => by
    obtain ⟨w, r, rfl, h1, h2⟩ := a.inv
    simp at e; subst e; exact ⟨w, rfl, h1⟩
  | y :: xs, _, i + 1, x, a, e => by
    obtain ⟨w, r, rfl, h1, h2⟩ := a.inv
    obtain ⟨u, hu, hr⟩ := RFs.get (i := i) (x := x) h2 (by simpa using e)
    exact ⟨u, by simpa using hu, hr⟩
theorem RFs.getr {K M W H} {xs : List PV} {ws : List V} {i : Nat} {w : V} (a : RFs K M W H xs ws) (e : ws[i]? = some w) : ∃ x, xs[i]? = some x ∧ RF K M W H x w := by
  have hl := a.len
  obtain ⟨hi, _⟩ := List.getElem?_eq_some_iff.mp e
  have hx : xs[i]? = some (xs[i]'(by omega)) := List.getElem?_eq_getElem _
  obtain ⟨w', e', r⟩ := a.get hx
  rw [e] at e'; cases e'
  exact ⟨_, hx, r⟩
theorem RFs.take {K M W H} : ∀ {xs : List PV} {ws : List V} (n : Nat), RFs K M W H xs ws → RFs K M W H (xs.take n) (ws.take n)
  | [], _, n, a => by rw [a.nil_inv]; simp; exact RFs.nil
  | x :: xs, _, 0, a => by simp; exact RFs.nil
  | x :: xs, _, n + 1, a => by
    obtain ⟨w, r, rfl, h1, h2⟩ := a.inv
    exact RFs.cons h1 (RFs.take n h2)
theorem RFs.drop {K M W H} : ∀ {xs : List PV} {ws : List V} (n : Nat), RFs K M W H xs ws → RFs K M W H (xs.drop n) (ws.drop n)
  | [], _, n, a => by rw [a.nil_inv]; simp; exact RFs.nil
  | x :: xs, _, 0, a => a
  | x :: xs, _, n + 1, a => by
    obtain ⟨w, r, rfl, h1, h2⟩ := a.inv
    exact RFs.drop n h2
theorem RFs.set {K M W H x w} (hx : RF K M W H x w) : ∀ {xs : List PV} {ws : List V} (n : Nat), RFs K M W H xs ws → RFs K M W H (xs.set n x) (ws.set n w)
  | [], _, n, a => by rw [a.nil_inv]; simp; exact RFs.nil
  | y :: xs, _, 0, a => by
    obtain ⟨w, r, rfl, h1, h2⟩ := a.inv
    exact RFs.cons hx h2
  | y :: xs, _, n + 1, a => by
    obtain ⟨w, r, rfl, h1, h2⟩ := a.inv
    exact RFs.cons h1 (RFs.set hx n h2)
theorem RFs.reverse {K M W H} : ∀ {xs : List PV} {ws : List V}, RFs K M W H xs ws → RFs K M W H xs.reverse ws.reverse
  | [], _, a => by rw [a.nil_inv]; exact RFs.nil
  | x :: xs, _, a => by
    obtain ⟨w, r, rfl, h1, h2⟩ := a.inv
    rw [List.reverse_cons, List.reverse_cons]
    exact RFs.append (RFs.reverse h2) (RFs.cons h1 RFs.nil)
theorem RFs.ints {K M W H} : ∀ (ns : List Int), RFs K M W H (ns.map PV.int) (ns.map V.int)
  | [] => RFs.nil
  | n :: ns => RFs.cons (by unfold RF; rfl) (RFs.ints ns)
def NoTbl (o : HO) : Prop := ∀ ps, o ≠ .tbl ps
structure Grow (M M' : Addr → Prop) (W W' : List Addr) (H H' : Hp) : Prop where
  kp : ∀ b o, H b = some o → ¬ M b → NoTbl o → H' b = some o
  mm : ∀ b, H b ≠ none → ¬ M b → ¬ M' b
  pre : W <+: W'
theorem Grow.refl {M W H} : Grow M M W W H H := ⟨fun _ _ h _ _ => h, fun _ _ h => h, List.prefix_refl _⟩
theorem Grow.trans {M M1 M2 W W1 W2 H H1 H2} (a : Grow M M1 W W1 H H1) (b : Grow M1 M2 W1 W2 H1 H2) (nt : ∀ b o, H b = some o → ¬ M b → H1 b ≠ none) : Grow M M2 W W2 H H2 where
  kp := fun c o h n t => b.kp c o (a.kp c o h n t) (a.mm c (by rw [h]; simp) n) t
  mm := fun c h n => by
    cases q : H c with
    | none => exact absurd q h
    | some o => exact b.mm c (nt c o q n) (a.mm c h n)
  pre := a.pre.trans b.pre
theorem Rd.nt {H : Hp} {p : Addr} {u : HO} (nu : NoTbl u) (h : Rd H p u) : ∃ o, H p = some o ∧ NoTbl o := by
  rcases h with h | ⟨o, h⟩
  · exact ⟨u, h, nu⟩
  · exact ⟨_, h, fun ps e => nomatch e⟩
theorem Grow.rd {M M' W W' H H' p u} (g : Grow M M' W W' H H') (nu : NoTbl u) (h : Rd H p u) (n : ¬ M p) : Rd H' p u := by
  rcases h with h | ⟨o, h⟩
  · exact .inl (g.kp p _ h n nu)
  · exact .inr ⟨o, g.kp p _ h n fun ps e => nomatch e⟩
theorem Grow.fzL {K M M' W W' H H' p ws} (g : Grow M M' W W' H H') (h : FzL K M H p ws) : FzL K M' H' p ws := by
  rcases h with ⟨h, n⟩ | h
  · refine .inl ⟨g.rd (fun ps e => nomatch e) h n, g.mm p ?_ n⟩
    obtain ⟨o, e, _⟩ := Rd.nt (u := .lst ws) (fun ps e => nomatch e) h
    rw [e]; simp
  · exact .inr h
theorem Grow.fzT {K M M' W W' H H' p ws} (g : Grow M M' W W' H H') (h : FzT K M H p ws) : FzT K M' H' p ws := by
  rcases h with ⟨h, n⟩ | h
  · refine .inl ⟨g.rd (fun ps e => nomatch e) h n, g.mm p ?_ n⟩
    obtain ⟨o, e, _⟩ := Rd.nt (u := .tup ws) (fun ps e => nomatch e) h
    rw [e]; simp
  · exact .inr h
theorem pre_get {α : Type} {W W' : List α} {n : Nat} {p : α} (h : W <+: W') (e : W[n]? = some p) : W'[n]? = some p := by
  obtain ⟨r, rfl⟩ := h
  obtain ⟨hn, _⟩ := List.getElem?_eq_some_iff.mp e
  rw [List.getElem?_append_left hn]; exact e
theorem KsOk.grow {K M M' W W' H H'} (g : Grow M M' W W' H H') : ∀ {ks : List (List Int)} {as : List Addr}, KsOk K M H ks as → KsOk K M' H' ks as
  | [], _, h => h
  | _ :: _, _, ⟨a, r, e, h1, h2⟩ => ⟨a, r, e, g.fzT h1, KsOk.grow g h2⟩
mutual
theorem RF.grow {K M M' W W' H H'} (g : Grow M M' W W' H H') : ∀ (v : PV) {w : V}, RF K M W H v w → RF K M' W' H' v w
  | .non, _, h => by unfold RF at h ⊢; exact h
  | .bl b, _, h => by unfold RF at h ⊢; exact h
  | .int i, _, h => by unfold RF at h ⊢; exact h
  | .str s, _, h => by unfold RF at h ⊢; exact h
  | .tup xs, _, h => by
    unfold RF at h ⊢
    obtain ⟨p, ws, e, h1, h2⟩ := h
    exact ⟨p, ws, e, g.fzT h1, RFs.grow g xs h2⟩
  | .lst xs, _, h => by
    unfold RF at h ⊢
    obtain ⟨p, ws, e, h1, h2⟩ := h
    exact ⟨p, ws, e, g.fzL h1, RFs.grow g xs h2⟩
  | .ref n, _, h => by
    unfold RF at h ⊢
    obtain ⟨p, e, h1⟩ := h
    exact ⟨p, e, pre_get g.pre h1⟩
  | .fn x, _, h => by unfold RF at h ⊢; exact h
  | .dct ks vs, _, h => by
    unfold RF at h ⊢
    obtain ⟨p, as, ws, o, e, h1, h2, h3, h4⟩ := h
    exact ⟨p, as, ws, o, e, g.kp p _ h1 h2 (fun ps e => nomatch e), g.mm p (by rw [h1]; simp) h2, h3.grow g, RFs.grow g vs h4⟩
theorem RFs.grow {K M M' W W' H H'} (g : Grow M M' W W' H H') : ∀ (xs : List PV) {ws : List V}, RFs K M W H xs ws → RFs K M' W' H' xs ws
  | [], _, h => by unfold RFs at h ⊢; exact h
  | x :: xs, _, h => by
    unfold RFs at h ⊢
    obtain ⟨w, r, e, h1, h2⟩ := h
    exact ⟨w, r, e, RF.grow g x h1, RFs.grow g xs h2⟩
end
theorem Grow.less {M M' W H} (h : ∀ b, M' b → M b) : Grow M M' W W H H := ⟨fun _ _ h _ _ => h, fun b _ n z => n (h b z), List.prefix_refl _⟩
end Mp
end
section
set_option maxRecDepth 100000
set_option maxHeartbeats 1000000
namespace Mp
open PySem PySem.Spec PyProof.Rows L2
def Om (env : MEnv) (σ : L2.St) (p : Addr) : Prop := ∃ (i : Nat) (o : PO), env[i]? = some (EV.own o) ∧ σ[i]? = some (some (V.ref p))
def Mt (Mx : Addr → Prop) (W : List Addr) (env : MEnv) (σ : L2.St) (p : Addr) : Prop := p ∈ W ∨ Mx p ∨ Om env σ p
structure Tbs where
  ps : List Addr
  tg : Addr → Option Str
def TabLike (o : HO) : Prop := (∃ ps, o = .tbl ps) ∨ ∃ c q, o = LamX.CodeO c q
theorem dctO_code {p : Addr} {ks : List (List Int)} {as : List Addr} {ws : List V} {c : Addr} {q : Str} (e : dctO p ks as ws = LamX.CodeO c q) : False := by
  have e' : DctAt p ks as ws = fun h => ∃ (oc : Obj) (vs : Array Value) (t : Tok), h.get? c = some oc ∧ oc.data = .fields vs ∧ vs[1]? = some (.str q t) := HO.ext.inj e
  have hp : ∀ b : Nat, b < max c p + 1 → ({ objs := Array.replicate (max c p + 1) { cls := .none, data := .fields #[.none, .str q 0] } } : Heap).get? b = some { cls := .none, data := .fields #[.none, .str q 0] } := fun b hb => by
    unfold Heap.get?; simp [hb]
  have y : DctAt p ks as ws ({ objs := Array.replicate (max c p + 1) { cls := .none, data := .fields #[.none, .str q 0] } } : Heap) := by
    rw [e']; exact ⟨_, _, 0, hp c (by omega), rfl, rfl⟩
  obtain ⟨_, _, _, xs, _, _, _, o, es, ep, h1, h2, _⟩ := y
  rw [hp p (by omega)] at h1
  cases h1
  exact nomatch h2.1
def TabOk (tg : Addr → Option Str) (H : Hp) (P : Addr) : Prop := ∃ ps : Array Value, H P = some (.tbl ps) ∧ TriplesOk ps.toList ∧ ∀ q, tg P = some q → ∀ (pos : Pos) (cv : Value), codeAmong pos ps.toList = some cv → ∃ c, cv = .ref c ∧ H c = some (LamX.CodeO c q)
theorem TabOk.keep {tg : Addr → Option Str} {H H' : Hp} {P : Addr} (h : TabOk tg H P) (k : ∀ b o, H b = some o → TabLike o → H' b = some o) : TabOk tg H' P := by
  obtain ⟨ps, h1, h2, h3⟩ := h
  refine ⟨ps, k _ _ h1 (.inl ⟨_, rfl⟩), h2, fun q e pos cv hc => ?_⟩
  obtain ⟨c, e1, e2⟩ := h3 q e pos cv hc
  exact ⟨c, e1, k _ _ e2 (.inr ⟨_, _, rfl⟩)⟩
theorem TabOk.g {tg : Addr → Option Str} {H : Hp} {P : Addr} (h : TabOk tg H P) : GxR.TabG H P := let ⟨ps, h1, h2, _⟩ := h; ⟨ps, h1, h2⟩
theorem TabOk.s {tg : Addr → Option Str} {H : Hp} {P : Addr} {q : Str} (h : TabOk tg H P) (e : tg P = some q) : LamX.TabS H P q := let ⟨ps, h1, h2, h3⟩ := h; ⟨ps, h1, h2, h3 q e⟩
structure Rel (K : PySem.W.Frag) (tb : Tbs) (Mx : Addr → Prop) (W : List Addr) (σ : L2.St) (H : Hp) (env : MEnv) (st : Sto) : Prop where
  tab : ∀ P ∈ tb.ps, TabOk tb.tg H P
  mx : ∀ p, Mx p → H p ≠ none
  nd : W.Nodup
  wo : ∀ p ∈ W, ¬ Mx p ∧ ¬ Om env σ p
  om : ∀ p, Om env σ p → ¬ Mx p
  inj : ∀ (i j : Nat) (o o' : PO) (p : Addr), env[i]? = some (EV.own o) → σ[i]? = some (some (V.ref p)) → env[j]? = some (EV.own o') → σ[j]? = some (some (V.ref p)) → i = j
  el : env.length = σ.length
  len : W.length = st.length
  sto : ∀ (i : Nat) (p : Addr) (o : PO), W[i]? = some p → st[i]? = some o → RO K (Mt Mx W env σ) W H o p
  pv : ∀ (i : Nat) (v : PV), env[i]? = some (EV.pv v) → ∃ w, σ[i]? = some (some w) ∧ RF K (Mt Mx W env σ) W H v w
  own : ∀ (i : Nat) (o : PO), env[i]? = some (EV.own o) → ∃ p, σ[i]? = some (some (V.ref p)) ∧ RO K (Mt Mx W env σ) W H o p
structure Stp (K : PySem.W.Frag) (tb : Tbs) (Mx : Addr → Prop) (env : MEnv) (σ : L2.St) (W : List Addr) (H : Hp) (W' : List Addr) (H' : Hp) (st' : Sto) : Prop where
  rel : Rel K tb Mx W' σ H' env st'
  kp : ∀ b o, H b = some o → b ∉ W → NoTbl o → H' b = some o
  nt : ∀ b, H b ≠ none → H' b ≠ none
  pre : W <+: W'
  fr : ∀ b ∈ W', b ∈ W ∨ H b = none
section
variable {K : PySem.W.Frag} {tb : Tbs} {Mx : Addr → Prop} {W W' W1 W2 : List Addr} {σ : L2.St} {H H' H1 H2 : Hp} {env : MEnv} {st st' st1 st2 : Sto}
theorem RO.grow {M M' : Addr → Prop} {o : PO} {p : Addr} (g : Grow M M' W W' H H') (e : ∀ u, H p = some u → NoTbl u → H' p = some u) (h : RO K M W H o p) : RO K M' W' H' o p := by
  cases o with
  | lst xs =>
    obtain ⟨ws, e1, r⟩ := h
    exact ⟨ws, e _ e1 (fun ps z => nomatch z), RFs.grow g _ r⟩
  | dct ks vs =>
    obtain ⟨as, ws, e1, k, r⟩ := h
    exact ⟨as, ws, e _ e1 (fun ps z => nomatch z), KsOk.grow g k, RFs.grow g _ r⟩
  | dci ks vs =>
    obtain ⟨ws, e1, k, r⟩ := h
    exact ⟨ws, e _ e1 (fun ps z => nomatch z), k, RFs.grow g _ r⟩
theorem RO.some {M : Addr → Prop} {o : PO} {p : Addr} (h : RO K M W H o p) : ∃ u, H p = some u ∧ NoTbl u := by
  cases o with
  | lst xs => obtain ⟨ws, e, _⟩ := h; exact ⟨_, e, fun ps z => nomatch z⟩
  | dct ks vs => obtain ⟨as, ws, e, _⟩ := h; exact ⟨_, e, fun ps z => nomatch z⟩
  | dci ks vs => obtain ⟨ws, e, _⟩ := h; exact ⟨_, e, fun ps z => nomatch z⟩
theorem RO.nl {M : Addr → Prop} {o : PO} {p : Addr} (h : RO K M W H o p) : ∀ u, H p = Option.some u → ¬ TabLike u := by
  cases o with
  | lst xs =>
    obtain ⟨ws, e, _⟩ := h
    intro u hu z
    rw [e] at hu; cases hu
    rcases z with ⟨_, z⟩ | ⟨_, _, z⟩
    · cases z
    · unfold LamX.CodeO at z; cases z
  | dct ks vs =>
    obtain ⟨as, ws, e, _⟩ := h
    intro u hu z
    rw [e] at hu; cases hu
    rcases z with ⟨_, z⟩ | ⟨_, _, z⟩
    · unfold dctO at z; cases z
    · exact dctO_code z
  | dci ks vs =>
    obtain ⟨ws, e, _⟩ := h
    intro u hu z
    rw [e] at hu; cases hu
    rcases z with ⟨_, z⟩ | ⟨_, _, z⟩
    · cases z
    · unfold LamX.CodeO at z; cases z
theorem Rel.omS (r : Rel K tb Mx W σ H env st) {p : Addr} (h : Om env σ p) : ∃ u, H p = some u ∧ NoTbl u := by
  obtain ⟨i, o, e1, e2⟩ := h
  obtain ⟨q, e3, ro⟩ := r.own i o e1
  rw [e2] at e3; cases e3
  exact ro.some
theorem Rel.wS (r : Rel K tb Mx W σ H env st) {p : Addr} (h : p ∈ W) : ∃ u, H p = some u ∧ NoTbl u := by
  obtain ⟨i, hi, e⟩ := List.getElem_of_mem h
  have hs : i < st.length := by rw [← r.len]; exact hi
  exact (r.sto i p st[i] (by rw [List.getElem?_eq_getElem hi, e]) (List.getElem?_eq_getElem hs)).some
theorem Rel.omL (r : Rel K tb Mx W σ H env st) {p : Addr} (h : Om env σ p) : ∀ u, H p = some u → ¬ TabLike u := by
  obtain ⟨i, o, e1, e2⟩ := h
  obtain ⟨q, e3, ro⟩ := r.own i o e1
  rw [e2] at e3; cases e3
  exact ro.nl
theorem Rel.wL (r : Rel K tb Mx W σ H env st) {p : Addr} (h : p ∈ W) : ∀ u, H p = some u → ¬ TabLike u := by
  obtain ⟨i, hi, e⟩ := List.getElem_of_mem h
  have hs : i < st.length := by rw [← r.len]; exact hi
  exact (r.sto i p st[i] (by rw [List.getElem?_eq_getElem hi, e]) (List.getElem?_eq_getElem hs)).nl
theorem Rel.mtS (r : Rel K tb Mx W σ H env st) {p : Addr} (h : Mt Mx W env σ p) : H p ≠ none := by
  rcases h with h | h | h
  · obtain ⟨u, e, _⟩ := r.wS h; rw [e]; simp
  · exact r.mx p h
  · obtain ⟨u, e, _⟩ := r.omS h; rw [e]; simp
theorem Stp.refl (r : Rel K tb Mx W σ H env st) : Stp K tb Mx env σ W H W H st := ⟨r, fun _ _ h _ _ => h, fun _ h => h, List.prefix_refl _, fun _ h => .inl h⟩
theorem Stp.trans (a : Stp K tb Mx env σ W H W1 H1 st1) (b : Stp K tb Mx env σ W1 H1 W2 H2 st2) : Stp K tb Mx env σ W H W2 H2 st2 where
  rel := b.rel
  kp := fun c o h n t => b.kp c o (a.kp c o h n t) (fun z => (a.fr c z).elim n fun q => by rw [h] at q; cases q) t
  nt := fun c h => b.nt c (a.nt c h)
  pre := a.pre.trans b.pre
  fr := fun c h => by
    rcases b.fr c h with z | z
    · exact a.fr c z
    · right
      cases q : H c with
      | none => rfl
      | some u => exact absurd z (a.nt c (by rw [q]; simp))
theorem Stp.grow (a : Stp K tb Mx env σ W H W' H' st') : Grow (Mt Mx W env σ) (Mt Mx W' env σ) W W' H H' where
  kp := fun b o h n t => a.kp b o h (fun z => n (.inl z)) t
  mm := fun b h n z => by
    rcases z with z | z
    · rcases a.fr b z with y | y
      · exact n (.inl y)
      · exact h y
    · exact n (.inr z)
  pre := a.pre
theorem Rel.new {p : Addr} {o : HO} (r : Rel K tb Mx W σ H env st) (hp : H p = none) (no : NoTbl o) : Rel K tb (fun b => Mx b ∨ b = p) W σ (upd H p o) env st := by
  have ne : ∀ b, H b ≠ none → b ≠ p := fun b h z => h (z ▸ hp)
  have e : ∀ b, H b ≠ none → upd H p o b = H b := fun b h => upd_ne (ne b h)
  have g : Grow (Mt Mx W env σ) (Mt (fun b => Mx b ∨ b = p) W env σ) W W H (upd H p o) := ⟨fun b u h _ _ => by rw [e b (by rw [h]; simp)]; exact h,
    fun b h n z => by
      rcases z with z | (z | z) | z
      · exact n (.inl z)
      · exact n (.inr (.inl z))
      · exact ne b h z
      · exact n (.inr (.inr z)), List.prefix_refl _⟩
  have ge : ∀ b u, H b = some u → NoTbl u → upd H p o b = some u := fun b u h _ => by rw [e b (by rw [h]; simp)]; exact h
  refine ⟨fun P hP => ?_, fun b h => ?_, r.nd, fun b h => ⟨fun z => ?_, (r.wo b h).2⟩, fun b h z => ?_, r.inj, r.el, r.len, fun i q u h1 h2 => (r.sto i q u h1 h2).grow g (ge q), fun i v h => ?_, fun i u h => ?_⟩
  · exact (r.tab P hP).keep fun b o h _ => by rw [e b (by rw [h]; simp)]; exact h
  · rcases h with h | h
    · rw [e b (r.mx b h)]; exact r.mx b h
    · rw [h, upd_same]; simp
  · rcases z with z | z
    · exact (r.wo b h).1 z
    · exact ne b (r.mtS (.inl h)) z
  · rcases z with z | z
    · exact r.om b h z
    · exact ne b (r.mtS (.inr (.inr h))) z
  · obtain ⟨w, e1, e2⟩ := r.pv i v h
    exact ⟨w, e1, RF.grow g _ e2⟩
  · obtain ⟨q, e1, e2⟩ := r.own i u h
    exact ⟨q, e1, e2.grow g (ge q)⟩
theorem Rel.less {Mx' : Addr → Prop} (r : Rel K tb Mx W σ H env st) (h : ∀ b, Mx' b → Mx b) : Rel K tb Mx' W σ H env st := by
  have g : Grow (Mt Mx W env σ) (Mt Mx' W env σ) W W H H := Grow.less fun b z => by
    rcases z with z | z | z
    · exact .inl z
    · exact .inr (.inl (h b z))
    · exact .inr (.inr z)
  refine ⟨r.tab, fun b z => r.mx b (h b z), r.nd, fun b z => ⟨fun q => (r.wo b z).1 (h b q), (r.wo b z).2⟩, fun b z q => r.om b z (h b q), r.inj, r.el, r.len, fun i q u h1 h2 => (r.sto i q u h1 h2).grow g (fun _ e _ => e), fun i v z => ?_, fun i u z => ?_⟩
  · obtain ⟨w, e1, e2⟩ := r.pv i v z
    exact ⟨w, e1, RF.grow g _ e2⟩
  · obtain ⟨q, e1, e2⟩ := r.own i u z
    exact ⟨q, e1, e2.grow g (fun _ e _ => e)⟩
theorem Stp.new {p : Addr} {o : HO} (r : Rel K tb Mx W σ H env st) (hp : H p = none) (no : NoTbl o) : Stp K tb Mx env σ W H W (upd H p o) st where
  rel := (r.new hp no).less fun _ h => .inl h
  kp := fun b u h _ _ => by rw [upd_ne (fun z => by rw [z, hp] at h; cases h)]; exact h
  nt := fun b h => by
    by_cases e : b = p
    · rw [e, upd_same]; simp
    · rw [upd_ne e]; exact h
  pre := List.prefix_refl _
  fr := fun _ h => .inl h
theorem Mt.fresh {p : Addr} (r : Rel K tb Mx W σ H env st) (hp : H p = none) : ¬ Mt Mx W env σ p := fun h => r.mtS h hp
theorem Rel.toCall (r : Rel K tb Mx W σ H env st) : Rel K tb (fun b => Mx b ∨ Om env σ b) W [] H [] st := by
  have g : Grow (Mt Mx W env σ) (Mt (fun b => Mx b ∨ Om env σ b) W [] []) W W H H := Grow.less fun b z => by
    rcases z with z | (z | z) | ⟨i, o, z, _⟩
    · exact .inl z
    · exact .inr (.inl z)
    · exact .inr (.inr z)
    · simp at z
  refine ⟨r.tab, fun b h => ?_, r.nd, fun b h => ⟨fun z => ?_, fun ⟨i, o, z, _⟩ => by simp at z⟩, fun b ⟨i, o, z, _⟩ => by simp at z, fun i j o o' p z => by simp at z, rfl, r.len, fun i q u h1 h2 => (r.sto i q u h1 h2).grow g (fun _ e _ => e), fun i v z => by simp at z, fun i u z => by simp at z⟩
  · rcases h with h | h
    · exact r.mx b h
    · exact r.mtS (.inr (.inr h))
  · rcases z with z | z
    · exact (r.wo b h).1 z
    · exact (r.wo b h).2 z
theorem Mt.call {b : Addr} : Mt (fun b => Mx b ∨ Om env σ b) W [] [] b ↔ Mt Mx W env σ b := by
  constructor
  · intro z
    rcases z with z | (z | z) | ⟨i, o, z, _⟩
    · exact .inl z
    · exact .inr (.inl z)
    · exact .inr (.inr z)
    · simp at z
  · intro z
    rcases z with z | z | z
    · exact .inl z
    · exact .inr (.inl (.inl z))
    · exact .inr (.inl (.inr z))
structure KB (W0 : List Addr) (H0 : Hp) (O0 : Addr → Prop) (W : List Addr) (H : Hp) (O : Addr → Prop) : Prop where
  kp : ∀ b o, H0 b = some o → b ∉ W0 → ¬ O0 b → NoTbl o → H b = some o
  nt : ∀ b, H0 b ≠ none → H b ≠ none
  pre : W0 <+: W
  fr : ∀ b ∈ W, b ∈ W0 ∨ H0 b = none
  om : ∀ b, O b → O0 b ∨ H0 b = none
abbrev No : Addr → Prop := fun _ => False
theorem KB.refl {O : Addr → Prop} : KB W H O W H O := ⟨fun _ _ h _ _ _ => h, fun _ h => h, List.prefix_refl _, fun _ h => .inl h, fun _ h => .inl h⟩
theorem Stp.kb {O : Addr → Prop} (a : Stp K tb Mx env σ W H W' H' st') : KB W H O W' H' O := ⟨fun b o h n _ t => a.kp b o h n t, a.nt, a.pre, a.fr, fun _ h => .inl h⟩
theorem KB.trans {W0 : List Addr} {H0 : Hp} {O0 O O' : Addr → Prop} (a : KB W0 H0 O0 W H O) (b : KB W H O W' H' O') : KB W0 H0 O0 W' H' O' where
  kp := fun c o h n m t => b.kp c o (a.kp c o h n m t) (fun z => (a.fr c z).elim n fun q => by rw [h] at q; cases q) (fun z => (a.om c z).elim m fun q => by rw [h] at q; cases q) t
  nt := fun c h => b.nt c (a.nt c h)
  pre := a.pre.trans b.pre
  fr := fun c h => by
    rcases b.fr c h with z | z
    · exact a.fr c z
    · right
      cases q : H0 c with
      | none => rfl
      | some u => exact absurd z (a.nt c (by rw [q]; simp))
  om := fun c h => by
    rcases b.om c h with z | z
    · exact a.om c z
    · right
      cases q : H0 c with
      | none => rfl
      | some u => exact absurd z (a.nt c (by rw [q]; simp))
theorem KB.less {W0 : List Addr} {H0 : Hp} {O0 O O' : Addr → Prop} (a : KB W0 H0 O0 W H O) (h : ∀ b, O' b → O b) : KB W0 H0 O0 W H O' := ⟨a.kp, a.nt, a.pre, a.fr, fun b z => a.om b (h b z)⟩
theorem KB.none {W0 : List Addr} {H0 : Hp} {O0 O : Addr → Prop} (a : KB W0 H0 O0 W H O) : KB W0 H0 O0 W H No := a.less fun _ z => z.elim
theorem KB.grow {env' : MEnv} {σ' : L2.St} (a : KB W H (Om env σ) W' H' (Om env' σ')) : Grow (Mt Mx W env σ) (Mt Mx W' env' σ') W W' H H' where
  kp := fun b o h n t => a.kp b o h (fun z => n (.inl z)) (fun z => n (.inr (.inr z))) t
  mm := fun b h n z => by
    rcases z with z | z | z
    · rcases a.fr b z with y | y
      · exact n (.inl y)
      · exact h y
    · exact n (.inr (.inl z))
    · rcases a.om b z with y | y
      · exact n (.inr (.inr y))
      · exact h y
  pre := a.pre
theorem Rel.back (r : Rel K tb Mx W σ H env st) (r' : Rel K tb (fun b => Mx b ∨ Om env σ b) W' [] H' [] st') (k : KB W H No W' H' No) : Stp K tb Mx env σ W H W' H' st' := by
  have g : Grow (Mt Mx W env σ) (Mt Mx W' env σ) W W' H H' := (KB.mk (fun b o h n _ t => k.kp b o h n (fun z => z) t) k.nt k.pre k.fr (fun _ h => .inl h) : KB W H (Om env σ) W' H' (Om env σ)).grow
  have g2 : Grow (Mt (fun b => Mx b ∨ Om env σ b) W' [] []) (Mt Mx W' env σ) W' W' H' H' := Grow.less fun b z => Mt.call.mpr z
  refine ⟨⟨r'.tab, fun b h => k.nt b (r.mx b h), r'.nd, fun b h => ⟨fun z => (r'.wo b h).1 (.inl z), fun z => (r'.wo b h).1 (.inr z)⟩, r.om, r.inj, r.el, r'.len, fun i q u h1 h2 => (r'.sto i q u h1 h2).grow g2 (fun _ e _ => e), fun i v h => ?_, fun i u h => ?_⟩, fun b o h n t => k.kp b o h n (fun z => z) t, k.nt, k.pre, k.fr⟩
  · obtain ⟨w, e1, e2⟩ := r.pv i v h
    exact ⟨w, e1, RF.grow g _ e2⟩
  · obtain ⟨q, e1, e2⟩ := r.own i u h
    have no : q ∉ W := fun z => (r.wo q z).2 ⟨i, u, h, e1⟩
    exact ⟨q, e1, e2.grow g fun x hx nx => k.kp q x hx no (fun z => z) nx⟩
end
inductive Md where | R | F | N
def RX (mg : Str → Option Value) (H : Hp) (x : MExc) (cls : Value) (d : Option Addr) : Prop := mg x.cls = some cls ∧ ((x.arg = .non ∧ d = none) ∨ x.arg = .bl true)
section
variable (K : PySem.W.Frag) (mg : Str → Option Value) (tb : Tbs) (Mx : Addr → Prop) (W : List Addr) (σ : L2.St) (H : Hp) (env : MEnv)
def RM (md : Md) (W' : List Addr) (H' : Hp) (st' : Sto) (v : PV) (w : V) : Prop := match md with
  | .R => RV K (Mt Mx W' env σ) W' H' v w
  | .F => RF K (Mt Mx W' env σ) W' H' v w
  | .N => ∃ xs p ws, v = .lst xs ∧ w = .ref p ∧ H p = none ∧ ¬ Mx p ∧ H' p = some (.lst ws) ∧ Rel K tb (fun b => Mx b ∨ b = p) W' σ H' env st' ∧ RFs K (Mt (fun b => Mx b ∨ b = p) W' env σ) W' H' xs ws
def EPost (Wx : WX) (md : Md) (r : MRes PV) (Q : VK) : Prop := match r with
  | .ok v st' => ∀ W' H' w, Stp K tb Mx env σ W H W' H' st' → RM K tb Mx σ H env md W' H' st' v w → Q w H'
  | .exc x st' => ∀ W' H' cls d, Stp K tb Mx env σ W H W' H' st' → RX mg H' x cls d → Wx cls d σ H'
  | .bad => False
def TPost (Wx : WX) (r : MRes Bool) (Q : Bool → Hp → Prop) : Prop := match r with
  | .ok v st' => ∀ W' H', Stp K tb Mx env σ W H W' H' st' → Q v H'
  | .exc x st' => ∀ W' H' cls d, Stp K tb Mx env σ W H W' H' st' → RX mg H' x cls d → Wx cls d σ H'
  | .bad => False
def RVs (M : Addr → Prop) (xs : List PV) (ws : List V) : Prop := Paired (RV K M W H) xs ws
def RMs (fz : Bool) (M : Addr → Prop) (xs : List PV) (ws : List V) : Prop := if fz then RFs K M W H xs ws else RVs K W H M xs ws
def APost (Wx : WX) (fz : Bool) (r : MRes (List PV)) (Q : List V → Hp → Prop) : Prop := match r with
  | .ok vs st' => ∀ W' H' ws, Stp K tb Mx env σ W H W' H' st' → RMs K W' H' fz (Mt Mx W' env σ) vs ws → Q ws H'
  | .exc x st' => ∀ W' H' cls d, Stp K tb Mx env σ W H W' H' st' → RX mg H' x cls d → Wx cls d σ H'
  | .bad => False
end
def tM (K : PySem.W.Frag) (mg : Str → Option Value) (tb : Tbs) (Wx : WX) (md : Md) (m : EM) : TE := fun σ H Q =>
  ∃ Mx W env st, Rel K tb Mx W σ H env st ∧ EPost K mg tb Mx W σ H env Wx md (m env st) Q
def tMT (K : PySem.W.Frag) (mg : Str → Option Value) (tb : Tbs) (Wx : WX) (m : TM) : TT := fun σ H Q =>
  ∃ Mx W env st, Rel K tb Mx W σ H env st ∧ TPost K mg tb Mx W σ H env Wx (m env st) Q
def tMA (K : PySem.W.Frag) (mg : Str → Option Value) (tb : Tbs) (Wx : WX) (fz : Bool) (m : AM) : TA := fun σ H Q =>
  ∃ Mx W env st, Rel K tb Mx W σ H env st ∧ APost K mg tb Mx W σ H env Wx fz (m env st) Q
def SPost (K : PySem.W.Frag) (mg : Str → Option Value) (tb : Tbs) (Mx : Addr → Prop) (W0 : List Addr) (H0 : Hp) (O0 : Addr → Prop) (Wx : WX) (r : MFlow) (D : Ends) : Prop := match r with
  | .nx env' st' => ∀ σ' W' H', Rel K tb Mx W' σ' H' env' st' → KB W0 H0 O0 W' H' (Om env' σ') → D.nx σ' H'
  | .bk env' st' => ∀ σ' W' H', Rel K tb Mx W' σ' H' env' st' → KB W0 H0 O0 W' H' (Om env' σ') → D.bk σ' H'
  | .ct env' st' => ∀ σ' W' H', Rel K tb Mx W' σ' H' env' st' → KB W0 H0 O0 W' H' (Om env' σ') → D.ct σ' H'
  | .rt v st' => ∀ W' H' w, Rel K tb Mx W' [] H' [] st' → KB W0 H0 O0 W' H' No → RF K (Mt Mx W' [] []) W' H' v w → D.rt w H'
  | .ex x st' => ∀ σ' W' H' cls d, Rel K tb Mx W' [] H' [] st' → KB W0 H0 O0 W' H' No → RX mg H' x cls d → Wx cls d σ' H'
  | .bad => False
def tS (K : PySem.W.Frag) (mg : Str → Option Value) (tb : Tbs) (Wx : WX) (m : SM) : TS := fun D σ H =>
  ∃ Mx W0 H0 O0 W env st, Rel K tb Mx W σ H env st ∧ KB W0 H0 O0 W H (Om env σ) ∧ SPost K mg tb Mx W0 H0 O0 Wx (m env st) D
abbrev EOk (X : Cx) (tb : Tbs) (Wx : WX) (md : Md) (e : Expr) (m : EM) : Prop := PE X e (tM X.K X.mg tb Wx md m)
abbrev TOk (X : Cx) (tb : Tbs) (Wx : WX) (e : Expr) (m : TM) : Prop := PT X e (tMT X.K X.mg tb Wx m)
abbrev AOk (X : Cx) (tb : Tbs) (Wx : WX) (fz : Bool) (es : List Expr) (m : AM) : Prop := PA X es (tMA X.K X.mg tb Wx fz m)
abbrev SOk (X : Cx) (tb : Tbs) (Wx : WX) (s : Stmt) (m : SM) : Prop := PS X s (tS X.K X.mg tb Wx m)
abbrev BOk (X : Cx) (tb : Tbs) (Wx : WX) (s : List Stmt) (m : SM) : Prop := PSs X s (tS X.K X.mg tb Wx m)
theorem PE_mono {X : Cx} {e : Expr} {t t' : TE} (h : PE X e t) (i : ∀ σ H Q, t' σ H Q → t σ H Q) : PE X e t' := ⟨fun pins s σ H Q I q => h.run pins s σ H Q I (i σ H Q q)⟩
theorem PT_mono {X : Cx} {e : Expr} {t t' : TT} (h : PT X e t) (i : ∀ σ H Q, t' σ H Q → t σ H Q) : PT X e t' := ⟨fun pins s σ H Q I q => h.run pins s σ H Q I (i σ H Q q)⟩
theorem PW_mono {X : Cx} {e : Expr} {t t' : TT} (h : PW X e t) (i : ∀ σ H Q, t' σ H Q → t σ H Q) : PW X e t' := ⟨fun wh pins s σ H Q I q => h.run wh pins s σ H Q I (i σ H Q q)⟩
theorem PA_mono {X : Cx} {e : List Expr} {t t' : TA} (h : PA X e t) (i : ∀ σ H Q, t' σ H Q → t σ H Q) : PA X e t' := ⟨fun pos pins s σ H Q I q => h.run pos pins s σ H Q I (i σ H Q q)⟩
theorem PS_mono {X : Cx} {e : Stmt} {t t' : TS} (h : PS X e t) (i : ∀ D σ H, t' D σ H → t D σ H) : PS X e t' := ⟨fun pins s σ H D I q => h.run pins s σ H D I (i D σ H q)⟩
theorem PSs_mono {X : Cx} {e : List Stmt} {t t' : TS} (h : PSs X e t) (i : ∀ D σ H, t' D σ H → t D σ H) : PSs X e t' := ⟨fun pins s σ H D I q => h.run pins s σ H D I (i D σ H q)⟩
def bindR {α β : Type} (r : MRes α) (f : α → Sto → MRes β) : MRes β := match r with
  | .ok a s => f a s
  | .exc x s => .exc x s
  | .bad => .bad
def bindF {α : Type} (r : MRes α) (f : α → Sto → MFlow) : MFlow := match r with
  | .ok a s => f a s
  | .exc x s => .ex x s
  | .bad => .bad
section
variable {K : PySem.W.Frag} {mg : Str → Option Value} {tb : Tbs} {Mx : Addr → Prop} {W W1 W0 : List Addr} {σ : L2.St} {H H1 H0 : Hp} {env : MEnv} {st st1 : Sto} {Wx : WX} {md md1 : Md} {fz : Bool} {O0 : Addr → Prop}
theorem EPost.from {r : MRes PV} {Q : VK} (a : Stp K tb Mx env σ W H W1 H1 st1) (h : EPost K mg tb Mx W σ H env Wx md r Q) : EPost K mg tb Mx W1 σ H1 env Wx md r Q := by
  cases r with
  | bad => exact h
  | exc x s => exact fun W' H' cls d b => h W' H' cls d (a.trans b)
  | ok v s =>
    intro W' H' w b rm
    refine h W' H' w (a.trans b) ?_
    cases md with
    | R => exact rm
    | F => exact rm
    | N =>
      obtain ⟨xs, p, ws, e1, e2, e3, e4, e5⟩ := rm
      refine ⟨xs, p, ws, e1, e2, ?_, e4, e5⟩
      cases q : H p with
      | none => rfl
      | some u => exact absurd e3 (a.nt p (by rw [q]; simp))
theorem TPost.from {r : MRes Bool} {Q : Bool → Hp → Prop} (a : Stp K tb Mx env σ W H W1 H1 st1) (h : TPost K mg tb Mx W σ H env Wx r Q) : TPost K mg tb Mx W1 σ H1 env Wx r Q := by
  cases r with
  | bad => exact h
  | exc x s => exact fun W' H' cls d b => h W' H' cls d (a.trans b)
  | ok v s => exact fun W' H' b => h W' H' (a.trans b)
theorem APost.from {r : MRes (List PV)} {Q : List V → Hp → Prop} (a : Stp K tb Mx env σ W H W1 H1 st1) (h : APost K mg tb Mx W σ H env Wx fz r Q) : APost K mg tb Mx W1 σ H1 env Wx fz r Q := by
  cases r with
  | bad => exact h
  | exc x s => exact fun W' H' cls d b => h W' H' cls d (a.trans b)
  | ok v s => exact fun W' H' w b => h W' H' w (a.trans b)
theorem ebindE {ma : EM} {f : PV → Sto → MRes PV} {Q : VK} {Q1 : VK} (rel : Rel K tb Mx W σ H env st) (post : EPost K mg tb Mx W σ H env Wx md (bindR (ma env st) f) Q)
    (k : ∀ v s W1 H1 w, Stp K tb Mx env σ W H W1 H1 s → RM K tb Mx σ H env md1 W1 H1 s v w → EPost K mg tb Mx W1 σ H1 env Wx md (f v s) Q → Q1 w H1) : tM K mg tb Wx md1 ma σ H Q1 := by
  refine ⟨Mx, W, env, st, rel, ?_⟩
  cases e : ma env st with
  | bad => rw [e] at post; exact post
  | exc x s => rw [e] at post; exact post
  | ok v s =>
    rw [e] at post
    exact fun W1 H1 w a rm => k v s W1 H1 w a rm (EPost.from a post)
theorem ebindT {ma : EM} {f : PV → Sto → MRes Bool} {Q : Bool → Hp → Prop} {Q1 : VK} (rel : Rel K tb Mx W σ H env st) (post : TPost K mg tb Mx W σ H env Wx (bindR (ma env st) f) Q)
    (k : ∀ v s W1 H1 w, Stp K tb Mx env σ W H W1 H1 s → RM K tb Mx σ H env md1 W1 H1 s v w → TPost K mg tb Mx W1 σ H1 env Wx (f v s) Q → Q1 w H1) : tM K mg tb Wx md1 ma σ H Q1 := by
  refine ⟨Mx, W, env, st, rel, ?_⟩
  cases e : ma env st with
  | bad => rw [e] at post; exact post
  | exc x s => rw [e] at post; exact post
  | ok v s =>
    rw [e] at post
    exact fun W1 H1 w a rm => k v s W1 H1 w a rm (TPost.from a post)
theorem ebindA {ma : EM} {f : PV → Sto → MRes (List PV)} {Q : List V → Hp → Prop} {Q1 : VK} (rel : Rel K tb Mx W σ H env st) (post : APost K mg tb Mx W σ H env Wx fz (bindR (ma env st) f) Q)
    (k : ∀ v s W1 H1 w, Stp K tb Mx env σ W H W1 H1 s → RM K tb Mx σ H env md1 W1 H1 s v w → APost K mg tb Mx W1 σ H1 env Wx fz (f v s) Q → Q1 w H1) : tM K mg tb Wx md1 ma σ H Q1 := by
  refine ⟨Mx, W, env, st, rel, ?_⟩
  cases e : ma env st with
  | bad => rw [e] at post; exact post
  | exc x s => rw [e] at post; exact post
  | ok v s =>
    rw [e] at post
    exact fun W1 H1 w a rm => k v s W1 H1 w a rm (APost.from a post)
theorem tbindE {ma : TM} {f : Bool → Sto → MRes PV} {Q : VK} {Q1 : Bool → Hp → Prop} (rel : Rel K tb Mx W σ H env st) (post : EPost K mg tb Mx W σ H env Wx md (bindR (ma env st) f) Q)
    (k : ∀ v s W1 H1, Stp K tb Mx env σ W H W1 H1 s → EPost K mg tb Mx W1 σ H1 env Wx md (f v s) Q → Q1 v H1) : tMT K mg tb Wx ma σ H Q1 := by
  refine ⟨Mx, W, env, st, rel, ?_⟩
  cases e : ma env st with
  | bad => rw [e] at post; exact post
  | exc x s => rw [e] at post; exact post
  | ok v s =>
    rw [e] at post
    exact fun W1 H1 a => k v s W1 H1 a (EPost.from a post)
theorem tbindT {ma : TM} {f : Bool → Sto → MRes Bool} {Q : Bool → Hp → Prop} {Q1 : Bool → Hp → Prop} (rel : Rel K tb Mx W σ H env st) (post : TPost K mg tb Mx W σ H env Wx (bindR (ma env st) f) Q)
    (k : ∀ v s W1 H1, Stp K tb Mx env σ W H W1 H1 s → TPost K mg tb Mx W1 σ H1 env Wx (f v s) Q → Q1 v H1) : tMT K mg tb Wx ma σ H Q1 := by
  refine ⟨Mx, W, env, st, rel, ?_⟩
  cases e : ma env st with
  | bad => rw [e] at post; exact post
  | exc x s => rw [e] at post; exact post
  | ok v s =>
    rw [e] at post
    exact fun W1 H1 a => k v s W1 H1 a (TPost.from a post)
theorem abindE {ma : AM} {f : List PV → Sto → MRes PV} {Q : VK} {Q1 : List V → Hp → Prop} (rel : Rel K tb Mx W σ H env st) (post : EPost K mg tb Mx W σ H env Wx md (bindR (ma env st) f) Q)
    (k : ∀ vs s W1 H1 ws, Stp K tb Mx env σ W H W1 H1 s → RMs K W1 H1 fz (Mt Mx W1 env σ) vs ws → EPost K mg tb Mx W1 σ H1 env Wx md (f vs s) Q → Q1 ws H1) : tMA K mg tb Wx fz ma σ H Q1 := by
  refine ⟨Mx, W, env, st, rel, ?_⟩
  cases e : ma env st with
  | bad => rw [e] at post; exact post
  | exc x s => rw [e] at post; exact post
  | ok v s =>
    rw [e] at post
    exact fun W1 H1 w a rm => k v s W1 H1 w a rm (EPost.from a post)
theorem abindA {ma : AM} {f : List PV → Sto → MRes (List PV)} {Q : List V → Hp → Prop} {Q1 : List V → Hp → Prop} (rel : Rel K tb Mx W σ H env st) (post : APost K mg tb Mx W σ H env Wx fz (bindR (ma env st) f) Q)
    (k : ∀ vs s W1 H1 ws, Stp K tb Mx env σ W H W1 H1 s → RMs K W1 H1 fz (Mt Mx W1 env σ) vs ws → APost K mg tb Mx W1 σ H1 env Wx fz (f vs s) Q → Q1 ws H1) : tMA K mg tb Wx fz ma σ H Q1 := by
  refine ⟨Mx, W, env, st, rel, ?_⟩
  cases e : ma env st with
  | bad => rw [e] at post; exact post
  | exc x s => rw [e] at post; exact post
  | ok v s =>
    rw [e] at post
    exact fun W1 H1 w a rm => k v s W1 H1 w a rm (APost.from a post)
theorem Rel.bare (r : Rel K tb Mx W σ H env st) : Rel K tb Mx W [] H [] st := r.toCall.less fun _ h => .inl h
theorem Mt.bare {b : Addr} (h : Mt Mx W [] [] b) : Mt Mx W env σ b := by
  rcases h with h | h | ⟨i, o, z, _⟩
  · exact .inl h
  · exact .inr (.inl h)
  · simp at z
theorem ebindS {ma : EM} {f : PV → Sto → MFlow} {D : Ends} {Q1 : VK} (rel : Rel K tb Mx W σ H env st) (kb : KB W0 H0 O0 W H (Om env σ)) (post : SPost K mg tb Mx W0 H0 O0 Wx (bindF (ma env st) f) D)
    (k : ∀ v s W1 H1 w, Stp K tb Mx env σ W H W1 H1 s → KB W0 H0 O0 W1 H1 (Om env σ) → RM K tb Mx σ H env md1 W1 H1 s v w → SPost K mg tb Mx W0 H0 O0 Wx (f v s) D → Q1 w H1) : tM K mg tb Wx md1 ma σ H Q1 := by
  refine ⟨Mx, W, env, st, rel, ?_⟩
  cases e : ma env st with
  | bad => rw [e] at post; exact post
  | exc x s => rw [e] at post; exact fun W1 H1 cls d a rx => post σ W1 H1 cls d a.rel.bare (kb.trans a.kb).none rx
  | ok v s =>
    rw [e] at post
    exact fun W1 H1 w a rm => k v s W1 H1 w a (kb.trans a.kb) rm post
theorem tbindS {ma : TM} {f : Bool → Sto → MFlow} {D : Ends} {Q1 : Bool → Hp → Prop} (rel : Rel K tb Mx W σ H env st) (kb : KB W0 H0 O0 W H (Om env σ)) (post : SPost K mg tb Mx W0 H0 O0 Wx (bindF (ma env st) f) D)
    (k : ∀ v s W1 H1, Stp K tb Mx env σ W H W1 H1 s → KB W0 H0 O0 W1 H1 (Om env σ) → SPost K mg tb Mx W0 H0 O0 Wx (f v s) D → Q1 v H1) : tMT K mg tb Wx ma σ H Q1 := by
  refine ⟨Mx, W, env, st, rel, ?_⟩
  cases e : ma env st with
  | bad => rw [e] at post; exact post
  | exc x s => rw [e] at post; exact fun W1 H1 cls d a rx => post σ W1 H1 cls d a.rel.bare (kb.trans a.kb).none rx
  | ok v s =>
    rw [e] at post
    exact fun W1 H1 a => k v s W1 H1 a (kb.trans a.kb) post
theorem RM.toF {W1 : List Addr} {H1 : Hp} {s : Sto} {v : PV} {w : V} (h : RM K tb Mx σ H env .N W1 H1 s v w) : RM K tb Mx σ H env .F W1 H1 s v w := by
  obtain ⟨xs, p, ws, rfl, rfl, e3, nm, e4, r, rs⟩ := h
  show RF _ _ _ _ (.lst xs) (.ref p)
  unfold RF
  refine ⟨p, ws, rfl, .inl ⟨.inl e4, fun z => ?_⟩, RFs.grow (Grow.less fun b z => ?_) _ rs⟩
  · rcases z with z | z | z
    · exact (r.wo p z).1 (.inr rfl)
    · exact nm z
    · exact r.om p z (.inr rfl)
  · rcases z with z | z | z
    · exact .inl z
    · exact .inr (.inl (.inl z))
    · exact .inr (.inr z)
theorem RM.toR {W1 : List Addr} {H1 : Hp} {s : Sto} {v : PV} {w : V} (h : RM K tb Mx σ H env .F W1 H1 s v w) : RM K tb Mx σ H env .R W1 H1 s v w := Or.inl h
end
theorem e_toF {X : Cx} {tb : Tbs} {Wx : WX} {e : Expr} {m : EM} (h : EOk X tb Wx .N e m) : EOk X tb Wx .F e m := PE_mono h fun σ H Q ⟨Mx, W, env, st, rel, post⟩ => ⟨Mx, W, env, st, rel, by
  cases q : m env st with
  | bad => rw [q] at post; exact post
  | exc x s => rw [q] at post; exact post
  | ok v s => rw [q] at post; exact fun W' H' w a rm => post W' H' w a rm.toF⟩
theorem e_toR {X : Cx} {tb : Tbs} {Wx : WX} {e : Expr} {m : EM} (h : EOk X tb Wx .F e m) : EOk X tb Wx .R e m := PE_mono h fun σ H Q ⟨Mx, W, env, st, rel, post⟩ => ⟨Mx, W, env, st, rel, by
  cases q : m env st with
  | bad => rw [q] at post; exact post
  | exc x s => rw [q] at post; exact post
  | ok v s => rw [q] at post; exact fun W' H' w a rm => post W' H' w a rm.toR⟩
end Mp
end
section
set_option maxRecDepth 100000
set_option maxHeartbeats 1000000
namespace Mp
open PySem PySem.Spec PyProof.Rows L2
mutual
def pd : Nat → PV → Bool
  | _, .non => true
  | _, .bl _ => true
  | _, .int _ => true
  | _, .str s => PyData.canLay0 (.str s)
  | 0, .tup _ => false
  | 0, .lst _ => false
  | n + 1, .tup xs => pds n xs
  | n + 1, .lst xs => pds n xs
  | _, .ref _ => false
  | _, .fn _ => false
  | _, .dct _ _ => false
def pds : Nat → List PV → Bool
  | _, [] => true
  | n, x :: xs => pd n x && pds n xs
end
mutual
def pvEq : PV → PV → Bool
  | .non, .non => true
  | .bl a, .bl b => a == b
  | .bl a, .int j => (if a then 1 else 0) == j
  | .int i, .bl b => i == (if b then 1 else 0)
  | .int i, .int j => i == j
  | .str x, .str y => x == y
  | .lst xs, .lst ys => pvEqs xs ys
  | .tup xs, .tup ys => pvEqs xs ys
  | _, _ => false
def pvEqs : List PV → List PV → Bool
  | [], [] => true
  | x :: xs, y :: ys => pvEq x y && pvEqs xs ys
  | _, _ => false
end
mutual
def toD : PV → PyData
  | .non => .none
  | .bl b => .bool b
  | .int i => .int i
  | .str s => .str s
  | .tup xs => .tuple (toDs xs)
  | .lst xs => .list (toDs xs)
  | .ref _ => .none
  | .fn _ => .none
  | .dct _ _ => .none
def toDs : List PV → List PyData
  | [] => []
  | x :: xs => toD x :: toDs xs
end
mutual
theorem pvEq_toD : ∀ (n m : Nat) (a b : PV), pd n a = true → pd m b = true → PyData.eqv (toD a) (toD b) = pvEq a b
  | n, m, .ref _, b, h, _ => by unfold pd at h; cases h
  | n, m, a, .ref _, _, h => by unfold pd at h; cases h
  | n, m, .fn _, b, h, _ => by unfold pd at h; cases h
  | n, m, .dct _ _, b, h, _ => by unfold pd at h; cases h
  | n, m, a, .fn _, _, h => by unfold pd at h; cases h
  | n, m, a, .dct _ _, _, h => by unfold pd at h; cases h
  | n, m, .non, b, _, hb => by cases b <;> first | rfl | (simp [toD, pvEq, PyData.eqv]; done) | (unfold pd at hb; cases hb)
  | n, m, .bl x, b, _, _ => by cases b <;> first | rfl | (simp [toD, pvEq, PyData.eqv])
  | n, m, .int x, b, _, _ => by cases b <;> first | rfl | (simp [toD, pvEq, PyData.eqv])
  | n, m, .str x, b, _, _ => by cases b <;> first | rfl | (simp [toD, pvEq, PyData.eqv])
  | 0, _, .tup xs, b, h, _ => by unfold pd at h; cases h
  | n + 1, m, .tup xs, .tup ys, h, h' => by
    cases m with
    | zero => unfold pd at h'; cases h'
    | succ m =>
      unfold pd at h h'
      simp only [toD, pvEq, PyData.eqv]
      exact pvEqs_toDs n m xs ys h h'
  | n + 1, m, .tup xs, .non, _, _ => by simp [toD, pvEq, PyData.eqv]
  | n + 1, m, .tup xs, .bl _, _, _ => by simp [toD, pvEq, PyData.eqv]
  | n + 1, m, .tup xs, .int _, _, _ => by simp [toD, pvEq, PyData.eqv]
  | n + 1, m, .tup xs, .str _, _, _ => by simp [toD, pvEq, PyData.eqv]
  | n + 1, m, .tup xs, .lst _, _, _ => by simp [toD, pvEq, PyData.eqv]
  | 0, _, .lst xs, b, h, _ => by unfold pd at h; cases h
  | n + 1, m, .lst xs, .lst ys, h, h' => by
    cases m with
    | zero => unfold pd at h'; cases h'
    | succ m =>
      unfold pd at h h'
      simp only [toD, pvEq, PyData.eqv]
      exact pvEqs_toDs n m xs ys h h'
  | n + 1, m, .lst xs, .non, _, _ => by simp [toD, pvEq, PyData.eqv]
  | n + 1, m, .lst xs, .bl _, _, _ => by simp [toD, pvEq, PyData.eqv]
  | n + 1, m, .lst xs, .int _, _, _ => by simp [toD, pvEq, PyData.eqv]
  | n + 1, m, .lst xs, .str _, _, _ => by simp [toD, pvEq, PyData.eqv]
  | n + 1, m, .lst xs, .tup _, _, _ => by simp [toD, pvEq, PyData.eqv]
theorem pvEqs_toDs : ∀ (n m : Nat) (a b : List PV), pds n a = true → pds m b = true → PyData.eqvAll (toDs a) (toDs b) = pvEqs a b
  | n, m, [], [], _, _ => by simp [toDs, pvEqs, PyData.eqvAll]
  | n, m, [], y :: ys, _, _ => by simp [toDs, pvEqs, PyData.eqvAll]
  | n, m, x :: xs, [], _, _ => by simp [toDs, pvEqs, PyData.eqvAll]
  | n, m, x :: xs, y :: ys, h, h' => by
    unfold pds at h h'
    rw [Bool.and_eq_true] at h h'
    simp only [toDs, pvEqs, PyData.eqvAll]
    rw [pvEq_toD n m x y h.1 h'.1, pvEqs_toDs n m xs ys h.2 h'.2]
end
mutual
theorem pd_lay : ∀ (n : Nat) (a : PV), pd n a = true → PyData.canLay0 (toD a) = true ∧ (toD a).depth ≤ n + 1
  | n, .non, _ => ⟨rfl, by simp [toD, PyData.depth]⟩
  | n, .bl _, _ => ⟨rfl, by simp [toD, PyData.depth]⟩
  | n, .int _, _ => ⟨rfl, by simp [toD, PyData.depth]⟩
  | n, .str s, h => by
    have h' : PyData.canLay0 (.str s) = true := by
      cases n <;> (unfold pd at h; exact h)
    exact ⟨h', by simp [toD, PyData.depth]⟩
  | 0, .tup _, h => by unfold pd at h; cases h
  | 0, .lst _, h => by unfold pd at h; cases h
  | n + 1, .tup xs, h => by
    unfold pd at h
    obtain ⟨h1, h2⟩ := pds_lay n xs h
    refine ⟨by simp only [toD]; unfold PyData.canLay0; exact h1, ?_⟩
    simp only [toD, PyData.depth]; omega
  | n + 1, .lst xs, h => by
    unfold pd at h
    obtain ⟨h1, h2⟩ := pds_lay n xs h
    refine ⟨by simp only [toD]; unfold PyData.canLay0; exact h1, ?_⟩
    simp only [toD, PyData.depth]; omega
  | n, .ref _, h => by unfold pd at h; cases h
  | n, .fn _, h => by unfold pd at h; cases h
  | n, .dct _ _, h => by unfold pd at h; cases h
theorem pds_lay : ∀ (n : Nat) (a : List PV), pds n a = true → PyData.canLayAll0 (toDs a) = true ∧ PyData.depthAll (toDs a) ≤ n + 1
  | n, [], _ => ⟨rfl, by simp [toDs, PyData.depthAll]⟩
  | n, x :: xs, h => by
    unfold pds at h
    rw [Bool.and_eq_true] at h
    obtain ⟨h1, h2⟩ := pd_lay n x h.1
    obtain ⟨h3, h4⟩ := pds_lay n xs h.2
    refine ⟨by simp only [toDs]; unfold PyData.canLayAll0; rw [h1, h3]; rfl, ?_⟩
    simp only [toDs, PyData.depthAll]; omega
end
end Mp
end
section
set_option maxRecDepth 100000
set_option maxHeartbeats 1000000
namespace Mp
open PySem PySem.Spec PyProof.Rows L2
section
variable {K : PySem.W.Frag} {mg : Str → Option Value} {tb : Tbs} {Mx M : Addr → Prop} {W W' W1 W0 : List Addr} {σ : L2.St} {H H' H1 H0 : Hp} {env : MEnv} {st st' st1 : Sto} {Wx : WX} {md md1 : Md} {fz : Bool}
theorem RV.stp {v : PV} {w : V} (a : Stp K tb Mx env σ W H W' H' st') (h : RV K (Mt Mx W env σ) W H v w) : RV K (Mt Mx W' env σ) W' H' v w := by
  rcases h with h | ⟨xs, p, ws, e1, e2, e3, e4, e5⟩
  · exact .inl (RF.grow a.grow _ h)
  · refine .inr ⟨xs, p, ws, e1, e2, a.kp p _ e3 e4 (fun ps z => nomatch z), fun z => ?_, RFs.grow a.grow _ e5⟩
    rcases a.fr p z with y | y
    · exact e4 y
    · rw [e3] at y; cases y
theorem RV.lst {xs : List PV} {w : V} (h : RV K M W H (.lst xs) w) : ∃ p ws, w = .ref p ∧ SqL K H p ws ∧ RFs K M W H xs ws := by
  rcases h with h | ⟨ys, p, ws, e1, e2, e3, e4, e5⟩
  · unfold RF at h
    obtain ⟨p, ws, e, h1, h2⟩ := h
    exact ⟨p, ws, e, h1.sq, h2⟩
  · cases e1
    exact ⟨p, ws, e2, .of e3, e5⟩
def LsL (K : PySem.W.Frag) (H : Hp) (p : Addr) (ws : List V) : Prop := Rd H p (.lst ws) ∨ ∃ (its : Array Value) (n : Nat), K.lookup p = some { cls := .type "list", data := .seq its n } ∧ its.size ≤ sizeLine ∧ Vals ws its.toList
theorem RV.lstL {xs : List PV} {w : V} (h : RV K M W H (.lst xs) w) : ∃ p ws, w = .ref p ∧ LsL K H p ws ∧ RFs K M W H xs ws := by
  rcases h with h | ⟨ys, p, ws, e1, e2, e3, e4, e5⟩
  · unfold RF at h
    obtain ⟨p, ws, e, h1, h2⟩ := h
    exact ⟨p, ws, e, h1.elim (fun h => .inl h.1) .inr, h2⟩
  · cases e1
    exact ⟨p, ws, e2, .inl (.inl e3), e5⟩
theorem LsL.isL {X : Cx} {pins : List (Addr × Obj)} {s : Shared} {p : Addr} {ws : List V} (I : Inv X pins σ H s) (h : LsL X.K H p ws) : ∃ (its : List Value) (n : Nat), Vals ws its ∧ s.heap.get? p = some { cls := .type "list", data := .seq its.toArray n } ∧ ws.length ≤ sizeLine := by
  rcases h with h | ⟨its, n, h1, h2, h3⟩
  · obtain ⟨z, its, n, r, e⟩ := h.ok I.hok
    exact ⟨its, n, r, e, z⟩
  · refine ⟨its.toList, n, h3, by simpa using I.kIn p _ h1, ?_⟩
    have e := h3.length
    simp only [Array.length_toList] at e
    omega
theorem RV.tup {xs : List PV} {w : V} (h : RV K M W H (.tup xs) w) : ∃ p ws, w = .ref p ∧ SqT K H p ws ∧ RFs K M W H xs ws := by
  rcases h with h | ⟨ys, p, ws, e1, e2, e3, e4, e5⟩
  · unfold RF at h
    obtain ⟨p, ws, e, h1, h2⟩ := h
    exact ⟨p, ws, e, h1.sq, h2⟩
  · cases e1
theorem RV.int {i : Int} {w : V} (h : RV K M W H (.int i) w) : w = .int i := by
  rcases h with h | ⟨ys, p, ws, e1, e2, e3, e4, e5⟩
  · unfold RF at h; exact h
  · cases e1
theorem RV.bl {i : Bool} {w : V} (h : RV K M W H (.bl i) w) : w = .bl i := by
  rcases h with h | ⟨ys, p, ws, e1, e2, e3, e4, e5⟩
  · unfold RF at h; exact h
  · cases e1
theorem RV.str {i : Str} {w : V} (h : RV K M W H (.str i) w) : w = .str i := by
  rcases h with h | ⟨ys, p, ws, e1, e2, e3, e4, e5⟩
  · unfold RF at h; exact h
  · cases e1
theorem RV.non {w : V} (h : RV K M W H .non w) : w = .non := by
  rcases h with h | ⟨ys, p, ws, e1, e2, e3, e4, e5⟩
  · unfold RF at h; exact h
  · cases e1
theorem RV.ref {n : Nat} {w : V} (h : RV K M W H (.ref n) w) : ∃ p, w = .ref p ∧ W[n]? = some p := by
  rcases h with h | ⟨ys, p, ws, e1, e2, e3, e4, e5⟩
  · unfold RF at h; exact h
  · cases e1
theorem RV.fn {x : Str} {w : V} (h : RV K M W H (.fn x) w) : ∃ f, w = .ref f ∧ PySem.W.nsIn K mainGlobals x = some (some (.ref f)) := by
  rcases h with h | ⟨ys, p, ws, e1, e2, e3, e4, e5⟩
  · unfold RF at h; exact h
  · cases e1
theorem RV.dct {ks : List (List Int)} {vs : List PV} {w : V} (h : RV K M W H (.dct ks vs) w) : ∃ p as ws o, w = .ref p ∧ H p = some (dctP p ks as ws o) ∧ ¬ M p ∧ KsOk K M H ks as ∧ RFs K M W H vs ws := by
  rcases h with h | ⟨xs, p, ws, e, _⟩
  · unfold RF at h; exact h
  · cases e
theorem rf_int {i : Int} : RF K M W H (.int i) (.int i) := by unfold RF; rfl
theorem rf_bl {i : Bool} : RF K M W H (.bl i) (.bl i) := by unfold RF; rfl
theorem rf_str {i : Str} : RF K M W H (.str i) (.str i) := by unfold RF; rfl
theorem rf_non : RF K M W H .non .non := by unfold RF; rfl
theorem rm_int {i : Int} : RM K tb Mx σ H env .F W' H' st' (.int i) (.int i) := by show RF K (Mt Mx W' env σ) W' H' _ _; exact rf_int
theorem rm_bl {i : Bool} : RM K tb Mx σ H env .F W' H' st' (.bl i) (.bl i) := by show RF K (Mt Mx W' env σ) W' H' _ _; exact rf_bl
theorem rm_str {i : Str} : RM K tb Mx σ H env .F W' H' st' (.str i) (.str i) := by show RF K (Mt Mx W' env σ) W' H' _ _; exact rf_str
theorem rf_tup {xs : List PV} {p : Addr} {ws : List V} (h : FzT K M H p ws) (r : RFs K M W H xs ws) : RF K M W H (.tup xs) (.ref p) := by unfold RF; exact ⟨p, ws, rfl, h, r⟩
theorem rf_lst {xs : List PV} {p : Addr} {ws : List V} (h : FzL K M H p ws) (r : RFs K M W H xs ws) : RF K M W H (.lst xs) (.ref p) := by unfold RF; exact ⟨p, ws, rfl, h, r⟩
mutual
theorem RF.dp : ∀ (n : Nat) (v : PV) {w : V}, pd n v = true → RF K M W H v w → Dp K H w (toD v)
  | _, .non, _, _, h => by unfold RF at h; subst h; exact .non
  | _, .bl b, _, _, h => by unfold RF at h; subst h; exact .bl b
  | _, .int i, _, _, h => by unfold RF at h; subst h; exact .int i
  | _, .str s, _, _, h => by unfold RF at h; subst h; exact .str s
  | 0, .tup xs, _, hd, h => by unfold pd at hd; cases hd
  | 0, .lst xs, _, hd, h => by unfold pd at hd; cases hd
  | n + 1, .tup xs, _, hd, h => by
    unfold RF at h
    obtain ⟨p, ws, rfl, h1, h2⟩ := h
    simp only [toD]
    unfold pd at hd
    exact .tup h1.sq (RFs.dp n xs hd h2)
  | n + 1, .lst xs, _, hd, h => by
    unfold RF at h
    obtain ⟨p, ws, rfl, h1, h2⟩ := h
    simp only [toD]
    unfold pd at hd
    exact .lst h1.sq (RFs.dp n xs hd h2)
  | _, .ref _, _, hd, _ => by unfold pd at hd; cases hd
  | _, .fn _, _, hd, _ => by unfold pd at hd; cases hd
  | _, .dct _ _, _, hd, _ => by unfold pd at hd; cases hd
theorem RFs.dp : ∀ (n : Nat) (v : List PV) {w : List V}, pds n v = true → RFs K M W H v w → DpAll K H w (toDs v)
  | _, [], _, _, h => by rw [h.nil_inv]; simp only [toDs]; exact .nil
  | n, x :: xs, _, hd, h => by
    obtain ⟨w, r, rfl, h1, h2⟩ := h.inv
    unfold pds at hd
    rw [Bool.and_eq_true] at hd
    simp only [toDs]
    exact .cons (RF.dp n x hd.1 h1) (RFs.dp n xs hd.2 h2)
end
theorem RV.dp {n : Nat} {v : PV} {w : V} (hd : pd n v = true) (h : RV K M W H v w) : Dp K H w (toD v) := by
  rcases h with h | ⟨ys, p, ws, rfl, rfl, e3, e4, e5⟩
  · exact RF.dp n v hd h
  · cases n with
    | zero => unfold pd at hd; cases hd
    | succ n =>
      unfold pd at hd
      simp only [toD]
      exact .lst (.of e3) (RFs.dp n ys hd e5)
theorem pd_shaped {n : Nat} {v : PV} (hd : pd n v = true) (hn : n + 1 ≤ 64) : SeqAt.shaped (toD v) = true := by
  obtain ⟨h1, h2⟩ := pd_lay n v hd
  unfold SeqAt.shaped
  rw [h1, decide_eq_true (by omega)]
  rfl
def Al (H H' : Hp) : Prop := H' = H ∨ ∃ p o, H p = none ∧ NoTbl o ∧ H' = upd H p o
theorem Al.stp (r : Rel K tb Mx W σ H env st) (a : Al H H') : Stp K tb Mx env σ W H W H' st := by
  rcases a with rfl | ⟨p, o, hp, no, rfl⟩
  · exact .refl r
  · exact .new r hp no
theorem rf_newT {xs : List PV} {p : Addr} {ws : List V} (hm : ∀ p, M p → H p ≠ none) (hp : H p = none) (r : RFs K M W H xs ws) : RF K M W (upd H p (.tup ws)) (.tup xs) (.ref p) := by
  have g : Grow M M W W H (upd H p (.tup ws)) := ⟨fun b o h _ _ => by rw [upd_ne (fun z => by rw [z, hp] at h; cases h)]; exact h, fun _ _ h => h, List.prefix_refl _⟩
  exact rf_tup (.inl ⟨.inl upd_same, fun z => hm p z hp⟩) (RFs.grow g _ r)
theorem rf_newL {xs : List PV} {p : Addr} {ws : List V} (hm : ∀ p, M p → H p ≠ none) (hp : H p = none) (r : RFs K M W H xs ws) : RF K M W (upd H p (.lst ws)) (.lst xs) (.ref p) := by
  have g : Grow M M W W H (upd H p (.lst ws)) := ⟨fun b o h _ _ => by rw [upd_ne (fun z => by rw [z, hp] at h; cases h)]; exact h, fun _ _ h => h, List.prefix_refl _⟩
  exact rf_lst (.inl ⟨.inl upd_same, fun z => hm p z hp⟩) (RFs.grow g _ r)
theorem rm_newL {xs : List PV} {p : Addr} {ws : List V} (r : Rel K tb Mx W σ H env st) (hp : H p = none) (rs : RFs K (Mt Mx W env σ) W H xs ws) : RM K tb Mx σ H env .N W (upd H p (.lst ws)) st (.lst xs) (.ref p) := by
  have g : Grow (Mt Mx W env σ) (Mt (fun b => Mx b ∨ b = p) W env σ) W W H (upd H p (.lst ws)) := ⟨fun b o h _ _ => by rw [upd_ne (fun z => by rw [z, hp] at h; cases h)]; exact h,
    fun b h n z => by
      rcases z with z | (z | z) | z
      · exact n (.inl z)
      · exact n (.inr (.inl z))
      · exact h (z ▸ hp)
      · exact n (.inr (.inr z)), List.prefix_refl _⟩
  exact ⟨xs, p, ws, rfl, rfl, hp, fun z => r.mx p z hp, upd_same, r.new hp (fun ps z => nomatch z), RFs.grow g _ rs⟩
end
def OpV (X : Cx) (f : Value → Value → Sem Value) (g : PV → PV → Option PV) : Prop := OpR X f fun x y H Q => ∃ (M : Addr → Prop) (W : List Addr) (a b v : PV),
  (∀ p, M p → H p ≠ none) ∧ RV X.K M W H a x ∧ RV X.K M W H b y ∧ g a b = some v ∧ ∀ H' w, Al H H' → RF X.K M W H' v w → Q w H'
def optR (o : Option PV) (s : Sto) : MRes PV := match o with
  | some v => .ok v s
  | none => .bad
def optB (o : Option Bool) (s : Sto) : MRes Bool := match o with
  | some v => .ok v s
  | none => .bad
def mBin (g : PV → PV → Option PV) (ma mb : EM) : EM := fun env st => bindR (ma env st) fun a s => bindR (mb env s) fun b s' => optR (g a b) s'
def mVar (i : Nat) : EM := fun env st => match env[i]? with | some (.pv v) => .ok v st | _ => .bad
def mC (v : PV) : EM := fun _ st => .ok v st
def aNil : AM := fun _ st => .ok [] st
def aCons (m : EM) (ms : AM) : AM := fun env st => bindR (m env st) fun v s => bindR (ms env s) fun vs s' => .ok (v :: vs) s'
def mTup (ms : AM) : EM := fun env st => bindR (ms env st) fun vs s => if vs.length ≤ 1000 then .ok (.tup vs) s else .bad
def mLst (ms : AM) : EM := fun env st => bindR (ms env st) fun vs s => if vs.length ≤ 1000 then .ok (.lst vs) s else .bad
section
variable {X : Cx} {tb : Tbs} {Wx : WX} {a b c e : Expr} {es : List Expr} {ma mb mc m : EM} {ms : AM} {pos : Pos} {md : Md}
theorem e_var (i : Nat) {x : Str} (hN : X.N[i]? = some x := by rfl) (hv : Vis X.env.scope x := by first | exact Or.inl rfl | exact Or.inr (Or.inl rfl) | exact Or.inr (Or.inr rfl)) (hd : (x == ("__debug__" : Str)) = false := by decide)
    (hcd : (x == ("__classdict__" : Str)) = false := by decide) : EOk X tb Wx .F (.Name x pos) (mVar i) := PE_mono (pe_var hN hv hd hcd) fun σ H Q ⟨Mx, W, env, st, rel, post⟩ => by
  unfold mVar at post
  split at post
  · rename_i v q
    obtain ⟨w, e1, e2⟩ := rel.pv i v q
    exact ⟨w, e1, post W H w (.refl rel) e2⟩
  · exact post.elim
theorem e_c {v : PV} {w : V} (h : PE X e (tC w)) (r : ∀ K M W H, RF K M W H v w) : EOk X tb Wx .F e (mC v) := PE_mono h fun σ H Q ⟨Mx, W, env, st, rel, post⟩ => post W H w (.refl rel) (r _ _ _ _)
theorem e_int {i : Int} {j : Nat} : EOk X tb Wx .F (.Constant (.int i) j pos) (mC (.int i)) := e_c pe_int fun _ _ _ _ => rf_int
theorem e_bl {i : Bool} {j : Nat} : EOk X tb Wx .F (.Constant (.bool i) j pos) (mC (.bl i)) := e_c pe_bl fun _ _ _ _ => rf_bl
theorem e_non {j : Nat} : EOk X tb Wx .F (.Constant .none j pos) (mC .non) := e_c pe_non fun _ _ _ _ => rf_non
theorem e_bin {op : Operator} {g : PV → PV → Option PV} (ho : OpV X (binaryOp op) g) (ha : EOk X tb Wx .R a ma) (hb : EOk X tb Wx .R b mb) : EOk X tb Wx .F (.BinOp a op b pos) (mBin g ma mb) :=
  PE_mono (pe_op ho ha hb) fun σ H Q ⟨Mx, W, env, st, rel, post⟩ => by
    refine ebindE rel post fun v1 s1 W1 H1 w1 a1 r1 post => ebindE a1.rel post fun v2 s2 W2 H2 w2 a2 r2 post => ?_
    cases q : g v1 v2 with
    | none => rw [q] at post; exact post.elim
    | some v =>
      rw [q] at post
      exact ⟨Mt Mx W2 env σ, W2, v1, v2, v, fun p z => a2.rel.mtS z, RV.stp a2 r1, r2, q, fun H' w al rf => post W2 H' w (al.stp a2.rel) rf⟩
theorem a_nil {fz : Bool} : AOk X tb Wx fz [] aNil := PA_mono pa_nil fun σ H Q ⟨Mx, W, env, st, rel, post⟩ => post W H [] (.refl rel) (by
  unfold RMs
  split
  · exact RFs.nil
  · exact .nil)
theorem a_consF (ha : EOk X tb Wx .F e m) (hr : AOk X tb Wx true es ms) (hs : starEach (e :: es) X.env = (false, eval e X.env) :: starEach es X.env := by rfl) : AOk X tb Wx true (e :: es) (aCons m ms) :=
  PA_mono (pa_cons ha hr hs) fun σ H Q ⟨Mx, W, env, st, rel, post⟩ => by
    refine ebindA rel post fun v1 s1 W1 H1 w1 a1 r1 post => abindA a1.rel post fun v2 s2 W2 H2 w2 a2 r2 post => ?_
    exact post W2 H2 _ (.refl a2.rel) (RFs.cons (RF.grow a2.grow _ r1) r2)
theorem a_consR (ha : EOk X tb Wx .R e m) (hr : AOk X tb Wx false es ms) (hs : starEach (e :: es) X.env = (false, eval e X.env) :: starEach es X.env := by rfl) : AOk X tb Wx false (e :: es) (aCons m ms) :=
  PA_mono (pa_cons ha hr hs) fun σ H Q ⟨Mx, W, env, st, rel, post⟩ => by
    refine ebindA rel post fun v1 s1 W1 H1 w1 a1 r1 post => abindA a1.rel post fun v2 s2 W2 H2 w2 a2 r2 post => ?_
    exact post W2 H2 _ (.refl a2.rel) (.cons (RV.stp a2 r1) r2)
theorem small1000' {n : Nat} (h : n ≤ 1000) : n ≤ sizeLine := Nat.le_of_lt (small1000 h)
theorem e_tup {x1 : Nat} (h : AOk X tb Wx true es ms) : EOk X tb Wx .F (.Tuple es x1 pos) (mTup ms) := PE_mono (pe_tup h) fun σ H Q ⟨Mx, W, env, st, rel, post⟩ => by
  refine abindE rel post fun vs s W1 H1 ws a1 r1 post => ?_
  split at post
  · rename_i hl
    have e := RFs.len r1
    exact ⟨by rw [e]; exact small1000' hl, fun p hp => post W1 _ _ (.new a1.rel hp fun ps z => nomatch z) (rf_newT (fun p z => a1.rel.mtS z) hp r1)⟩
  · exact post.elim
theorem e_lst (h : AOk X tb Wx true es ms) : EOk X tb Wx .N (.List es pos) (mLst ms) := PE_mono (pe_lst h) fun σ H Q ⟨Mx, W, env, st, rel, post⟩ => by
  refine abindE rel post fun vs s W1 H1 ws a1 r1 post => ?_
  split at post
  · rename_i hl
    have e := RFs.len r1
    exact ⟨by rw [e]; exact small1000' hl, fun p hp => post W1 _ _ (.new a1.rel hp fun ps z => nomatch z) (rm_newL a1.rel hp r1)⟩
  · exact post.elim
def seqOf (s : Sto) : PV → Option (List PV)
  | .lst xs => some xs
  | .tup xs => some xs
  | .ref n => match s[n]? with | some (.lst xs) => some xs | _ => none
  | _ => none
def ixV (s : Sto) (a b : PV) : Option PV := match b with
  | .int i => match a with
    | .str z => if z.length ≤ 1000 then (atI z.cps.toList i).map fun c => .str ⟨#[c]⟩ else none
    | _ => (seqOf s a).bind fun xs => atI xs i
  | _ => none
def mIx (ma mb : EM) : EM := fun env st => bindR (ma env st) fun a s => bindR (mb env s) fun b s' => optR (ixV s' a b) s'
theorem atI_rf {K : PySem.W.Frag} {M : Addr → Prop} {W : List Addr} {H : Hp} {xs : List PV} {ws : List V} {i : Int} {v : PV} (r : RFs K M W H xs ws) (h : atI xs i = some v) : ∃ w, atI ws i = some w ∧ RF K M W H v w := by
  unfold atI at h ⊢
  rw [r.len]
  cases q : ixN xs.length i with
  | none => rw [q] at h; cases h
  | some j => rw [q] at h; exact r.get h
theorem e_ix (ha : EOk X tb Wx .R a ma) (hb : EOk X tb Wx .R b mb) (hs : PlainIx b) : EOk X tb Wx .F (.Subscript a b pos) (mIx ma mb) := PE_mono (pe_ix ix_seq ha hb hs) fun σ H Q ⟨Mx, W, env, st, rel, post⟩ => by
  refine ebindE rel post fun v1 s1 W1 H1 w1 a1 r1 post => ebindE a1.rel post fun v2 s2 W2 H2 w2 a2 r2 post => ?_
  have r1' := RV.stp a2 r1
  cases v2 with
  | int i =>
    cases (RV.int r2)
    cases v1 with
    | lst xs =>
      obtain ⟨p, ws, rfl, h1, h2⟩ := r1'.lst
      cases q : atI xs i with
      | none => simp only [ixV, seqOf, Option.bind_some, q] at post; exact post.elim
      | some v =>
        simp only [ixV, seqOf, Option.bind_some, q] at post
        obtain ⟨w, hw, rw'⟩ := atI_rf h2 q
        exact .inl ⟨p, ws, i, w, rfl, rfl, h1, hw, post W2 H2 w (.refl a2.rel) rw'⟩
    | tup xs =>
      obtain ⟨p, ws, rfl, h1, h2⟩ := r1'.tup
      cases q : atI xs i with
      | none => simp only [ixV, seqOf, Option.bind_some, q] at post; exact post.elim
      | some v =>
        simp only [ixV, seqOf, Option.bind_some, q] at post
        obtain ⟨w, hw, rw'⟩ := atI_rf h2 q
        exact .inr (.inl ⟨p, ws, i, w, rfl, rfl, h1, hw, post W2 H2 w (.refl a2.rel) rw'⟩)
    | ref n =>
      obtain ⟨p, rfl, hp⟩ := r1'.ref
      cases q1 : s2[n]? with
      | none => simp only [ixV, seqOf, q1, Option.bind_none] at post; exact post.elim
      | some o =>
        cases o with
        | lst xs =>
          obtain ⟨ws, h1, h2⟩ := a2.rel.sto n p _ hp q1
          cases q : atI xs i with
          | none => simp only [ixV, seqOf, q1, Option.bind_some, q] at post; exact post.elim
          | some v =>
            simp only [ixV, seqOf, q1, Option.bind_some, q] at post
            obtain ⟨w, hw, rw'⟩ := atI_rf h2 q
            exact .inl ⟨p, ws, i, w, rfl, rfl, .of h1, hw, post W2 H2 w (.refl a2.rel) rw'⟩
        | dct ks vs => simp only [ixV, seqOf, q1, Option.bind_none] at post; exact post.elim
        | dci ks vs => simp only [ixV, seqOf, q1, Option.bind_none] at post; exact post.elim
    | str z =>
      cases (RV.str r1')
      simp only [ixV] at post
      split at post
      · rename_i hl
        cases q : atI z.cps.toList i with
        | none => simp only [q, Option.map_none] at post; exact post.elim
        | some v =>
          simp only [q, Option.map_some] at post
          exact .inr (.inr ⟨z, i, v, rfl, rfl, small1000' hl, q, post W2 H2 _ (.refl a2.rel) rm_str⟩)
      · exact post.elim
    | non => simp only [ixV, seqOf, Option.bind_none] at post; exact post.elim
    | bl _ => simp only [ixV, seqOf, Option.bind_none] at post; exact post.elim
    | int _ => simp only [ixV, seqOf, Option.bind_none] at post; exact post.elim
    | fn _ => simp only [ixV, seqOf, Option.bind_none] at post; exact post.elim
    | dct _ _ => simp only [ixV, seqOf, Option.bind_none] at post; exact post.elim
  | non => simp only [ixV] at post; exact post.elim
  | bl _ => simp only [ixV] at post; exact post.elim
  | str _ => simp only [ixV] at post; exact post.elim
  | tup _ => simp only [ixV] at post; exact post.elim
  | lst _ => simp only [ixV] at post; exact post.elim
  | ref _ => simp only [ixV] at post; exact post.elim
  | fn _ => simp only [ixV] at post; exact post.elim
  | dct _ _ => simp only [ixV] at post; exact post.elim
end
end Mp
end
section
set_option maxRecDepth 100000
set_option maxHeartbeats 1000000
namespace Mp
open PySem PySem.Spec PyProof.Rows L2
mutual
def alk : PV → PV → Bool
  | .non, .non => true
  | .bl _, .bl _ => true
  | .int _, .int _ => true
  | .str _, .str _ => true
  | .lst xs, .lst ys => alks xs ys
  | .tup xs, .tup ys => alks xs ys
  | _, _ => false
def alks : List PV → List PV → Bool
  | x :: xs, y :: ys => alk x y && alks xs ys
  | [], _ => true
  | _ :: _, [] => true
end
mutual
def pvLt : PV → PV → Bool
  | .bl a, .bl b => !a && b
  | .int i, .int j => decide (i < j)
  | .str x, .str y => decide (x.cps.toList < y.cps.toList)
  | .lst xs, .lst ys => pvLts xs ys
  | .tup xs, .tup ys => pvLts xs ys
  | _, _ => false
def pvLts : List PV → List PV → Bool
  | [], [] => false
  | [], _ :: _ => true
  | _ :: _, [] => false
  | x :: xs, y :: ys => if pvEq x y then pvLts xs ys else pvLt x y
end
mutual
theorem alk_toD : ∀ (n m : Nat) (a b : PV), pd n a = true → pd m b = true → PySem.W.alike (toD a) (toD b) = alk a b
  | n, m, .ref _, b, h, _ => by unfold pd at h; cases h
  | n, m, a, .ref _, _, h => by unfold pd at h; cases h
  | n, m, .fn _, b, h, _ => by unfold pd at h; cases h
  | n, m, .dct _ _, b, h, _ => by unfold pd at h; cases h
  | n, m, a, .fn _, _, h => by unfold pd at h; cases h
  | n, m, a, .dct _ _, _, h => by unfold pd at h; cases h
  | n, m, .non, b, _, hb => by cases b <;> first | rfl | (simp [toD, alk, PySem.W.alike]; done) | (unfold pd at hb; cases hb)
  | n, m, .bl x, b, _, hb => by cases b <;> first | rfl | (simp [toD, alk, PySem.W.alike]; done) | (unfold pd at hb; cases hb)
  | n, m, .int x, b, _, hb => by cases b <;> first | rfl | (simp [toD, alk, PySem.W.alike]; done) | (unfold pd at hb; cases hb)
  | n, m, .str x, b, _, hb => by cases b <;> first | rfl | (simp [toD, alk, PySem.W.alike]; done) | (unfold pd at hb; cases hb)
  | 0, _, .tup xs, b, h, _ => by unfold pd at h; cases h
  | n + 1, m, .tup xs, b, h, h' => by
    cases b with
    | tup ys =>
      cases m with
      | zero => unfold pd at h'; cases h'
      | succ m =>
        unfold pd at h h'
        simp only [toD, alk, PySem.W.alike]
        exact alks_toDs n m xs ys h h'
    | ref _ => unfold pd at h'; cases h'
    | fn _ => unfold pd at h'; cases h'
    | dct _ _ => unfold pd at h'; cases h'
    | _ => simp [toD, alk, PySem.W.alike]
  | 0, _, .lst xs, b, h, _ => by unfold pd at h; cases h
  | n + 1, m, .lst xs, b, h, h' => by
    cases b with
    | lst ys =>
      cases m with
      | zero => unfold pd at h'; cases h'
      | succ m =>
        unfold pd at h h'
        simp only [toD, alk, PySem.W.alike]
        exact alks_toDs n m xs ys h h'
    | ref _ => unfold pd at h'; cases h'
    | fn _ => unfold pd at h'; cases h'
    | dct _ _ => unfold pd at h'; cases h'
    | _ => simp [toD, alk, PySem.W.alike]
theorem alks_toDs : ∀ (n m : Nat) (a b : List PV), pds n a = true → pds m b = true → PySem.W.alikeAll (toDs a) (toDs b) = alks a b
  | n, m, [], _, _, _ => by simp [toDs, alks, PySem.W.alikeAll]
  | n, m, x :: xs, [], _, _ => by simp [toDs, alks, PySem.W.alikeAll]
  | n, m, x :: xs, y :: ys, h, h' => by
    unfold pds at h h'
    rw [Bool.and_eq_true] at h h'
    simp only [toDs, alks, PySem.W.alikeAll]
    rw [alk_toD n m x y h.1 h'.1, alks_toDs n m xs ys h.2 h'.2]
end
mutual
theorem lt_toD : ∀ (n m : Nat) (a b : PV), pd n a = true → pd m b = true → alk a b = true → PySem.W.dataLt (toD a) (toD b) = pvLt a b
  | n, m, .ref _, b, h, _, _ => by unfold pd at h; cases h
  | n, m, .fn _, b, h, _, _ => by unfold pd at h; cases h
  | n, m, .dct _ _, b, h, _, _ => by unfold pd at h; cases h
  | n, m, .non, b, _, hb, ha => by
    cases b with
    | non => simp only [toD, pvLt]; exact lex_irrefl _
    | _ => exact absurd ha (by simp [alk])
  | n, m, .bl x, b, _, hb, ha => by
    cases b with
    | bl y => simp only [toD, pvLt]; cases x <;> cases y <;> (first | rfl | decide)
    | _ => exact absurd ha (by simp [alk])
  | n, m, .int x, b, _, hb, ha => by
    cases b with
    | int y => simp only [toD, pvLt]; exact PySem.W.dataLt_int x y
    | _ => exact absurd ha (by simp [alk])
  | n, m, .str x, b, _, hb, ha => by
    cases b with
    | str y => simp only [toD, pvLt]; exact PySem.W.dataLt_str x y
    | _ => exact absurd ha (by simp [alk])
  | 0, _, .tup xs, b, h, _, _ => by unfold pd at h; cases h
  | n + 1, m, .tup xs, b, h, h', ha => by
    cases b with
    | tup ys =>
      cases m with
      | zero => unfold pd at h'; cases h'
      | succ m =>
        unfold pd at h h'
        simp only [alk] at ha
        simp only [toD, pvLt]
        exact lts_toD n m xs ys h h' ha
    | _ => exact absurd ha (by simp [alk])
  | 0, _, .lst xs, b, h, _, _ => by unfold pd at h; cases h
  | n + 1, m, .lst xs, b, h, h', ha => by
    cases b with
    | lst ys =>
      cases m with
      | zero => unfold pd at h'; cases h'
      | succ m =>
        unfold pd at h h'
        simp only [alk] at ha
        simp only [toD, pvLt]
        exact lts_toD n m xs ys h h' ha
    | _ => exact absurd ha (by simp [alk])
theorem lts_toD : ∀ (n m : Nat) (a b : List PV), pds n a = true → pds m b = true → alks a b = true → PyProof.Rows.lexLt itemOrd (PySem.W.keyToksAll (toDs a)) (PySem.W.keyToksAll (toDs b)) = pvLts a b
  | n, m, [], [], _, _, _ => by simp only [toDs, pvLts]; exact lex_irrefl _
  | n, m, [], y :: ys, _, _, _ => by
    simp only [toDs, pvLts, PySem.W.keyToksAll]
    exact (lex_diff (O := itemOrd) (by decide)).trans (by first | rfl | decide)
  | n, m, x :: xs, [], _, _, _ => by
    simp only [toDs, pvLts, PySem.W.keyToksAll]
    exact (lex_diff (O := itemOrd) (by decide)).trans (by first | rfl | decide)
  | n, m, x :: xs, y :: ys, h, h', ha => by
    unfold pds at h h'
    rw [Bool.and_eq_true] at h h'
    simp only [alks, Bool.and_eq_true] at ha
    simp only [toDs, pvLts]
    rw [PySem.W.dataLt_cons (by rw [alk_toD n m x y h.1 h'.1]; exact ha.1), pvEq_toD n m x y h.1 h'.1, lts_toD n m xs ys h.2 h'.2 ha.2, lt_toD n m x y h.1 h'.1 ha.1]
end
end Mp
end
section
set_option maxRecDepth 100000
set_option maxHeartbeats 1000000
namespace Mp
open PySem PySem.Spec PyProof.Rows L2
def keyIs : List PV → Option (List Int)
  | [] => some []
  | .int i :: r => (keyIs r).map (i :: ·)
  | _ => none
def keyI : PV → Option (List Int)
  | .tup xs => keyIs xs
  | _ => none
section
variable {X : Cx} {pins : List (Addr × Obj)} {s : Shared} {K : PySem.W.Frag} {M : Addr → Prop} {W : List Addr} {σ : L2.St} {H : Hp} {w : V}
end
end Mp
end
section
set_option maxRecDepth 100000
set_option maxHeartbeats 1000000
namespace Mp
open PySem PySem.Spec PyProof.Rows L2
theorem noTbl_tup {xs : List V} : NoTbl (.tup xs) := fun ps z => nomatch z
theorem noTbl_lst {xs : List V} : NoTbl (.lst xs) := fun ps z => nomatch z
def bi (b : Bool) : Int := if b then 1 else 0
def small (i : Int) : Bool := decide (-(18446744073709551616) < i) && decide (i < 18446744073709551616)
def mulOk (i j : Int) : Bool := small i || small j || decide (i.natAbs.log2 + j.natAbs.log2 < 1000000)
def divOk (j : Int) : Bool := decide (j ≠ 0) && (decide (j.natAbs < 1073741824) || (decide (0 < j) && decide (j.natAbs.log2 < 9000)))
def pAdd : PV → PV → Option PV
  | .int i, .int j => some (.int (i + j))
  | .int i, .bl b => some (.int (i + bi b))
  | .bl a, .bl b => some (.int (bi a + bi b))
  | .str a, .str b => if a.length + b.length ≤ 100000 then some (.str (a ++ b)) else none
  | .tup xs, .tup ys => if xs.length + ys.length ≤ 1000000 then some (.tup (xs ++ ys)) else none
  | .lst xs, .lst ys => if xs.length + ys.length ≤ 1000000 then some (.lst (xs ++ ys)) else none
  | _, _ => none
def pSub : PV → PV → Option PV
  | .int i, .int j => some (.int (i - j))
  | .bl a, .bl b => some (.int (bi a - bi b))
  | _, _ => none
def pMul : PV → PV → Option PV
  | .int i, .int j => if mulOk i j then some (.int (i * j)) else none
  | _, _ => none
def pFdiv : PV → PV → Option PV
  | .int i, .int j => if divOk j then some (.int (i.fdiv j)) else none
  | _, _ => none
def pMod : PV → PV → Option PV
  | .int i, .int j => if decide (j ≠ 0) then some (.int (i.fmod j)) else none
  | _, _ => none
def pPow : PV → PV → Option PV
  | .int i, .int j => if decide (0 ≤ j ∧ j ≤ 1000000 ∧ i.natAbs < 2 ^ 64) then some (.int (i ^ j.toNat)) else none
  | _, _ => none
section
variable {X : Cx}
theorem opv_add : OpV X (binaryOp .Add) pAdd := by
  intro pins s σ H x y v u Q I rx ry h
  obtain ⟨M, W, a, b, r, hm, ra, rb, hg, q⟩ := h
  unfold pAdd at hg
  split at hg
  · cases hg; cases ra.int; cases rb.int
    exact op_add pins s σ H _ _ v u Q I rx ry ⟨_, _, rfl, rfl, q H _ (.inl rfl) rf_int⟩
  · cases hg; cases ra.int; cases rb.bl
    exact op_add_ib pins s σ H _ _ v u Q I rx ry ⟨_, _, rfl, rfl, q H _ (.inl rfl) rf_int⟩
  · rename_i i j
    cases hg; cases ra.bl; cases rb.bl
    cases rx; cases ry
    exact add_bool ⟨.int (bi i + bi j), H, I.tok _, ⟨_, rfl⟩, q H _ (.inl rfl) rf_int⟩
  · split at hg
    · rename_i hl
      cases hg; cases ra.str; cases rb.str
      exact op_add_str pins s σ H _ _ v u Q I rx ry ⟨_, _, rfl, rfl, Nat.le_trans hl (by decide), q H _ (.inl rfl) rf_str⟩
    · cases hg
  · rename_i xs ys
    split at hg
    · rename_i hl
      cases hg
      obtain ⟨p, ws, rfl, h1, h2⟩ := ra.tup
      obtain ⟨p', ws', rfl, h1', h2'⟩ := rb.tup
      refine op_catA pins s σ H _ _ v u Q I rx ry ⟨p, p', ws, ws', rfl, rfl, h1, h1', ?_, fun e => ?_, fun _ e => ?_, fun _ _ c hc => q _ _ (.inr ⟨c, _, hc, noTbl_tup, rfl⟩) (rf_newT hm hc (h2.append h2'))⟩
      · rw [h2.len, h2'.len]; exact Nat.le_trans hl (by decide)
      · have e2 : xs = [] := by have := h2.len; rw [e] at this; exact List.length_eq_zero_iff.mp this.symm
        subst e2
        rcases rb with rb | ⟨_, _, _, z, _⟩
        · exact q H _ (.inl rfl) rb
        · cases z
      · have e2 : ys = [] := by have := h2'.len; rw [e] at this; exact List.length_eq_zero_iff.mp this.symm
        subst e2
        rcases ra with ra | ⟨_, _, _, z, _⟩
        · rw [List.append_nil] at q; exact q H _ (.inl rfl) ra
        · cases z
    · cases hg
  · rename_i xs ys
    split at hg
    · rename_i hl
      cases hg
      obtain ⟨p, ws, rfl, h1, h2⟩ := ra.lstL
      obtain ⟨p', ws', rfl, h1', h2'⟩ := rb.lstL
      cases rx; cases ry
      obtain ⟨its, n, r1, e1, z1⟩ := h1.isL I
      obtain ⟨its', n', r1', e1', z1'⟩ := h1'.isL I
      have hz : ws.length + ws'.length ≤ sizeLine := by rw [h2.len, h2'.len]; exact Nat.le_trans hl (by decide)
      refine PySem.P.add_list e1 e1' ?_ (by rw [List.size_toArray, List.size_toArray, ← r1.length, ← r1'.length]; exact hz)
      have ea : its.toArray ++ its'.toArray = (its ++ its').toArray := by simp
      rw [ea]
      exact ⟨.ref _, _, I.lnew (t' := s.toks) (r1.append r1') (by rw [List.length_append]; exact hz), rfl, q _ _ (.inr ⟨_, _, I.fresh, noTbl_lst, rfl⟩) (rf_newL hm I.fresh (h2.append h2'))⟩
    · cases hg
  · cases hg
theorem opv_sub : OpV X (binaryOp .Sub) pSub := by
  intro pins s σ H x y v u Q I rx ry h
  obtain ⟨M, W, a, b, r, hm, ra, rb, hg, q⟩ := h
  unfold pSub at hg
  split at hg
  · cases hg; cases ra.int; cases rb.int
    exact op_sub pins s σ H _ _ v u Q I rx ry ⟨_, _, rfl, rfl, q H _ (.inl rfl) rf_int⟩
  · rename_i i j
    cases hg; cases ra.bl; cases rb.bl
    cases rx; cases ry
    exact sub_bool ⟨.int (bi i - bi j), H, I.tok _, ⟨_, rfl⟩, q H _ (.inl rfl) rf_int⟩
  · cases hg
theorem small_ok {i : Int} (h : small i = true) : -(2 ^ 64) < i ∧ i < 2 ^ 64 := by
  unfold small at h
  rw [Bool.and_eq_true] at h
  exact ⟨of_decide_eq_true h.1, of_decide_eq_true h.2⟩
theorem opv_mul : OpV X (binaryOp .Mult) pMul := by
  intro pins s σ H x y v u Q I rx ry h
  obtain ⟨M, W, a, b, r, hm, ra, rb, hg, q⟩ := h
  unfold pMul at hg
  split at hg
  · rename_i i j
    split at hg
    · rename_i hk
      cases hg; cases ra.int; cases rb.int
      unfold mulOk at hk
      rw [Bool.or_eq_true, Bool.or_eq_true] at hk
      rcases hk with (hk | hk) | hk
      · exact op_mul pins s σ H _ _ v u Q I rx ry ⟨_, _, rfl, rfl, .inl (small_ok hk), q H _ (.inl rfl) rf_int⟩
      · exact op_mul pins s σ H _ _ v u Q I rx ry ⟨_, _, rfl, rfl, .inr (small_ok hk), q H _ (.inl rfl) rf_int⟩
      · exact op_mulW pins s σ H _ _ v u Q I rx ry ⟨_, _, rfl, rfl, (show i.natAbs.log2 + j.natAbs.log2 < 1000000 from of_decide_eq_true hk), q H _ (.inl rfl) rf_int⟩
    · cases hg
  · cases hg
theorem opv_fdiv : OpV X (binaryOp .FloorDiv) pFdiv := by
  intro pins s σ H x y v u Q I rx ry h
  obtain ⟨M, W, a, b, r, hm, ra, rb, hg, q⟩ := h
  unfold pFdiv at hg
  split at hg
  · rename_i i j
    split at hg
    · rename_i hk
      cases hg; cases ra.int; cases rb.int
      unfold divOk at hk
      rw [Bool.and_eq_true, Bool.or_eq_true, Bool.and_eq_true] at hk
      obtain ⟨h0, hk | ⟨hk, hk2⟩⟩ := hk
      · exact op_fdivN pins s σ H _ _ v u Q I rx ry ⟨_, _, rfl, rfl, ⟨of_decide_eq_true h0, of_decide_eq_true hk⟩, q H _ (.inl rfl) rf_int⟩
      · have hp : 0 < j := of_decide_eq_true hk
        refine op_fdivW pins s σ H _ _ v u Q I rx ry ⟨_, _, rfl, rfl, ⟨hp, of_decide_eq_true hk2⟩, ?_⟩
        show Q (.int (i / j)) H
        rw [← Int.fdiv_eq_ediv_of_nonneg i (show 0 ≤ j by omega)]
        exact q H _ (.inl rfl) rf_int
    · cases hg
  · cases hg
theorem opv_mod : OpV X (binaryOp .Mod) pMod := by
  intro pins s σ H x y v u Q I rx ry h
  obtain ⟨M, W, a, b, r, hm, ra, rb, hg, q⟩ := h
  unfold pMod at hg
  split at hg
  · split at hg
    · rename_i hk
      cases hg; cases ra.int; cases rb.int
      exact op_modN pins s σ H _ _ v u Q I rx ry ⟨_, _, rfl, rfl, of_decide_eq_true hk, q H _ (.inl rfl) rf_int⟩
    · cases hg
  · cases hg
theorem opv_pow : OpV X (binaryOp .Pow) pPow := by
  intro pins s σ H x y v u Q I rx ry h
  obtain ⟨M, W, a, b, r, hm, ra, rb, hg, q⟩ := h
  unfold pPow at hg
  split at hg
  · rename_i i j
    split at hg
    · rename_i hk
      cases hg; cases ra.int; cases rb.int
      exact op_pow pins s σ H _ _ v u Q I rx ry ⟨_, _, rfl, rfl, (show 0 ≤ j ∧ j ≤ 1000000 ∧ i.natAbs < 2 ^ 64 from of_decide_eq_true hk), q H _ (.inl rfl) rf_int⟩
    · cases hg
  · cases hg
end
def isD (v : PV) : Bool := pd 60 v
def cEq (a b : PV) : Option PV := if isD a && isD b then some (.bl (pvEq a b)) else none
def cNe (a b : PV) : Option PV := if isD a && isD b then some (.bl (!pvEq a b)) else none
def isN : PV → Bool | .non => true | _ => false
def ordd (a b : PV) : Bool := isD a && isD b && alk a b && !isN a
def cLt (a b : PV) : Option PV := if ordd a b then some (.bl (pvLt a b)) else none
def cGt (a b : PV) : Option PV := if ordd a b then some (.bl (pvLt b a)) else none
def cLe (a b : PV) : Option PV := if ordd a b then some (.bl (!pvLt b a)) else none
def cGe (a b : PV) : Option PV := if ordd a b then some (.bl (!pvLt a b)) else none
def cIsN (a b : PV) : Option PV := match b with
  | .non => some (.bl (isN a))
  | .bl y => match a with | .bl x => some (.bl (x == y)) | _ => none
  | _ => none
def cNotN (a b : PV) : Option PV := match b with
  | .non => some (.bl (!isN a))
  | .bl y => match a with | .bl x => some (.bl (!(x == y))) | _ => none
  | _ => none
theorem alk_comm : ∀ a b : PV, isD a = true → isD b = true → alk a b = alk b a := fun a b ha hb => by
  rw [← alk_toD 60 60 a b ha hb, ← alk_toD 60 60 b a hb ha]; exact PySem.W.alike_comm _ _
theorem toD_none {a : PV} (h : toD a = .none) (hd : isD a = true) : isN a = true := by
  cases a <;> first | rfl | (simp [toD] at h; done) | (unfold isD pd at hd; cases hd)
section
variable {X : Cx}
theorem opv_eq (hu : X.A.units + 64 < cLine) : OpV X (compareOp .Eq) cEq := by
  intro pins s σ H x y v u Q I rx ry h
  obtain ⟨M, W, a, b, r, hm, ra, rb, hg, q⟩ := h
  unfold cEq at hg
  split at hg
  · rename_i hk
    cases hg
    rw [Bool.and_eq_true] at hk
    refine op_eqD hu pins s σ H x y v u Q I rx ry ⟨toD a, toD b, ra.dp hk.1, rb.dp hk.2, pd_shaped hk.1 (by decide), pd_shaped hk.2 (by decide), ?_⟩
    rw [pvEq_toD 60 60 a b hk.1 hk.2]
    exact q H _ (.inl rfl) rf_bl
  · cases hg
theorem opv_ne (hu : X.A.units + 64 < cLine) : OpV X (compareOp .NotEq) cNe := by
  intro pins s σ H x y v u Q I rx ry h
  obtain ⟨M, W, a, b, r, hm, ra, rb, hg, q⟩ := h
  unfold cNe at hg
  split at hg
  · rename_i hk
    cases hg
    rw [Bool.and_eq_true] at hk
    refine op_neD hu pins s σ H x y v u Q I rx ry ⟨toD a, toD b, ra.dp hk.1, rb.dp hk.2, pd_shaped hk.1 (by decide), pd_shaped hk.2 (by decide), ?_⟩
    rw [pvEq_toD 60 60 a b hk.1 hk.2]
    exact q H _ (.inl rfl) rf_bl
  · cases hg
theorem ordd_ok {K : PySem.W.Frag} {M : Addr → Prop} {W : List Addr} {H : Hp} {a b : PV} (h : ordd a b = true) : isD a = true ∧ isD b = true ∧ alk a b = true ∧ toD a ≠ .none := by
  unfold ordd at h
  rw [Bool.and_eq_true, Bool.and_eq_true, Bool.and_eq_true] at h
  refine ⟨h.1.1.1, h.1.1.2, h.1.2, fun z => ?_⟩
  have := toD_none z h.1.1.1
  rw [this] at h
  exact absurd h.2 (by decide)
theorem depth_ok {A : Around} {a b : PV} (hu : A.units + 64 < cLine) (ha : isD a = true) : A.units + min (toD a).depth (toD b).depth < cLine := by
  have h1 := (pd_lay 60 a ha).2
  have h2 : min (toD a).depth (toD b).depth ≤ (toD a).depth := Nat.min_le_left _ _
  omega
theorem opv_lt (hu : X.A.units + 64 < cLine) : OpV X (compareOp .Lt) cLt := by
  intro pins s σ H x y v u Q I rx ry h
  obtain ⟨M, W, a, b, r, hm, ra, rb, hg, q⟩ := h
  unfold cLt at hg
  split at hg
  · rename_i hk
    cases hg
    obtain ⟨h1, h2, h3, h4⟩ := ordd_ok (K := X.K) (M := M) (W := W) (H := H) hk
    obtain ⟨as, r1⟩ := Dp.reads I (toD a) x v (ra.dp h1) rx
    obtain ⟨bs, r2⟩ := Dp.reads I (toD b) y u (rb.dp h2) ry
    refine PySem.W.lt_data r1 r2 (by rw [alk_toD 60 60 a b h1 h2]; exact h3) h4 (depth_ok hu h1) ⟨.bl _, H, I, rfl, ?_⟩
    rw [lt_toD 60 60 a b h1 h2 h3]
    exact q H _ (.inl rfl) rf_bl
  · cases hg
theorem opv_gt (hu : X.A.units + 64 < cLine) : OpV X (compareOp .Gt) cGt := by
  intro pins s σ H x y v u Q I rx ry h
  obtain ⟨M, W, a, b, r, hm, ra, rb, hg, q⟩ := h
  unfold cGt at hg
  split at hg
  · rename_i hk
    cases hg
    obtain ⟨h1, h2, h3, h4⟩ := ordd_ok (K := X.K) (M := M) (W := W) (H := H) hk
    obtain ⟨as, r1⟩ := Dp.reads I (toD a) x v (ra.dp h1) rx
    obtain ⟨bs, r2⟩ := Dp.reads I (toD b) y u (rb.dp h2) ry
    refine PySem.W.gt_data r1 r2 (by rw [alk_toD 60 60 a b h1 h2]; exact h3) h4 (depth_ok hu h1) ⟨.bl _, H, I, rfl, ?_⟩
    rw [lt_toD 60 60 b a h2 h1 (by rw [alk_comm b a h2 h1]; exact h3)]
    exact q H _ (.inl rfl) rf_bl
  · cases hg
theorem opv_le (hu : X.A.units + 64 < cLine) : OpV X (compareOp .LtE) cLe := by
  intro pins s σ H x y v u Q I rx ry h
  obtain ⟨M, W, a, b, r, hm, ra, rb, hg, q⟩ := h
  unfold cLe at hg
  split at hg
  · rename_i hk
    cases hg
    obtain ⟨h1, h2, h3, h4⟩ := ordd_ok (K := X.K) (M := M) (W := W) (H := H) hk
    obtain ⟨as, r1⟩ := Dp.reads I (toD a) x v (ra.dp h1) rx
    obtain ⟨bs, r2⟩ := Dp.reads I (toD b) y u (rb.dp h2) ry
    refine PySem.W.le_data r1 r2 (by rw [alk_toD 60 60 a b h1 h2]; exact h3) h4 (depth_ok hu h1) ⟨.bl _, H, I, rfl, ?_⟩
    rw [lt_toD 60 60 b a h2 h1 (by rw [alk_comm b a h2 h1]; exact h3)]
    exact q H _ (.inl rfl) rf_bl
  · cases hg
theorem opv_ge (hu : X.A.units + 64 < cLine) : OpV X (compareOp .GtE) cGe := by
  intro pins s σ H x y v u Q I rx ry h
  obtain ⟨M, W, a, b, r, hm, ra, rb, hg, q⟩ := h
  unfold cGe at hg
  split at hg
  · rename_i hk
    cases hg
    obtain ⟨h1, h2, h3, h4⟩ := ordd_ok (K := X.K) (M := M) (W := W) (H := H) hk
    obtain ⟨as, r1⟩ := Dp.reads I (toD a) x v (ra.dp h1) rx
    obtain ⟨bs, r2⟩ := Dp.reads I (toD b) y u (rb.dp h2) ry
    refine PySem.W.ge_data r1 r2 (by rw [alk_toD 60 60 a b h1 h2]; exact h3) h4 (depth_ok hu h1) ⟨.bl _, H, I, rfl, ?_⟩
    rw [lt_toD 60 60 a b h1 h2 h3]
    exact q H _ (.inl rfl) rf_bl
  · cases hg
theorem RV.isN {K : PySem.W.Frag} {M : Addr → Prop} {W : List Addr} {H : Hp} {a : PV} {x : V} (r : RV K M W H a x) : decide (x = .non) = isN a := by
  cases a with
  | non => cases r.non; rfl
  | bl b => cases r.bl; rfl
  | int b => cases r.int; rfl
  | str b => cases r.str; rfl
  | tup b => obtain ⟨p, ws, rfl, _⟩ := r.tup; rfl
  | lst b => obtain ⟨p, ws, rfl, _⟩ := r.lst; rfl
  | ref b => obtain ⟨p, rfl, _⟩ := r.ref; rfl
  | fn b => obtain ⟨p, rfl, _⟩ := r.fn; rfl
  | dct ks vs => obtain ⟨p, _, _, _, rfl, _⟩ := r.dct; rfl
theorem opv_is : OpV X (compareOp .Is) cIsN := by
  intro pins s σ H x y v u Q I rx ry h
  obtain ⟨M, W, a, b, r, hm, ra, rb, hg, q⟩ := h
  unfold cIsN at hg
  split at hg
  · cases hg; cases rb.non
    refine op_isN pins s σ H x _ v u Q I rx ry ⟨rfl, ?_⟩
    rw [ra.isN]
    exact q H _ (.inl rfl) rf_bl
  · split at hg
    · rename_i y' _ x'
      cases hg; cases ra.bl; cases rb.bl
      refine op_is_bl pins s σ H _ _ v u Q I rx ry ⟨_, _, rfl, rfl, ?_⟩
      have e : decide (x' = y') = (x' == y') := by cases x' <;> cases y' <;> rfl
      rw [e]
      exact q H _ (.inl rfl) rf_bl
    · cases hg
  · cases hg
theorem opv_isnot : OpV X (compareOp .IsNot) cNotN := by
  intro pins s σ H x y v u Q I rx ry h
  obtain ⟨M, W, a, b, r, hm, ra, rb, hg, q⟩ := h
  unfold cNotN at hg
  split at hg
  · cases hg; cases rb.non
    refine op_notN pins s σ H x _ v u Q I rx ry ⟨rfl, ?_⟩
    rw [ra.isN]
    exact q H _ (.inl rfl) rf_bl
  · split at hg
    · rename_i y' _ x'
      cases hg; cases ra.bl; cases rb.bl
      refine op_isnot_bl pins s σ H _ _ v u Q I rx ry ⟨_, _, rfl, rfl, ?_⟩
      have e : decide (x' = y') = (x' == y') := by cases x' <;> cases y' <;> rfl
      rw [e]
      exact q H _ (.inl rfl) rf_bl
    · cases hg
  · cases hg
end
end Mp
end
section
set_option maxRecDepth 100000
set_option maxHeartbeats 1000000
namespace Mp
open PySem PySem.Spec PyProof.Rows L2
abbrev WOk (X : Cx) (tb : Tbs) (Wx : WX) (e : Expr) (m : TM) : Prop := PW X e (tMT X.K X.mg tb Wx m)
def tBin (g : PV → PV → Option PV) (ma mb : EM) : TM := fun env st => bindR (ma env st) fun a s => bindR (mb env s) fun b s' => match g a b with | some (.bl c) => .ok c s' | _ => .bad
def eChain (g g' : PV → PV → Option PV) (ma mb mc : EM) : EM := fun env st => bindR (ma env st) fun a s => bindR (mb env s) fun b s' => match g a b with
  | some (.bl true) => bindR (mc env s') fun c s'' => optR (g' b c) s''
  | some (.bl false) => .ok (.bl false) s'
  | _ => .bad
def tChain2 (g g' : PV → PV → Option PV) (ma mb mc : EM) : TM := fun env st => bindR (ma env st) fun a s => bindR (mb env s) fun b s' => match g a b with
  | some (.bl true) => bindR (mc env s') fun c s'' => match g' b c with | some (.bl k) => .ok k s'' | _ => .bad
  | some (.bl false) => .ok false s'
  | _ => .bad
def tru (s : Sto) : PV → Option Bool
  | .non => some false
  | .bl b => some b
  | .int i => some (i != 0)
  | .str z => if z.length ≤ 100000 then some ((z.length : Int) != 0) else none
  | .tup xs => some (!xs.isEmpty)
  | .lst xs => some (!xs.isEmpty)
  | .ref n => match s[n]? with | some (.lst xs) => some (!xs.isEmpty) | _ => none
  | .fn _ => none
  | .dct _ _ => none
def tVal (m : EM) : TM := fun env st => bindR (m env st) fun a s => optB (tru s a) s
def tAndM (ma mb : TM) : TM := fun env st => bindR (ma env st) fun c s => if c then mb env s else .ok false s
def tOrM (ma mb : TM) : TM := fun env st => bindR (ma env st) fun c s => if c then .ok true s else mb env s
def tNotM (ma : TM) : TM := fun env st => bindR (ma env st) fun c s => .ok (!c) s
def eAnd (ma mb : EM) : EM := fun env st => bindR (ma env st) fun a s => match tru s a with | some true => mb env s | some false => .ok a s | none => .bad
def eOr (ma mb : EM) : EM := fun env st => bindR (ma env st) fun a s => match tru s a with | some true => .ok a s | some false => mb env s | none => .bad
def eNot (ma : EM) : EM := fun env st => bindR (ma env st) fun a s => match tru s a with | some k => .ok (.bl (!k)) s | none => .bad
def eIf (t : TM) (ma mb : EM) : EM := fun env st => bindR (t env st) fun c s => if c then ma env s else mb env s
section
variable {K : PySem.W.Frag} {mg : Str → Option Value} {tb : Tbs} {Mx M : Addr → Prop} {W W' W1 W0 : List Addr} {σ : L2.St} {H H' H1 H0 : Hp} {env : MEnv} {st st' st1 : Sto} {Wx : WX} {md md1 : Md} {fz : Bool}
theorem isEmpty_rf {xs : List PV} {ws : List V} (h : RFs K M W H xs ws) : ws.isEmpty = xs.isEmpty := by
  cases xs with
  | nil => rw [h.nil_inv]; rfl
  | cons x xs => obtain ⟨w, r, rfl, _⟩ := h.inv; rfl
def StOk (K : PySem.W.Frag) (M : Addr → Prop) (W : List Addr) (H : Hp) (st : Sto) : Prop := ∀ (i : Nat) (p : Addr) (o : PO), W[i]? = some p → st[i]? = some o → RO K M W H o p
theorem tru_v {a : PV} {x : V} {k : Bool} (so : StOk K M W H st) (r : RV K M W H a x) (h : tru st a = some k) : TruV K x H k := by
  cases a with
  | non => cases r.non; cases h; rfl
  | bl b => cases r.bl; cases h; rfl
  | int b => cases r.int; cases h; rfl
  | str b =>
    cases r.str
    simp only [tru] at h
    split at h
    · rename_i hl
      cases h
      exact ⟨Nat.le_trans hl (show 100000 ≤ sizeLine by decide), rfl⟩
    · cases h
  | tup b =>
    obtain ⟨p, ws, rfl, h1, h2⟩ := r.tup
    cases h
    exact .inr (.inl ⟨ws, h1, by rw [isEmpty_rf h2]⟩)
  | lst b =>
    obtain ⟨p, ws, rfl, h1, h2⟩ := r.lst
    cases h
    exact .inl ⟨ws, h1, by rw [isEmpty_rf h2]⟩
  | ref n =>
    obtain ⟨p, rfl, hp⟩ := r.ref
    simp only [tru] at h
    split at h
    · rename_i xs hs
      cases h
      obtain ⟨ws, h1, h2⟩ := so n p _ hp hs
      exact .inl ⟨ws, .of h1, by rw [isEmpty_rf h2]⟩
    · cases h
  | fn x => cases h
  | dct _ _ => cases h
end
section
variable {X : Cx} {tb : Tbs} {Wx : WX} {a b c e : Expr} {es rest : List Expr} {ma mb mc m : EM} {ta tc : TM} {ms : AM} {pos : Pos} {md : Md} {op op' : CmpOp} {g g' : PV → PV → Option PV}
theorem e_cmp (ho : OpV X (compareOp op) g) (ha : EOk X tb Wx .R a ma) (hb : EOk X tb Wx .R b mb) (hm : behindInMarks op b = false) : EOk X tb Wx .F (.Compare a [op] [b] pos) (mBin g ma mb) :=
  PE_mono (pe_cmpR ho ha hb hm) fun σ H Q ⟨Mx, W, env, st, rel, post⟩ => by
    refine ebindE rel post fun v1 s1 W1 H1 w1 a1 r1 post => ebindE a1.rel post fun v2 s2 W2 H2 w2 a2 r2 post => ?_
    cases q : g v1 v2 with
    | none => rw [q] at post; exact post.elim
    | some v =>
      rw [q] at post
      exact ⟨Mt Mx W2 env σ, W2, v1, v2, v, fun p z => a2.rel.mtS z, RV.stp a2 r1, r2, q, fun H' w al rf => post W2 H' w (al.stp a2.rel) rf⟩
theorem t_cmp (ho : OpV X (compareOp op) g) (ha : EOk X tb Wx .R a ma) (hb : EOk X tb Wx .R b mb) (hm : behindInMarks op b = false) : TOk X tb Wx (.Compare a [op] [b] pos) (tBin g ma mb) :=
  PT_mono (pt_cmpR ho ha hb hm) fun σ H Q ⟨Mx, W, env, st, rel, post⟩ => by
    refine ebindT rel post fun v1 s1 W1 H1 w1 a1 r1 post => ebindT a1.rel post fun v2 s2 W2 H2 w2 a2 r2 post => ?_
    split at post
    · rename_i c q
      refine ⟨Mt Mx W2 env σ, W2, v1, v2, .bl c, fun p z => a2.rel.mtS z, RV.stp a2 r1, r2, q, fun H' w al rf => ?_⟩
      unfold RF at rf
      exact ⟨c, rf, post W2 H' (al.stp a2.rel)⟩
    · exact post.elim
theorem e_chain (ho : OpV X (compareOp op) g) (ho' : OpV X (compareOp op') g') (ha : EOk X tb Wx .R a ma) (hb : EOk X tb Wx .R b mb) (hc : EOk X tb Wx .R c mc)
    (hm : lastMarks [op, op'] [b, c] = false := by with_unfolding_all rfl) : EOk X tb Wx .F (.Compare a [op, op'] [b, c] pos) (eChain g g' ma mb mc) :=
  PE_mono (pe_chain ho ho' ha hb hc hm) fun σ H Q ⟨Mx, W, env, st, rel, post⟩ => by
    refine ebindE rel post fun v1 s1 W1 H1 w1 a1 r1 post => ebindE a1.rel post fun v2 s2 W2 H2 w2 a2 r2 post => ?_
    split at post
    · rename_i q
      refine ⟨Mt Mx W2 env σ, W2, v1, v2, .bl true, fun p z => a2.rel.mtS z, RV.stp a2 r1, r2, q, fun H' w al rf => ?_⟩
      unfold RF at rf
      have a2' := al.stp a2.rel
      refine ⟨true, rf, ?_⟩
      rw [if_pos rfl]
      refine ebindE a2'.rel (EPost.from a2' post) fun v3 s3 W3 H3 w3 a3 r3 post => ?_
      cases q' : g' v2 v3 with
      | none => rw [q'] at post; exact post.elim
      | some v =>
        rw [q'] at post
        exact ⟨Mt Mx W3 env σ, W3, v2, v3, v, fun p z => a3.rel.mtS z, RV.stp a3 (RV.stp a2' r2), r3, q', fun H' w al rf => post W3 H' w (al.stp a3.rel) rf⟩
    · rename_i q
      refine ⟨Mt Mx W2 env σ, W2, v1, v2, .bl false, fun p z => a2.rel.mtS z, RV.stp a2 r1, r2, q, fun H' w al rf => ?_⟩
      unfold RF at rf
      refine ⟨false, rf, ?_⟩
      rw [if_neg Bool.false_ne_true]
      exact post W2 H' _ (al.stp a2.rel) rm_bl
    · exact post.elim
theorem t_chain (ho : OpV X (compareOp op) g) (ho' : OpV X (compareOp op') g') (ha : EOk X tb Wx .R a ma) (hb : EOk X tb Wx .R b mb) (hc : EOk X tb Wx .R c mc)
    (hm : lastMarks [op, op'] [b, c] = false := by with_unfolding_all rfl) : TOk X tb Wx (.Compare a [op, op'] [b, c] pos) (tChain2 g g' ma mb mc) :=
  PT_mono (pt_chain ho ho' ha hb hc hm) fun σ H Q ⟨Mx, W, env, st, rel, post⟩ => by
    refine ebindT rel post fun v1 s1 W1 H1 w1 a1 r1 post => ebindT a1.rel post fun v2 s2 W2 H2 w2 a2 r2 post => ?_
    split at post
    · rename_i q
      refine ⟨Mt Mx W2 env σ, W2, v1, v2, .bl true, fun p z => a2.rel.mtS z, RV.stp a2 r1, r2, q, fun H' w al rf => ?_⟩
      unfold RF at rf
      have a2' := al.stp a2.rel
      refine ⟨true, rf, ?_⟩
      rw [if_pos rfl]
      refine ebindT a2'.rel (TPost.from a2' post) fun v3 s3 W3 H3 w3 a3 r3 post => ?_
      split at post
      · rename_i k q'
        refine ⟨Mt Mx W3 env σ, W3, v2, v3, .bl k, fun p z => a3.rel.mtS z, RV.stp a3 (RV.stp a2' r2), r3, q', fun H' w al rf => ?_⟩
        unfold RF at rf
        exact ⟨k, rf, post W3 H' (al.stp a3.rel)⟩
      · exact post.elim
    · rename_i q
      refine ⟨Mt Mx W2 env σ, W2, v1, v2, .bl false, fun p z => a2.rel.mtS z, RV.stp a2 r1, r2, q, fun H' w al rf => ?_⟩
      unfold RF at rf
      refine ⟨false, rf, ?_⟩
      rw [if_neg Bool.false_ne_true]
      exact ⟨false, rfl, post W2 H' (al.stp a2.rel)⟩
    · exact post.elim
theorem Rel.stOk {K : PySem.W.Frag} {Mx : Addr → Prop} {W : List Addr} {σ : L2.St} {H : Hp} {env : MEnv} {st : Sto} (r : Rel K tb Mx W σ H env st) : StOk K (Mt Mx W env σ) W H st := r.sto
theorem t_val (ha : EOk X tb Wx .R a ma) (he : ∀ whole, isTrue a X.env whole = (do let v ← whole; standAt a.pos; holding [v] (truthy v)) := by intro _; rfl) : TOk X tb Wx a (tVal ma) :=
  PT_mono (pt_truth ha he) fun σ H Q ⟨Mx, W, env, st, rel, post⟩ => by
    refine ebindT rel post fun v1 s1 W1 H1 w1 a1 r1 post => ?_
    cases q : tru s1 v1 with
    | none => rw [q] at post; exact post.elim
    | some k => rw [q] at post; exact ⟨k, tru_v a1.rel.stOk r1 q, post W1 H1 (.refl a1.rel)⟩
theorem w_and1 (h : TOk X tb Wx a ta) : WOk X tb Wx (.BoolOp .And [a] pos) ta := pw_and1 h
theorem w_or1 (h : TOk X tb Wx a ta) : WOk X tb Wx (.BoolOp .Or [a] pos) ta := pw_or1 h
theorem w_and (ha : TOk X tb Wx a ta) (hb : WOk X tb Wx (.BoolOp .And (b :: rest) pos) tc) : WOk X tb Wx (.BoolOp .And (a :: b :: rest) pos) (tAndM ta tc) :=
  PW_mono (pw_and ha hb) fun σ H Q ⟨Mx, W, env, st, rel, post⟩ => by
    refine tbindT rel post fun c s W1 H1 a1 post => ?_
    cases c with
    | true => rw [if_pos rfl] at post ⊢; exact ⟨Mx, W1, env, s, a1.rel, post⟩
    | false => rw [if_neg Bool.false_ne_true] at post ⊢; exact post W1 H1 (.refl a1.rel)
theorem w_or (ha : TOk X tb Wx a ta) (hb : WOk X tb Wx (.BoolOp .Or (b :: rest) pos) tc) : WOk X tb Wx (.BoolOp .Or (a :: b :: rest) pos) (tOrM ta tc) :=
  PW_mono (pw_or ha hb) fun σ H Q ⟨Mx, W, env, st, rel, post⟩ => by
    refine tbindT rel post fun c s W1 H1 a1 post => ?_
    cases c with
    | true => rw [if_pos rfl] at post ⊢; exact post W1 H1 (.refl a1.rel)
    | false => rw [if_neg Bool.false_ne_true] at post ⊢; exact ⟨Mx, W1, env, s, a1.rel, post⟩
theorem t_w (h : WOk X tb Wx a ta) : TOk X tb Wx a ta := PW.pt h
theorem t_not (ha : TOk X tb Wx a ta) : TOk X tb Wx (.UnaryOp .Not a pos) (tNotM ta) :=
  PT_mono (pt_not ha) fun σ H Q ⟨Mx, W, env, st, rel, post⟩ => tbindT rel post fun c s W1 H1 a1 post => post W1 H1 (.refl a1.rel)
theorem e_one {bo : BoolOp} (h : EOk X tb Wx md a m) : EOk X tb Wx md (.BoolOp bo [a] pos) m := pe_one h
theorem e_and (ha : EOk X tb Wx .F a ma) (hb : EOk X tb Wx .F (.BoolOp .And (b :: rest) pos) mb) : EOk X tb Wx .F (.BoolOp .And (a :: b :: rest) pos) (eAnd ma mb) :=
  PE_mono (pe_andT ha hb) fun σ H Q ⟨Mx, W, env, st, rel, post⟩ => by
    refine ebindE rel post fun v s W1 H1 w1 a1 r1 post => ?_
    split at post
    · rename_i q
      exact ⟨true, tru_v a1.rel.stOk (.inl r1) q, by rw [if_pos rfl]; exact ⟨Mx, W1, env, s, a1.rel, post⟩⟩
    · rename_i q
      exact ⟨false, tru_v a1.rel.stOk (.inl r1) q, by rw [if_neg Bool.false_ne_true]; exact post W1 H1 w1 (.refl a1.rel) r1⟩
    · exact post.elim
theorem e_or (ha : EOk X tb Wx .F a ma) (hb : EOk X tb Wx .F (.BoolOp .Or (b :: rest) pos) mb) : EOk X tb Wx .F (.BoolOp .Or (a :: b :: rest) pos) (eOr ma mb) :=
  PE_mono (pe_orT ha hb) fun σ H Q ⟨Mx, W, env, st, rel, post⟩ => by
    refine ebindE rel post fun v s W1 H1 w1 a1 r1 post => ?_
    split at post
    · rename_i q
      exact ⟨true, tru_v a1.rel.stOk (.inl r1) q, by rw [if_pos rfl]; exact post W1 H1 w1 (.refl a1.rel) r1⟩
    · rename_i q
      exact ⟨false, tru_v a1.rel.stOk (.inl r1) q, by rw [if_neg Bool.false_ne_true]; exact ⟨Mx, W1, env, s, a1.rel, post⟩⟩
    · exact post.elim
theorem e_not (ha : EOk X tb Wx .R a ma) : EOk X tb Wx .F (.UnaryOp .Not a pos) (eNot ma) :=
  PE_mono (pe_notT ha) fun σ H Q ⟨Mx, W, env, st, rel, post⟩ => by
    refine ebindE rel post fun v s W1 H1 w1 a1 r1 post => ?_
    split at post
    · rename_i k q
      exact ⟨k, tru_v a1.rel.stOk r1 q, post W1 H1 _ (.refl a1.rel) rm_bl⟩
    · exact post.elim
theorem e_if (hc : TOk X tb Wx c tc) (ha : EOk X tb Wx md a ma) (hb : EOk X tb Wx md b mb) : EOk X tb Wx md (.IfExp c a b pos) (eIf tc ma mb) :=
  PE_mono (pe_ifExp hc ha hb) fun σ H Q ⟨Mx, W, env, st, rel, post⟩ => by
    refine tbindE rel post fun k s W1 H1 a1 post => ?_
    cases k with
    | true => rw [if_pos rfl] at post ⊢; exact ⟨Mx, W1, env, s, a1.rel, post⟩
    | false => rw [if_neg Bool.false_ne_true] at post ⊢; exact ⟨Mx, W1, env, s, a1.rel, post⟩
def pNeg : PV → Option PV | .int i => some (.int (-i)) | _ => none
def mUn (g : PV → Option PV) (ma : EM) : EM := fun env st => bindR (ma env st) fun a s => optR (g a) s
theorem e_neg (ha : EOk X tb Wx .R a ma) : EOk X tb Wx .F (.UnaryOp .USub a pos) (mUn pNeg ma) :=
  PE_mono (pe_un un_neg ha) fun σ H Q ⟨Mx, W, env, st, rel, post⟩ => by
    refine ebindE rel post fun v s W1 H1 w1 a1 r1 post => ?_
    cases v with
    | int i => cases (RV.int r1); exact ⟨i, rfl, post W1 H1 _ (.refl a1.rel) rm_int⟩
    | _ => exact post.elim
end
def spM (K : PySem.W.Frag) (mg : Str → Option Value) (tb : Tbs) (n : Nat) (m : FM) : Sp := fun vs H Q E => ∃ (Mx : Addr → Prop) (W : List Addr) (st : Sto) (args : List PV), args.length = n ∧ Rel K tb Mx W [] H [] st ∧ RFs K (Mt Mx W [] []) W H args vs ∧
  match m args st with
  | .ok v st' => ∀ W' H' w, Rel K tb Mx W' [] H' [] st' → KB W H No W' H' No → RF K (Mt Mx W' [] []) W' H' v w → Q w H'
  | .exc x st' => ∀ W' H' cls d, Rel K tb Mx W' [] H' [] st' → KB W H No W' H' No → RX mg H' x cls d → E cls d H'
  | .bad => False
structure CalM (P : Program) (w : World) (K : PySem.W.Frag) (mg : Str → Option Value) (base : Heap) (tb : Tbs) (k : Nat) (x : Str) (n : Nat) (m : FM) : Prop where
  ex : ∃ f fd ps, FnOk P w K mg base (L2.CX P w) k f fd ps (spM K mg tb n m) ∧ mg x = some (.ref f) ∧ PySem.W.keepIn K (.ref f) = true ∧ Binds K fd ps []
def mCall (n : Nat) (m : FM) (ms : AM) : EM := fun env st => bindR (ms env st) fun vs s => if vs.length = n then m vs s else .bad
section
variable {X : Cx} {tb : Tbs} {Wx : WX} {e : Expr} {es : List Expr} {ms : AM} {pos p : Pos} {k j n : Nat} {x : Str} {m : FM}
theorem e_call (c : CalM X.prog X.w X.K X.mg X.base tb k x n m) (hr : Room j X.A) (hk : k ≤ j) (hg : Gl X x) (tk : Takes X Wx) (ha : AOk X tb Wx true (e :: es) ms)
    (hdb : (x == ("__debug__" : Str)) = false := by decide) (he : starEach (e :: es) X.env = (false, eval e X.env) :: starEach es X.env := by rfl) (hpl : (backTo pos (starEach es X.env)).any (·.1) = false := by rfl) :
    EOk X tb Wx .F (.Call (.Name x p) (e :: es) [] pos) (mCall n m ms) := by
  obtain ⟨f, fd, ps, F, hm, kp, hb⟩ := c.ex
  refine PE_mono (pe_callS F (hr.mono hk) hg hm kp hb (fun σ => passAt tk σ) ha hdb he hpl) fun σ H Q ⟨Mx, W, env, st, rel, post⟩ => ?_
  refine abindE rel post fun vs s W1 H1 ws a1 r1 post => ?_
  split at post
  · rename_i hl
    have r1' : RFs X.K (Mt Mx W1 env σ) W1 H1 vs ws := r1
    refine ⟨fun b => Mx b ∨ Om env σ b, W1, s, vs, hl, a1.rel.toCall, RFs.grow (Grow.less fun b z => Mt.call.mp z) _ r1', ?_⟩
    cases q : m vs s with
    | bad => rw [q] at post; exact post
    | ok v st' =>
      rw [q] at post
      exact fun W' H' w r' kb rf => post W' H' w (a1.rel.back r' kb) (RF.grow (Grow.less fun b z => Mt.call.mpr z) _ rf)
    | exc x st' =>
      rw [q] at post
      exact fun W' H' cls d r' kb rx => post W' H' cls d (a1.rel.back r' kb) rx
  · exact post.elim
end
end Mp
end
section
set_option maxRecDepth 100000
set_option maxHeartbeats 1000000
namespace Mp
open PySem PySem.Spec PyProof.Rows L2
section
variable {K : PySem.W.Frag} {mg : Str → Option Value} {tb : Tbs} {Mx M : Addr → Prop} {W W' W1 W0 : List Addr} {σ : L2.St} {H H' H1 H0 : Hp} {env : MEnv} {st st' st1 : Sto} {Wx : WX}
theorem Om.set {i : Nat} {v : EV} {w : Option V} {p : Addr} (h : Om (env.set i v) (σ.set i w) p) : Om env σ p ∨ (∃ o, v = .own o ∧ w = some (.ref p) ∧ i < env.length) := by
  obtain ⟨j, o, h1, h2⟩ := h
  by_cases e : i = j
  · subst e
    by_cases hi : i < env.length
    · rw [List.getElem?_set_self hi] at h1
      by_cases hs : i < σ.length
      · rw [List.getElem?_set_self hs] at h2
        exact .inr ⟨o, Option.some.inj h1, Option.some.inj h2, hi⟩
      · rw [List.getElem?_eq_none (by simpa using hs)] at h2; cases h2
    · rw [List.getElem?_eq_none (by simpa using hi)] at h1; cases h1
  · rw [List.getElem?_set_ne e] at h1 h2
    exact .inl ⟨j, o, h1, h2⟩
theorem Om.setPv {i : Nat} {v : EV} {w : Option V} {p : Addr} (nv : ∀ o, v ≠ .own o) (h : Om (env.set i v) (σ.set i w) p) : Om env σ p := by
  rcases Om.set h with h | ⟨o, e, _⟩
  · exact h
  · exact absurd e (nv o)
theorem Rel.setEv {i : Nat} {v : EV} {w : Option V} (r : Rel K tb Mx W σ H env st) (nv : ∀ o, v ≠ .own o) (hv : ∀ u, v = .pv u → ∃ x, w = some x ∧ RF K (Mt Mx W env σ) W H u x) : Rel K tb Mx W (σ.set i w) H (env.set i v) st := by
  have g : Grow (Mt Mx W env σ) (Mt Mx W (env.set i v) (σ.set i w)) W W H H := Grow.less fun b z => by
    rcases z with z | z | z
    · exact .inl z
    · exact .inr (.inl z)
    · exact .inr (.inr (z.setPv nv))
  have at_ : ∀ j u, (env.set i v)[j]? = some u → (i = j ∧ u = v ∧ j < env.length) ∨ (i ≠ j ∧ env[j]? = some u) := fun j u h => by
    by_cases e : i = j
    · subst e
      by_cases hi : i < env.length
      · rw [List.getElem?_set_self hi] at h; exact .inl ⟨rfl, (Option.some.inj h).symm, hi⟩
      · rw [List.getElem?_eq_none (by simpa using hi)] at h; cases h
    · rw [List.getElem?_set_ne e] at h; exact .inr ⟨e, h⟩
  refine ⟨r.tab, r.mx, r.nd, fun p h => ⟨(r.wo p h).1, fun z => (r.wo p h).2 (z.setPv nv)⟩, fun p h => r.om p (h.setPv nv), fun j k o o' p h1 h2 h3 h4 => ?_, by simp [r.el], r.len, fun j q u h1 h2 => (r.sto j q u h1 h2).grow g (fun _ e _ => e), fun j u h => ?_, fun j u h => ?_⟩
  · rcases at_ j _ h1 with ⟨_, e, _⟩ | ⟨n1, e1⟩
    · exact absurd e.symm (nv o)
    · rcases at_ k _ h3 with ⟨_, e, _⟩ | ⟨n2, e2⟩
      · exact absurd e.symm (nv o')
      · rw [List.getElem?_set_ne n1] at h2
        rw [List.getElem?_set_ne n2] at h4
        exact r.inj j k o o' p e1 h2 e2 h4
  · rcases at_ j _ h with ⟨rfl, e, hi⟩ | ⟨n1, e1⟩
    · obtain ⟨x, rfl, rf⟩ := hv u e.symm
      exact ⟨x, List.getElem?_set_self (by rw [← r.el]; exact hi), RF.grow g _ rf⟩
    · obtain ⟨x, e2, rf⟩ := r.pv j u e1
      exact ⟨x, by rw [List.getElem?_set_ne n1]; exact e2, RF.grow g _ rf⟩
  · rcases at_ j _ h with ⟨_, e, _⟩ | ⟨n1, e1⟩
    · exact absurd e.symm (nv u)
    · obtain ⟨x, e2, rf⟩ := r.own j u e1
      exact ⟨x, by rw [List.getElem?_set_ne n1]; exact e2, rf.grow g (fun _ e _ => e)⟩
theorem Rel.setPv {i : Nat} {v : PV} {w : V} (r : Rel K tb Mx W σ H env st) (rf : RF K (Mt Mx W env σ) W H v w) : Rel K tb Mx W (σ.set i (some w)) H (env.set i (.pv v)) st :=
  r.setEv (fun o z => nomatch z) fun u e => by cases e; exact ⟨w, rfl, rf⟩
theorem Rel.kill {i : Nat} (r : Rel K tb Mx W σ H env st) : Rel K tb Mx W σ H (env.set i .un) st := by
  by_cases hi : i < σ.length
  · have e : σ = σ.set i σ[i] := (List.set_getElem_self hi).symm
    have := r.setEv (i := i) (v := .un) (w := σ[i]) (fun o z => nomatch z) (fun u e => nomatch e)
    rw [← e] at this
    exact this
  · rw [List.set_eq_of_length_le (by rw [r.el]; omega)]; exact r
theorem Rel.setOwn {i : Nat} {o : PO} {p : Addr} (r : Rel K tb (fun b => Mx b ∨ b = p) W σ H env st) (nm : ¬ Mx p) (ro : RO K (Mt (fun b => Mx b ∨ b = p) W env σ) W H o p) : Rel K tb Mx W (σ.set i (some (.ref p))) H (env.set i (.own o)) st := by
  have hw : p ∉ W := fun z => (r.wo p z).1 (.inr rfl)
  have ho : ¬ Om env σ p := fun z => r.om p z (.inr rfl)
  have om : ∀ b, Om (env.set i (.own o)) (σ.set i (some (.ref p))) b → Om env σ b ∨ b = p := fun b z => by
    rcases Om.set z with z | ⟨_, _, e, _⟩
    · exact .inl z
    · cases e; exact .inr rfl
  have g : Grow (Mt (fun b => Mx b ∨ b = p) W env σ) (Mt Mx W (env.set i (.own o)) (σ.set i (some (.ref p)))) W W H H := Grow.less fun b z => by
    rcases z with z | z | z
    · exact .inl z
    · exact .inr (.inl (.inl z))
    · rcases om b z with z | z
      · exact .inr (.inr z)
      · exact .inr (.inl (.inr z))
  have at_ : ∀ j u, (env.set i (.own o))[j]? = some u → (i = j ∧ u = .own o ∧ j < env.length) ∨ (i ≠ j ∧ env[j]? = some u) := fun j u h => by
    by_cases e : i = j
    · subst e
      by_cases hi : i < env.length
      · rw [List.getElem?_set_self hi] at h; exact .inl ⟨rfl, (Option.some.inj h).symm, hi⟩
      · rw [List.getElem?_eq_none (by simpa using hi)] at h; cases h
    · rw [List.getElem?_set_ne e] at h; exact .inr ⟨e, h⟩
  have sat : ∀ {j : Nat}, j < env.length → (σ.set j (some (V.ref p)))[j]? = some (some (V.ref p)) := fun {j} hj => List.getElem?_set_self (by rw [← r.el]; exact hj)
  refine ⟨r.tab, fun b h => r.mx b (.inl h), r.nd, fun b h => ⟨fun z => (r.wo b h).1 (.inl z), fun z => ?_⟩, fun b h z => ?_, fun j k o1 o2 q h1 h2 h3 h4 => ?_, by simp [r.el], r.len, fun j q u h1 h2 => (r.sto j q u h1 h2).grow g (fun _ e _ => e), fun j u h => ?_, fun j u h => ?_⟩
  · rcases om b z with z | z
    · exact (r.wo b h).2 z
    · exact hw (z ▸ h)
  · rcases om b h with h | h
    · exact r.om b h (.inl z)
    · exact nm (h ▸ z)
  · rcases at_ j _ h1 with ⟨rfl, e, hj⟩ | ⟨n1, e1⟩
    · rw [sat hj] at h2
      rcases at_ k _ h3 with ⟨rfl, e', _⟩ | ⟨n2, e2⟩
      · rfl
      · rw [List.getElem?_set_ne n2] at h4
        cases h2
        exact absurd ⟨k, o2, e2, h4⟩ ho
    · rw [List.getElem?_set_ne n1] at h2
      rcases at_ k _ h3 with ⟨rfl, e', hk⟩ | ⟨n2, e2⟩
      · rw [sat hk] at h4
        cases h4
        exact absurd ⟨j, o1, e1, h2⟩ ho
      · rw [List.getElem?_set_ne n2] at h4
        exact r.inj j k o1 o2 q e1 h2 e2 h4
  · rcases at_ j _ h with ⟨rfl, e, _⟩ | ⟨n1, e1⟩
    · cases e
    · obtain ⟨x, e2, rf⟩ := r.pv j u e1
      exact ⟨x, by rw [List.getElem?_set_ne n1]; exact e2, RF.grow g _ rf⟩
  · rcases at_ j _ h with ⟨rfl, e, hj⟩ | ⟨n1, e1⟩
    · cases e
      exact ⟨p, sat hj, ro.grow g (fun _ e _ => e)⟩
    · obtain ⟨x, e2, rf⟩ := r.own j u e1
      exact ⟨x, by rw [List.getElem?_set_ne n1]; exact e2, rf.grow g (fun _ e _ => e)⟩
theorem Rel.frz {i : Nat} {xs : List PV} (r : Rel K tb Mx W σ H env st) (e : env[i]? = some (EV.own (.lst xs))) : Rel K tb Mx W σ H (env.set i (.pv (.lst xs))) st := by
  obtain ⟨p, e1, ws, e2, e3⟩ := r.own i _ e
  obtain ⟨hi, e1'⟩ := List.getElem?_eq_some_iff.mp e1
  have es : σ = σ.set i (some (.ref p)) := by rw [← e1']; exact (List.set_getElem_self hi).symm
  have r1 := r.kill (i := i)
  have np : ¬ Mt Mx W (env.set i .un) σ p := fun z => by
    rcases z with z | z | ⟨j, o, h1, h2⟩
    · exact (r.wo p z).2 ⟨i, _, e, e1⟩
    · exact r.om p ⟨i, _, e, e1⟩ z
    · by_cases q : i = j
      · subst q
        rw [List.getElem?_set_self (by rw [r.el]; exact hi)] at h1; cases h1
      · rw [List.getElem?_set_ne q] at h1
        exact q (r.inj i j _ _ p e e1 h1 h2)
  have rf : RF K (Mt Mx W (env.set i .un) σ) W H (.lst xs) (.ref p) := rf_lst (.inl ⟨.inl e2, np⟩) (RFs.grow (Grow.less fun b z => by
    rcases z with z | z | ⟨j, o, h1, h2⟩
    · exact .inl z
    · exact .inr (.inl z)
    · by_cases q : i = j
      · subst q
        rw [List.getElem?_set_self (by rw [r.el]; exact hi)] at h1; cases h1
      · rw [List.getElem?_set_ne q] at h1
        exact .inr (.inr ⟨j, o, h1, h2⟩)) _ e3)
  have r2 := r1.setPv (i := i) rf
  rw [← es, List.set_set] at r2
  exact r2
theorem Rel.putOwn {i : Nat} {o : PO} {xs : List PV} {ws : List V} {p : Addr} (r : Rel K tb Mx W σ H env st) (e : env[i]? = some (EV.own o)) (ep : σ[i]? = some (some (V.ref p))) (rs : RFs K (Mt Mx W env σ) W H xs ws) :
    Rel K tb Mx W σ (upd H p (.lst ws)) (env.set i (.own (.lst xs))) st ∧ KB W H (Om env σ) W (upd H p (.lst ws)) (Om (env.set i (.own (.lst xs))) σ) := by
  have hom : Om env σ p := ⟨i, o, e, ep⟩
  obtain ⟨hi, e1'⟩ := List.getElem?_eq_some_iff.mp ep
  have es : σ = σ.set i (some (.ref p)) := by rw [← e1']; exact (List.set_getElem_self hi).symm
  have hie : i < env.length := by rw [r.el]; exact hi
  have om : ∀ b, Om (env.set i (.own (.lst xs))) σ b → Om env σ b := fun b ⟨j, o', h1, h2⟩ => by
    by_cases q : i = j
    · subst q; rw [ep] at h2; cases h2; exact hom
    · rw [List.getElem?_set_ne q] at h1; exact ⟨j, o', h1, h2⟩
  have kp : ∀ b u, H b = some u → ¬ Om env σ b → upd H p (.lst ws) b = some u := fun b u h n => by rw [upd_ne (a := p) (b := b) (fun z => n (by rw [z]; exact hom))]; exact h
  have nt : ∀ b, H b ≠ none → upd H p (.lst ws) b ≠ none := fun b h => by
    by_cases q : b = p
    · rw [q, upd_same]; simp
    · rw [upd_ne q]; exact h
  have g : Grow (Mt Mx W env σ) (Mt Mx W (env.set i (.own (.lst xs))) σ) W W H (upd H p (.lst ws)) := ⟨fun b u h n _ => kp b u h fun z => n (.inr (.inr z)), fun b _ n z => n (by
    rcases z with z | z | z
    · exact .inl z
    · exact .inr (.inl z)
    · exact .inr (.inr (om b z))), List.prefix_refl _⟩
  have at_ : ∀ j u, (env.set i (.own (.lst xs)))[j]? = some u → (i = j ∧ u = .own (.lst xs)) ∨ (i ≠ j ∧ env[j]? = some u) := fun j u h => by
    by_cases q : i = j
    · subst q; rw [List.getElem?_set_self hie] at h; exact .inl ⟨rfl, (Option.some.inj h).symm⟩
    · rw [List.getElem?_set_ne q] at h; exact .inr ⟨q, h⟩
  refine ⟨⟨fun P hP => ?_, fun b h => nt b (r.mx b h), r.nd, fun b h => ⟨(r.wo b h).1, fun z => (r.wo b h).2 (om b z)⟩, fun b h => r.om b (om b h), fun j k o1 o2 q h1 h2 h3 h4 => ?_, by simp [r.el], r.len, fun j q u h1 h2 => ?_, fun j u h => ?_, fun j u h => ?_⟩,
    ⟨fun b u h _ n _ => kp b u h n, nt, List.prefix_refl _, fun _ h => .inl h, fun b h => .inl (om b h)⟩⟩
  · refine (r.tab P hP).keep fun b o h t => ?_
    rw [upd_ne (fun z => r.omL hom o (by rw [← z]; exact h) t)]
    exact h
  · have f : ∀ j o1, (env.set i (.own (.lst xs)))[j]? = some (EV.own o1) → ∃ o', env[j]? = some (EV.own o') := fun j o1 h => by
      rcases at_ j _ h with ⟨rfl, _⟩ | ⟨_, h⟩
      · exact ⟨o, e⟩
      · exact ⟨o1, h⟩
    obtain ⟨a1, b1⟩ := f j o1 h1
    obtain ⟨a2, b2⟩ := f k o2 h3
    exact r.inj j k a1 a2 q b1 h2 b2 h4
  · have hq : q ∈ W := List.mem_of_getElem? h1
    exact (r.sto j q u h1 h2).grow g fun x hx _ => kp q x hx fun z => (r.wo q hq).2 z
  · rcases at_ j _ h with ⟨_, z⟩ | ⟨n, z⟩
    · cases z
    · obtain ⟨x, e2, rf⟩ := r.pv j u z
      exact ⟨x, e2, RF.grow g _ rf⟩
  · rcases at_ j _ h with ⟨rfl, z⟩ | ⟨n, z⟩
    · cases z
      exact ⟨p, ep, ws, upd_same, RFs.grow g _ rs⟩
    · obtain ⟨x, e2, rf⟩ := r.own j u z
      refine ⟨x, e2, rf.grow g fun y hy _ => ?_⟩
      rw [upd_ne (fun q => by subst q; exact n (r.inj i j _ _ x e ep z e2))]
      exact hy
theorem Rel.putSto {n : Nat} {xs : List PV} {ws : List V} {p : Addr} (r : Rel K tb Mx W σ H env st) (hp : W[n]? = some p) (rs : RFs K (Mt Mx W env σ) W H xs ws) :
    Stp K tb Mx env σ W H W (upd H p (.lst ws)) (st.set n (.lst xs)) := by
  have hm : p ∈ W := List.mem_of_getElem? hp
  obtain ⟨hn, _⟩ := List.getElem?_eq_some_iff.mp hp
  have hns : n < st.length := by rw [← r.len]; exact hn
  have kp : ∀ b u, H b = some u → b ∉ W → upd H p (.lst ws) b = some u := fun b u h n => by rw [upd_ne (a := p) (b := b) (fun z => n (by rw [z]; exact hm))]; exact h
  have nt : ∀ b, H b ≠ none → upd H p (.lst ws) b ≠ none := fun b h => by
    by_cases q : b = p
    · rw [q, upd_same]; simp
    · rw [upd_ne q]; exact h
  have g : Grow (Mt Mx W env σ) (Mt Mx W env σ) W W H (upd H p (.lst ws)) := ⟨fun b u h n _ => kp b u h fun z => n (.inl z), fun b _ n => n, List.prefix_refl _⟩
  refine ⟨⟨fun P hP => ?_, fun b h => nt b (r.mx b h), r.nd, r.wo, r.om, r.inj, r.el, by simp [r.len], fun j q u h1 h2 => ?_, fun j u h => ?_, fun j u h => ?_⟩, fun b u h n _ => kp b u h n, nt, List.prefix_refl _, fun _ h => .inl h⟩
  · refine (r.tab P hP).keep fun b o h t => ?_
    rw [upd_ne (fun z => r.wL hm o (by rw [← z]; exact h) t)]
    exact h
  · by_cases q' : n = j
    · subst q'
      rw [hp] at h1; cases h1
      rw [List.getElem?_set_self hns] at h2; cases h2
      exact ⟨ws, upd_same, RFs.grow g _ rs⟩
    · rw [List.getElem?_set_ne q'] at h2
      refine (r.sto j q u h1 h2).grow g fun x hx _ => ?_
      rw [upd_ne (fun z => by
        subst z
        exact q' ((List.getElem?_inj hn r.nd).mp (hp.trans h1.symm)))]
      exact hx
  · obtain ⟨x, e2, rf⟩ := r.pv j u h
    exact ⟨x, e2, RF.grow g _ rf⟩
  · obtain ⟨x, e2, rf⟩ := r.own j u h
    exact ⟨x, e2, rf.grow g fun y hy _ => kp x y hy fun z => (r.wo x z).2 ⟨j, u, h, e2⟩⟩
end
end Mp
end
section
set_option maxRecDepth 100000
set_option maxHeartbeats 1000000
namespace Mp
open PySem PySem.Spec PyProof.Rows L2
def sNil : SM := fun env st => .nx env st
def sSeq (a b : SM) : SM := fun env st => match a env st with | .nx e s => b e s | r => r
def sSet (i : Nat) (m : EM) : SM := fun env st => bindF (m env st) fun v s => .nx (env.set i (.pv v)) s
def sSetO (i : Nat) (m : EM) : SM := fun env st => bindF (m env st) fun v s => match v with | .lst xs => .nx (env.set i (.own (.lst xs))) s | _ => .bad
def sRet (m : EM) : SM := fun env st => bindF (m env st) fun v s => .rt v s
def sExpr (m : EM) : SM := fun env st => bindF (m env st) fun _ s => .nx env s
def sIf (t : TM) (a b : SM) : SM := fun env st => bindF (t env st) fun c s => if c then a env s else b env s
def sFrz (i : Nat) (m : SM) : SM := fun env st => match env[i]? with | some (.own (.lst xs)) => m (env.set i (.pv (.lst xs))) st | _ => .bad
def killE (ks : List Nat) (env : MEnv) : MEnv := ks.foldl (fun e i => e.set i .un) env
section
variable {K : PySem.W.Frag} {mg : Str → Option Value} {tb : Tbs} {Mx M : Addr → Prop} {W W' W1 W0 : List Addr} {σ : L2.St} {H H' H1 H0 : Hp} {env : MEnv} {st st' st1 : Sto} {Wx : WX}
theorem Om.setP {i : Nat} {v : PV} {w : Option V} {p : Addr} (h : Om (env.set i (.pv v)) (σ.set i w) p) : Om env σ p := h.setPv (v := .pv v) (fun o q => by cases q)
theorem Rel.kills : ∀ (ks : List Nat) {env : MEnv}, Rel K tb Mx W σ H env st → Rel K tb Mx W σ H (killE ks env) st
  | [], _, r => r
  | k :: ks, _, r => Rel.kills ks (r.kill (i := k))
theorem Om.kill {i : Nat} {p : Addr} (h : Om (env.set i .un) σ p) : Om env σ p := by
  obtain ⟨j, o, h1, h2⟩ := h
  by_cases e : i = j
  · subst e
    by_cases hi : i < env.length
    · rw [List.getElem?_set_self hi] at h1; cases h1
    · rw [List.getElem?_eq_none (by simpa using hi)] at h1; cases h1
  · rw [List.getElem?_set_ne e] at h1; exact ⟨j, o, h1, h2⟩
theorem Om.kills {p : Addr} : ∀ (ks : List Nat) {env : MEnv}, Om (killE ks env) σ p → Om env σ p
  | [], _, h => h
  | k :: ks, _, h => (Om.kills ks h).kill
theorem Om.frz {i : Nat} {v : PV} {p : Addr} (h : Om (env.set i (.pv v)) σ p) : Om env σ p := by
  obtain ⟨j, o, h1, h2⟩ := h
  by_cases e : i = j
  · subst e
    by_cases hi : i < env.length
    · rw [List.getElem?_set_self hi] at h1; cases h1
    · rw [List.getElem?_eq_none (by simpa using hi)] at h1; cases h1
  · rw [List.getElem?_set_ne e] at h1; exact ⟨j, o, h1, h2⟩
end
section
variable {X : Cx} {tb : Tbs} {Wx : WX} {a b c e : Expr} {es rest : List Expr} {ma mb mc m : EM} {ta tc : TM} {ms : AM} {pos pos' : Pos} {md : Md} {s1 : Stmt} {ss ss' : List Stmt} {m1 m2 : SM} {x : Str} {i : Nat}
theorem b_nil : BOk X tb Wx [] sNil := PSs_mono pss_nil fun D σ H ⟨Mx, W0, H0, O0, W, env, st, rel, kb, post⟩ => post σ W H rel kb
theorem b_one (h : SOk X tb Wx s1 m1) : BOk X tb Wx [s1] m1 := pss_one h
theorem b_cons (h1 : SOk X tb Wx s1 m1) (h2 : BOk X tb Wx ss m2) : BOk X tb Wx (s1 :: ss) (sSeq m1 m2) := PSs_mono (pss_cons h1 h2) fun D σ H ⟨Mx, W0, H0, O0, W, env, st, rel, kb, post⟩ => by
  refine ⟨Mx, W0, H0, O0, W, env, st, rel, kb, ?_⟩
  unfold sSeq at post
  cases q : m1 env st with
  | nx e' s' => rw [q] at post; exact fun σ' W' H' r k => ⟨Mx, W0, H0, O0, W', e', s', r, k, post⟩
  | rt v s' => rw [q] at post; exact post
  | bk e' s' => rw [q] at post; exact post
  | ct e' s' => rw [q] at post; exact post
  | ex x s' => rw [q] at post; exact post
  | bad => rw [q] at post; exact post
theorem s_expr (he : EOk X tb Wx md e m) (hs : swapsWith e none pos.line X.env = pure false := by rfl) : SOk X tb Wx (.Expr e pos) (sExpr m) := PS_mono (ps_expr he hs) fun D σ H ⟨Mx, W0, H0, O0, W, env, st, rel, kb, post⟩ =>
  ebindS rel kb post fun v s W1 H1 w a1 kb1 rm post => post σ W1 H1 a1.rel kb1
theorem s_ret (he : EOk X tb Wx .F e m) : SOk X tb Wx (.Return (some e) pos) (sRet m) := PS_mono (ps_ret he) fun D σ H ⟨Mx, W0, H0, O0, W, env, st, rel, kb, post⟩ =>
  ebindS rel kb post fun v s W1 H1 w a1 kb1 rm post => post W1 H1 w a1.rel.bare kb1.none (RF.grow (Grow.less fun _ z => z.bare) _ rm)
theorem s_if (hc : TOk X tb Wx c tc) (ha : BOk X tb Wx ss m1) (hb : BOk X tb Wx ss' m2) : SOk X tb Wx (.If c ss ss' pos) (sIf tc m1 m2) := PS_mono (ps_if hc ha hb) fun D σ H ⟨Mx, W0, H0, O0, W, env, st, rel, kb, post⟩ =>
  tbindS rel kb post fun k s W1 H1 a1 kb1 post => by
    cases k with
    | true => rw [if_pos rfl] at post ⊢; exact ⟨Mx, W0, H0, O0, W1, env, s, a1.rel, kb1, post⟩
    | false => rw [if_neg Bool.false_ne_true] at post ⊢; exact ⟨Mx, W0, H0, O0, W1, env, s, a1.rel, kb1, post⟩
theorem s_setOf {s1 : Stmt} (h : PS X s1 (tAsg (tM X.K X.mg tb Wx .F m) (gName i))) : SOk X tb Wx s1 (sSet i m) := PS_mono h fun D σ H ⟨Mx, W0, H0, O0, W, env, st, rel, kb, post⟩ =>
  ebindS rel kb post fun v s W1 H1 w a1 kb1 rm post => post _ W1 H1 (a1.rel.setPv rm) (kb1.less fun _ z => z.setP)
theorem s_set (hN : X.N.Nodup) (hi : X.N[i]? = some x) (hx : Loc X.env.scope x) (he : EOk X tb Wx .F e m) (hs : swapsWith e (some (.Name x pos')) pos.line X.env = pure false := by rfl) (hf : X.fn x = true ∨ X.env.scope.names.lookup x = some .local := by first | exact .inl rfl | exact .inr rfl | assumption) :
    SOk X tb Wx (.Assign [.Name x pos'] e pos) (sSet i m) := s_setOf (ps_set hN hi hx he hs hf)
theorem s_setOOf {s1 : Stmt} (h : PS X s1 (tAsg (tM X.K X.mg tb Wx .N m) (gName i))) : SOk X tb Wx s1 (sSetO i m) := PS_mono h fun D σ H ⟨Mx, W0, H0, O0, W, env, st, rel, kb, post⟩ =>
  ebindS rel kb post fun v s W1 H1 w a1 kb1 rm post => by
    obtain ⟨xs, p, ws, rfl, rfl, e3, nm, e4, r1, rs⟩ := rm
    refine post _ W1 H1 (r1.setOwn nm ⟨ws, e4, rs⟩) ⟨kb1.kp, kb1.nt, kb1.pre, kb1.fr, fun q z => ?_⟩
    rcases Om.set z with z | ⟨_, _, z, _⟩
    · exact kb1.om q z
    · cases z
      right
      cases y : H0 p with
      | none => rfl
      | some u => exact absurd e3 (kb.nt p (by rw [y]; simp))
theorem s_setO (hN : X.N.Nodup) (hi : X.N[i]? = some x) (hx : Loc X.env.scope x) (he : EOk X tb Wx .N e m) (hs : swapsWith e (some (.Name x pos')) pos.line X.env = pure false := by rfl) (hf : X.fn x = true ∨ X.env.scope.names.lookup x = some .local := by first | exact .inl rfl | exact .inr rfl | assumption) :
    SOk X tb Wx (.Assign [.Name x pos'] e pos) (sSetO i m) := s_setOOf (ps_set hN hi hx he hs hf)
theorem s_frz (h : SOk X tb Wx s1 m1) : SOk X tb Wx s1 (sFrz i m1) := PS_mono h fun D σ H ⟨Mx, W0, H0, O0, W, env, st, rel, kb, post⟩ => by
  unfold sFrz at post
  split at post
  · rename_i xs q
    exact ⟨Mx, W0, H0, O0, W, _, st, rel.frz q, kb.less fun _ z => z.frz, post⟩
  · exact post.elim
end
section
variable {X : Cx}
end
structure Chg (is : List Nat) (env : MEnv) (σ : L2.St) (env' : MEnv) (σ' : L2.St) : Prop where
  len : σ'.length = σ.length
  at_ : ∀ j, j ∉ is → env'[j]? = env[j]? ∧ σ'[j]? = σ[j]?
theorem Chg.trans {is js : List Nat} {env env1 env2 : MEnv} {σ σ1 σ2 : L2.St} (a : Chg is env σ env1 σ1) (b : Chg js env1 σ1 env2 σ2) : Chg (is ++ js) env σ env2 σ2 := ⟨b.len.trans a.len, fun j hj => by
  have h1 := a.at_ j fun z => hj (List.mem_append_left _ z)
  have h2 := b.at_ j fun z => hj (List.mem_append_right _ z)
  exact ⟨h2.1.trans h1.1, h2.2.trans h1.2⟩⟩
def tG (K : PySem.W.Frag) (tb : Tbs) (is : List Nat) (gt : PV → MEnv → Option MEnv) : TG := fun v σ H Q => ∃ Mx W env st x env', Rel K tb Mx W σ H env st ∧ RF K (Mt Mx W env σ) W H x v ∧ gt x env = some env' ∧
  ∀ σ', Rel K tb Mx W σ' H env' st → (∀ p, Om env' σ' p → Om env σ p) → Chg is env σ env' σ' → Q σ' H
def tGs (K : PySem.W.Frag) (tb : Tbs) (is : List Nat) (gt : List PV → MEnv → Option MEnv) : TGs := fun vs σ H Q => ∃ Mx W env st xs env', Rel K tb Mx W σ H env st ∧ RFs K (Mt Mx W env σ) W H xs vs ∧ gt xs env = some env' ∧
  ∀ σ', Rel K tb Mx W σ' H env' st → (∀ p, Om env' σ' p → Om env σ p) → Chg is env σ env' σ' → Q σ' H
abbrev GOk (X : Cx) (tb : Tbs) (is : List Nat) (t : Expr) (gt : PV → MEnv → Option MEnv) : Prop := PG X t (tG X.K tb is gt)
abbrev GsOk (X : Cx) (tb : Tbs) (is : List Nat) (t : List Expr) (gt : List PV → MEnv → Option MEnv) : Prop := PGs X t (tGs X.K tb is gt)
theorem PG_mono {X : Cx} {e : Expr} {t t' : TG} (h : PG X e t) (i : ∀ v σ H Q, t' v σ H Q → t v σ H Q) : PG X e t' := ⟨fun pins s σ H v u Q I r q => h.run pins s σ H v u Q I r (i v σ H Q q)⟩
theorem PGs_mono {X : Cx} {e : List Expr} {t t' : TGs} (h : PGs X e t) (i : ∀ v σ H Q, t' v σ H Q → t v σ H Q) : PGs X e t' := ⟨fun pins s σ H v u Q I r q => h.run pins s σ H v u Q I r (i v σ H Q q)⟩
def gNm (i : Nat) : PV → MEnv → Option MEnv := fun x env => some (env.set i (.pv x))
def gNilM : List PV → MEnv → Option MEnv := fun xs env => match xs with | [] => some env | _ => none
def gConsM (g : PV → MEnv → Option MEnv) (gs : List PV → MEnv → Option MEnv) : List PV → MEnv → Option MEnv := fun xs env => match xs with | x :: r => (g x env).bind fun e => gs r e | [] => none
def gTp (n : Nat) (gs : List PV → MEnv → Option MEnv) : PV → MEnv → Option MEnv := fun x env => match x with | .tup xs => if xs.length = n then gs xs env else none | .lst xs => if xs.length = n then gs xs env else none | _ => none
section
variable {X : Cx} {tb : Tbs} {Wx : WX} {e : Expr} {es : List Expr} {pos : Pos} {x : Str} {i : Nat} {g : PV → MEnv → Option MEnv} {gs : List PV → MEnv → Option MEnv} {m : EM} {is js : List Nat}
theorem g_name (hN : X.N.Nodup) (hi : X.N[i]? = some x) (hx : Loc X.env.scope x) (hf : X.fn x = true ∨ X.env.scope.names.lookup x = some .local := by first | exact .inl rfl | exact .inr rfl | assumption) : GOk X tb [i] (.Name x pos) (gNm i) :=
  PG_mono (pg_name hN hi hx hf) fun v σ H Q ⟨Mx, W, env, st, y, env', rel, rf, eg, k⟩ => by
    cases eg
    refine k _ (rel.setPv rf) (fun p z => z.setP) ⟨List.length_set .., fun j hj => ?_⟩
    have n : i ≠ j := fun e => hj (by rw [e]; exact List.mem_singleton.mpr rfl)
    exact ⟨List.getElem?_set_ne n, List.getElem?_set_ne n⟩
theorem gs_nil : GsOk X tb [] [] gNilM := PGs_mono pgs_nil fun v σ H Q ⟨Mx, W, env, st, y, env', rel, rf, eg, k⟩ => by
  unfold gNilM at eg
  split at eg
  · cases eg
    exact ⟨rf.nil_inv, k σ rel (fun _ z => z) ⟨rfl, fun _ _ => ⟨rfl, rfl⟩⟩⟩
  · cases eg
theorem gs_cons (h1 : GOk X tb is e g) (h2 : GsOk X tb js es gs) (hs : (assignEach (e :: es) X.env).map (·.2) = assign e X.env :: (assignEach es X.env).map (·.2) := by rfl) : GsOk X tb (is ++ js) (e :: es) (gConsM g gs) :=
  PGs_mono (pgs_cons h1 h2 hs) fun v σ H Q ⟨Mx, W, env, st, ys, env', rel, rf, eg, k⟩ => by
    unfold gConsM at eg
    split at eg
    · rename_i y r
      obtain ⟨w, ws, rfl, r1, r2⟩ := rf.inv
      cases q : g y env with
      | none => rw [q] at eg; cases eg
      | some e1 =>
        rw [q] at eg
        refine ⟨w, ws, rfl, Mx, W, env, st, y, e1, rel, r1, q, fun σ1 rel1 om1 c1 => ?_⟩
        refine ⟨Mx, W, e1, st, r, env', rel1, RFs.grow (Grow.less fun b z => ?_) _ r2, eg, fun σ2 rel2 om2 c2 => k σ2 rel2 (fun p z => om1 p (om2 p z)) (c1.trans c2)⟩
        rcases z with z | z | z
        · exact .inl z
        · exact .inr (.inl z)
        · exact .inr (.inr (om1 b z))
    · cases eg
theorem pg_seq {kk n : Nat} {t : TGs} (hc : X.calm = true) (h : PGs X es t) (hn : (assignEach es X.env).length = n := by rfl) (hst : (assignEach es X.env).findIdx? (·.1) = none := by rfl) :
    PG X (.Tuple es kk pos) (fun v σ H Q => gTup X.K n t v σ H Q ∨ gLst X.K n t v σ H Q) :=
  ⟨fun pins s σ H v u Q I r hw => hw.elim (fun hw => (pg_tup hc h hn hst).run pins s σ H v u Q I r hw) fun hw => (pg_lst hc h hn hst).run pins s σ H v u Q I r hw⟩
theorem g_tup {kk n : Nat} (hc : X.calm = true) (h : GsOk X tb is es gs) (hn : (assignEach es X.env).length = n := by rfl) (hst : (assignEach es X.env).findIdx? (·.1) = none := by rfl) : GOk X tb is (.Tuple es kk pos) (gTp n gs) :=
  PG_mono (pg_seq hc h hn hst) fun v σ H Q ⟨Mx, W, env, st, y, env', rel, rf, eg, k⟩ => by
    unfold gTp at eg
    split at eg
    · split at eg
      · rename_i xs hl
        unfold RF at rf
        obtain ⟨p, ws, rfl, h1, h2⟩ := rf
        exact .inl ⟨p, ws, rfl, h1.sq, h2.len.trans hl, Mx, W, env, st, xs, env', rel, h2, eg, k⟩
      · cases eg
    · split at eg
      · rename_i xs hl
        unfold RF at rf
        obtain ⟨p, ws, rfl, h1, h2⟩ := rf
        exact .inr ⟨p, ws, rfl, h1.sq, h2.len.trans hl, Mx, W, env, st, xs, env', rel, h2, eg, k⟩
      · cases eg
    · cases eg
def sAsg (g : PV → MEnv → Option MEnv) (m : EM) : SM := fun env st => bindF (m env st) fun v s => match g v env with | some e => .nx e s | none => .bad
theorem s_asg {tg : Expr} (he : EOk X tb Wx .F e m) (hg : GOk X tb is tg g) (hs : swapsWithSole [tg] e pos.line X.env = pure false := by rfl) (hw : swappedStores [tg] e X.env = pure none := by rfl)
    (h1 : (assignEach [tg] X.env).map (·.2) = [assign tg X.env] := by rfl) : SOk X tb Wx (.Assign [tg] e pos) (sAsg g m) := PS_mono (ps_asg he hg hs hw h1) fun D σ H ⟨Mx, W0, H0, O0, W, env, st, rel, kb, post⟩ =>
  ebindS rel kb post fun v s W1 H1 w a1 kb1 rm post => by
    split at post
    · rename_i e' q
      exact ⟨Mx, W1, env, s, v, e', a1.rel, rm, q, fun σ' r' om _ => post σ' W1 H1 r' (kb1.less om)⟩
    · exact post.elim
end
structure WlkI (K : PySem.W.Frag) (J : It) (xs : List PV) (M : Addr → Prop) (W : List Addr) (H : Hp) : Prop where
  go : ∀ (i : Nat) (M' : Addr → Prop) (W' : List Addr) (H' : Hp), Grow M M' W W' H H' → i < xs.length → J.go i H'
  yl : ∀ (i : Nat) (M' : Addr → Prop) (W' : List Addr) (H' : Hp) (x : V) (H2 : Hp) (y : PV), Grow M M' W W' H H' → (∀ p, M' p → H' p ≠ none) → xs[i]? = some y → J.yld i H' x H2 → Al H' H2 ∧ RF K M' W' H2 y x
  st : ∀ (M' : Addr → Prop) (W' : List Addr) (H' : Hp), Grow M M' W W' H H' → J.stop xs.length H'
def IPost (K : PySem.W.Frag) (mg : Str → Option Value) (tb : Tbs) (Mx : Addr → Prop) (W : List Addr) (σ : L2.St) (H : Hp) (env : MEnv) (Wx : WX) (r : MRes (List PV)) (R : It → Hp → Prop) : Prop := match r with
  | .ok xs st' => ∀ W' H' J, Stp K tb Mx env σ W H W' H' st' → WlkI K J xs (Mt Mx W' env σ) W' H' → R J H'
  | .exc x st' => ∀ W' H' cls d, Stp K tb Mx env σ W H W' H' st' → RX mg H' x cls d → Wx cls d σ H'
  | .bad => False
def tI (K : PySem.W.Frag) (mg : Str → Option Value) (tb : Tbs) (Wx : WX) (m : AM) : TI := fun σ H R => ∃ Mx W env st, Rel K tb Mx W σ H env st ∧ IPost K mg tb Mx W σ H env Wx (m env st) R
abbrev IOk (X : Cx) (tb : Tbs) (Wx : WX) (tg it : Expr) (m : AM) : Prop := PI X tg it (tI X.K X.mg tb Wx m)
theorem PI_mono {X : Cx} {tg e : Expr} {t t' : TI} (h : PI X tg e t) (i : ∀ σ H R, t' σ H R → t σ H R) : PI X tg e t' := ⟨fun pins s σ H R I q => h.run pins s σ H R I (i σ H R q)⟩
theorem PI_or {X : Cx} {tg e : Expr} {t t' : TI} (h : PI X tg e t) (h' : PI X tg e t') : PI X tg e (fun σ H R => t σ H R ∨ t' σ H R) := ⟨fun pins s σ H R I q => q.elim (h.run pins s σ H R I) (h'.run pins s σ H R I)⟩
def forL (gt : PV → MEnv → Option MEnv) (body : SM) (ks : List Nat) : List PV → MEnv → Sto → MFlow
  | [], env, st => .nx env st
  | x :: xs, env, st => match gt x env with
    | none => .bad
    | some e1 => match body e1 st with
      | .nx e s => forL gt body ks xs (killE ks e) s
      | .ct e s => forL gt body ks xs (killE ks e) s
      | .bk e s => .nx (killE ks e) s
      | .rt v s => .rt v s
      | .ex x s => .ex x s
      | .bad => .bad
def sFor (mi : AM) (gt : PV → MEnv → Option MEnv) (body : SM) (ks : List Nat) : SM := fun env st => bindF (mi env st) fun xs s => forL gt body ks xs env s
def whileL (tc : TM) (body : SM) (ks : List Nat) : Nat → MEnv → Sto → MFlow
  | 0, _, _ => .bad
  | n + 1, env, st => bindF (tc env st) fun c s => if c then (match body env s with
      | .nx e s => whileL tc body ks n (killE ks e) s
      | .ct e s => whileL tc body ks n (killE ks e) s
      | .bk e s => .nx (killE ks e) s
      | .rt v s => .rt v s
      | .ex x s => .ex x s
      | .bad => .bad) else .nx env s
def sWhile (n : Nat) (tc : TM) (body : SM) (ks : List Nat) : SM := fun env st => whileL tc body ks n env st
section
variable {X : Cx} {tb : Tbs} {Wx : WX} {tg it c : Expr} {pos : Pos} {g : PV → MEnv → Option MEnv} {mi : AM} {ss : List Stmt} {body : SM} {tc : TM} {ks is : List Nat}
theorem s_for (hp : PassesOwn (model X.prog X.w) X.A X.env X.xe) (hc : X.calm = true) (hi : IOk X tb Wx tg it mi) (hg : GOk X tb is tg g) (hb : BOk X tb Wx ss body) (ks : List Nat) (hs : ∀ x, foldedSetIterable it X.env x = pure x := by intro _; rfl) : SOk X tb Wx (.For tg it ss [] pos) (sFor mi g body ks) :=
  PS_mono (ps_for hp hc hi hg hb hs) fun D σ H ⟨Mx, W0, H0, O0, W, env, st, rel, kb, post⟩ => by
    refine ⟨Mx, W, env, st, rel, ?_⟩
    unfold sFor at post
    cases qi : mi env st with
    | bad => rw [qi] at post; exact post
    | exc x s => rw [qi] at post; exact fun W1 H1 cls d a rx => post σ W1 H1 cls d a.rel.bare (kb.trans a.kb).none rx
    | ok xs s =>
      rw [qi] at post
      intro W1 H1 J a1 wk
      have kb1 : KB W0 H0 O0 W1 H1 (Om env σ) := kb.trans a1.kb
      refine ⟨fun i n σ' H' => ∃ W' env' st', Rel X.K tb Mx W' σ' H' env' st' ∧ KB W1 H1 (Om env σ) W' H' (Om env' σ') ∧ i + n = xs.length ∧ SPost X.K X.mg tb Mx W0 H0 O0 Wx (forL g body ks (xs.drop i) env' st') D,
        ⟨xs.length, W1, env, s, a1.rel, .refl, Nat.zero_add _, post⟩, fun i n σ' H' ⟨W', env', st', rel', kb', en, post'⟩ => ?_⟩
      have gr := kb'.grow (Mx := Mx)
      by_cases hi : i < xs.length
      · refine .inr ⟨wk.go i _ _ _ gr hi, fun σ2 H2 => ∃ W' env' st', Rel X.K tb Mx W' σ2 H2 env' st' ∧ KB W1 H1 (Om env σ) W' H2 (Om env' σ2) ∧ SPost X.K X.mg tb Mx W0 H0 O0 Wx (forL g body ks (xs.drop (i + 1)) env' st') D,
          fun σ2 H2 ⟨W2, env2, st2, r2, k2, p2⟩ => ⟨n - 1, by omega, W2, env2, st2, r2, k2, by omega, p2⟩, fun x H2 hy => ?_⟩
        have hx : xs[i]? = some xs[i] := List.getElem?_eq_getElem hi
        obtain ⟨al, rf⟩ := wk.yl i _ _ _ x H2 xs[i] gr (fun p z => rel'.mtS z) hx hy
        have a2 := al.stp rel'
        rw [List.drop_eq_getElem_cons hi] at post'
        simp only [forL] at post'
        cases qg : g xs[i] env' with
        | none => rw [qg] at post'; exact post'.elim
        | some e1 =>
          rw [qg] at post'
          refine ⟨Mx, W', env', st', xs[i], e1, a2.rel, rf, qg, fun σ3 r3 om3 _ => ?_⟩
          have kb3 : KB W1 H1 (Om env σ) W' H2 (Om e1 σ3) := (kb'.trans a2.kb).less om3
          refine ⟨Mx, W1, H1, Om env σ, W', e1, st', r3, kb3, ?_⟩
          dsimp only at post'
          cases qb : body e1 st' with
          | nx e' s' => rw [qb] at post'; exact fun σ4 W4 H4 r4 k4 => ⟨W4, _, s', r4.kills ks, k4.less fun _ z => Om.kills ks z, post'⟩
          | ct e' s' => rw [qb] at post'; exact fun σ4 W4 H4 r4 k4 => ⟨W4, _, s', r4.kills ks, k4.less fun _ z => Om.kills ks z, post'⟩
          | bk e' s' => rw [qb] at post'; exact fun σ4 W4 H4 r4 k4 => post' σ4 W4 H4 (r4.kills ks) (kb1.trans (k4.less fun _ z => Om.kills ks z))
          | rt v s' => rw [qb] at post'; exact fun W4 H4 w r4 k4 rf4 => post' W4 H4 w r4 (kb1.trans k4) rf4
          | ex x s' => rw [qb] at post'; exact fun σ4 W4 H4 cls d r4 k4 rx => post' σ4 W4 H4 cls d r4 (kb1.trans k4) rx
          | bad => rw [qb] at post'; exact post'
      · have e : i = xs.length := by omega
        subst e
        refine .inl ⟨wk.st _ _ _ gr, ?_⟩
        rw [List.drop_length] at post'
        exact post' σ' W' H' rel' (kb1.trans kb')
theorem s_while (n : Nat) (hp : PassesOwn (model X.prog X.w) X.A X.env X.xe) (hc : TOk X tb Wx c tc) (hb : BOk X tb Wx ss body) (ks : List Nat) : SOk X tb Wx (.While c ss [] pos) (sWhile n tc body ks) :=
  PS_mono (ps_while hp hc hb) fun D σ H ⟨Mx, W0, H0, O0, W, env, st, rel, kb, post⟩ => by
    refine ⟨fun m σ' H' => ∃ W' env' st', Rel X.K tb Mx W' σ' H' env' st' ∧ KB W0 H0 O0 W' H' (Om env' σ') ∧ SPost X.K X.mg tb Mx W0 H0 O0 Wx (whileL tc body ks m env' st') D, ⟨n, W, env, st, rel, kb, post⟩, fun m σ' H' ⟨W', env', st', rel', kb', post'⟩ => ?_⟩
    cases m with
    | zero => exact post'.elim
    | succ m =>
      simp only [whileL] at post'
      refine tbindS rel' kb' post' fun k s W1 H1 a1 kb1 post1 => ?_
      cases k with
      | false =>
        rw [if_neg Bool.false_ne_true] at post1 ⊢
        exact post1 σ' W1 H1 a1.rel kb1
      | true =>
        rw [if_pos rfl] at post1 ⊢
        refine ⟨fun σ2 H2 => ∃ W' env' st', Rel X.K tb Mx W' σ2 H2 env' st' ∧ KB W0 H0 O0 W' H2 (Om env' σ2) ∧ SPost X.K X.mg tb Mx W0 H0 O0 Wx (whileL tc body ks m env' st') D, fun σ2 H2 h => ⟨m, Nat.lt_succ_self m, h⟩, ?_⟩
        refine ⟨Mx, W0, H0, O0, W1, env', s, a1.rel, kb1, ?_⟩
        cases qb : body env' s with
        | nx e' s' => rw [qb] at post1; exact fun σ4 W4 H4 r4 k4 => ⟨W4, _, s', r4.kills ks, k4.less fun _ z => Om.kills ks z, post1⟩
        | ct e' s' => rw [qb] at post1; exact fun σ4 W4 H4 r4 k4 => ⟨W4, _, s', r4.kills ks, k4.less fun _ z => Om.kills ks z, post1⟩
        | bk e' s' => rw [qb] at post1; exact fun σ4 W4 H4 r4 k4 => post1 σ4 W4 H4 (r4.kills ks) (k4.less fun _ z => Om.kills ks z)
        | rt v s' => rw [qb] at post1; exact post1
        | ex x s' => rw [qb] at post1; exact post1
        | bad => rw [qb] at post1; exact post1
end
end Mp
end
section
set_option maxRecDepth 100000
set_option maxHeartbeats 1000000
namespace Mp
open PySem PySem.Spec PyProof.Rows L2
def iSeq (m : EM) : AM := fun env st => bindR (m env st) fun v s => match v with | .lst xs => .ok xs s | .tup xs => .ok xs s | _ => .bad
def rangeL (lo : Int) (n : Nat) : List PV := (List.range n).map fun (k : Nat) => .int (lo + (k : Int))
def rgOk (i : Int) : Bool := decide (-1000000000000000 ≤ i) && decide (i ≤ 1000000000000000)
def iRng1M (ms : AM) : AM := fun env st => bindR (ms env st) fun vs s => match vs with | [.int j] => if rgOk j then .ok (rangeL 0 j.toNat) s else .bad | _ => .bad
def iRng2M (ms : AM) : AM := fun env st => bindR (ms env st) fun vs s => match vs with | [.int i, .int j] => if rgOk i && rgOk j then .ok (rangeL i (j - i).toNat) s else .bad | _ => .bad
section
variable {K : PySem.W.Frag} {M M' : Addr → Prop} {W W' : List Addr} {H H' : Hp}
theorem wlk_list {p : Addr} {xs : List PV} {ws : List V} (h : FzL K M H p ws) (r : RFs K M W H xs ws) : WlkI K (Itl K p) xs M W H where
  go := fun i M' W' H' g hi => by
    have hl := r.len
    exact ⟨ws, ws[i]'(by omega), (g.fzL h).sq, List.getElem?_eq_getElem _⟩
  yl := fun i M' W' H' x H2 y g hm hy ⟨e, f⟩ => by
    subst e
    obtain ⟨y', e1, rf⟩ := (RFs.grow g _ r).getr (f ws (g.fzL h).sq)
    rw [hy] at e1; cases e1
    exact ⟨.inl rfl, rf⟩
  st := fun M' W' H' g => ⟨ws, (g.fzL h).sq, Nat.le_of_eq r.len⟩
theorem wlk_tup {p : Addr} {xs : List PV} {ws : List V} (h : FzT K M H p ws) (r : RFs K M W H xs ws) : WlkI K (Itt K p) xs M W H where
  go := fun i M' W' H' g hi => by
    have hl := r.len
    exact ⟨ws, ws[i]'(by omega), (g.fzT h).sq, List.getElem?_eq_getElem _⟩
  yl := fun i M' W' H' x H2 y g hm hy ⟨e, f⟩ => by
    subst e
    obtain ⟨y', e1, rf⟩ := (RFs.grow g _ r).getr (f ws (g.fzT h).sq)
    rw [hy] at e1; cases e1
    exact ⟨.inl rfl, rf⟩
  st := fun M' W' H' g => ⟨ws, (g.fzT h).sq, Nat.le_of_eq r.len⟩
theorem wlk_rng {lo : Int} {n : Nat} : WlkI K (Itr lo n) (rangeL lo n) M W H where
  go := fun i M' W' H' g hi => by
    have : i < n := by simpa [rangeL] using hi
    exact this
  yl := fun i M' W' H' x H2 y g hm hy ⟨e, f⟩ => by
    subst e
    subst f
    refine ⟨.inl rfl, ?_⟩
    unfold rangeL at hy
    rw [List.getElem?_map] at hy
    cases q : (List.range n)[i]? with
    | none => rw [q] at hy; cases hy
    | some k =>
      rw [q] at hy
      obtain ⟨hk, e⟩ := List.getElem?_eq_some_iff.mp q
      simp at e
      subst e
      cases hy
      exact rf_int
  st := fun M' W' H' g => by show n ≤ _; simp [rangeL]
end
section
variable {X : Cx} {tb : Tbs} {Wx : WX} {tg l a b : Expr} {m : EM} {ms : AM} {p pos : Pos}
theorem i_seq (h : EOk X tb Wx .F l m) : IOk X tb Wx tg l (iSeq m) := PI_mono (PI_or (pi_list h) (pi_tup h)) fun σ H R ⟨Mx, W, env, st, rel, post⟩ => by
  unfold iSeq at post
  cases q : m env st with
  | bad => rw [q] at post; exact post.elim
  | exc x s => rw [q] at post; exact .inl ⟨Mx, W, env, st, rel, by rw [q]; exact post⟩
  | ok v s =>
    rw [q] at post
    cases v with
    | lst xs =>
      refine .inl ⟨Mx, W, env, st, rel, ?_⟩
      rw [q]
      intro W' H' w a rm
      have rm' : RF X.K (Mt Mx W' env σ) W' H' (.lst xs) w := rm
      unfold RF at rm'
      obtain ⟨p, ws, rfl, h1, h2⟩ := rm'
      exact ⟨p, rfl, ⟨ws, h1.sq⟩, post W' H' _ a (wlk_list h1 h2)⟩
    | tup xs =>
      refine .inr ⟨Mx, W, env, st, rel, ?_⟩
      rw [q]
      intro W' H' w a rm
      have rm' : RF X.K (Mt Mx W' env σ) W' H' (.tup xs) w := rm
      unfold RF at rm'
      obtain ⟨p, ws, rfl, h1, h2⟩ := rm'
      exact ⟨p, rfl, ⟨ws, h1.sq⟩, post W' H' _ a (wlk_tup h1 h2)⟩
    | non => exact post.elim
    | bl _ => exact post.elim
    | int _ => exact post.elim
    | str _ => exact post.elim
    | ref _ => exact post.elim
    | fn _ => exact post.elim
    | dct _ _ => exact post.elim
theorem rgOk_ok {i : Int} (h : rgOk i = true) : -(2 ^ 62) ≤ i ∧ i < 2 ^ 62 := by
  unfold rgOk at h
  rw [Bool.and_eq_true] at h
  have h1 := of_decide_eq_true h.1
  have h2 := of_decide_eq_true h.2
  constructor <;> omega
theorem RVs1 {K : PySem.W.Frag} {M : Addr → Prop} {W : List Addr} {H : Hp} {v : PV} {ws : List V} (h : RMs K W H false M [v] ws) : ∃ w, ws = [w] ∧ RV K M W H v w := by
  cases (show Paired (RV K M W H) [v] ws from h) with
  | cons a b => cases b; exact ⟨_, rfl, a⟩
theorem RVs2 {K : PySem.W.Frag} {M : Addr → Prop} {W : List Addr} {H : Hp} {v u : PV} {ws : List V} (h : RMs K W H false M [v, u] ws) : ∃ w y, ws = [w, y] ∧ RV K M W H v w ∧ RV K M W H u y := by
  cases (show Paired (RV K M W H) [v, u] ws from h) with
  | cons a b =>
    cases b with
    | cons c d => cases d; exact ⟨_, _, rfl, a, c⟩
theorem i_range1 (hg : Gl X "range") (hm : X.mg "range" = none) (ha : AOk X tb Wx false [a] ms) (hs : starEach [a] X.env = [(false, eval a X.env)] := by rfl) : IOk X tb Wx tg (.Call (.Name "range" p) [a] [] pos) (iRng1M ms) :=
  PI_mono (pi_range1 hg hm ha hs) fun σ H R ⟨Mx, W, env, st, rel, post⟩ => by
    refine ⟨Mx, W, env, st, rel, ?_⟩
    unfold iRng1M at post
    cases q : ms env st with
    | bad => rw [q] at post; exact post.elim
    | exc x s => rw [q] at post; exact post
    | ok vs s =>
      rw [q] at post
      intro W' H' ws a1 rm
      simp only [bindR] at post
      split at post
      · split at post
        · rename_i j hj
          obtain ⟨w, rfl, r⟩ := RVs1 rm
          cases r.int
          exact ⟨j, rfl, (rgOk_ok hj).1, (rgOk_ok hj).2, post W' H' _ a1 wlk_rng⟩
        · exact post.elim
      · exact post.elim
end
def bindX {α β : Type} (r : MRes α) (f : α → Sto → MRes β) : MRes β := match r with
  | .ok a s => f a s
  | _ => .bad
def noOwn (vs : List Nat) (env : MEnv) : Bool := vs.all fun i => match env[i]? with | some (.own _) => false | _ => true
def compL (gt : PV → MEnv → Option MEnv) (tc : TM) (me : EM) : List PV → MEnv → Sto → MRes (List PV)
  | [], _, st => .ok [] st
  | x :: xs, env, st => match gt x env with
    | none => .bad
    | some e1 => bindX (tc e1 st) fun c s => if c then bindX (me e1 s) fun v s' => bindX (compL gt tc me xs env s') fun r s'' => .ok (v :: r) s'' else compL gt tc me xs env s
def mComp (mi : AM) (gt : PV → MEnv → Option MEnv) (tc : TM) (me : EM) (vs : List Nat) : EM := fun env st => bindR (mi env st) fun xs s => if noOwn vs env && decide (xs.length ≤ 1000000) then
  bindX (compL gt tc me xs (killE vs env) s) fun r s' => .ok (.lst r) s' else .bad
def tYesM : TM := fun _ st => .ok true st
section
variable {K : PySem.W.Frag} {mg : Str → Option Value} {tb : Tbs} {Mx M : Addr → Prop} {W W' W1 W0 : List Addr} {σ σ' : L2.St} {H H' H1 H0 : Hp} {env env' : MEnv} {st st' st1 : Sto} {Wx : WX}
theorem Rel.wipe1 {i : Nat} (r : Rel K tb Mx W σ H env st) : Rel K tb Mx W (σ.set i none) H (env.set i .un) st := r.setEv (fun o z => nomatch z) fun u e => nomatch e
theorem killE_set : ∀ (ks : List Nat) (i : Nat) (env : MEnv), killE ks (env.set i .un) = (killE ks env).set i .un
  | [], i, env => rfl
  | k :: ks, i, env => by
    show killE ks ((env.set i .un).set k .un) = (killE ks (env.set k .un)).set i .un
    rw [← killE_set ks i (env.set k .un)]
    congr 1
    by_cases e : i = k
    · subst e; rfl
    · exact List.set_comm _ _ e
theorem Rel.wipes : ∀ (vs : List Nat), Rel K tb Mx W σ H env st → Rel K tb Mx W (wipe σ vs) H (killE vs env) st
  | [], r => r
  | v :: vs, r => by
    have := (Rel.wipes vs r).wipe1 (i := v)
    rw [← killE_set vs v env] at this
    exact this
theorem killE_at : ∀ (ks : List Nat) (env : MEnv) (j : Nat), j ∉ ks → (killE ks env)[j]? = env[j]?
  | [], _, _, _ => rfl
  | k :: ks, env, j, h => by
    show (killE ks (env.set k .un))[j]? = _
    rw [killE_at ks _ j (fun z => h (List.mem_cons_of_mem _ z)), List.getElem?_set_ne (fun e => h (by rw [e]; exact List.mem_cons_self))]
theorem killE_un : ∀ (ks : List Nat) (env : MEnv) (j : Nat) (u : EV), j ∈ ks → (killE ks env)[j]? = some u → u = .un
  | k :: ks, env, j, u, h, e => by
    have e' : (killE ks (env.set k .un))[j]? = some u := e
    by_cases hj : j ∈ ks
    · exact killE_un ks _ j u hj e'
    · rw [killE_at ks _ j hj] at e'
      rcases List.mem_cons.mp h with rfl | h
      · by_cases hl : j < env.length
        · rw [List.getElem?_set_self hl] at e'; exact (Option.some.inj e').symm
        · rw [List.getElem?_eq_none (by simpa using hl)] at e'; cases e'
      · exact absurd h hj
theorem wipe_at : ∀ {vs : List Nat} {j : Nat}, j ∉ vs → (wipe σ vs)[j]? = σ[j]? := fun h => wipe_out h
theorem om_wipe {vs : List Nat} (h : noOwn vs env = true) {p : Addr} : Om (killE vs env) (wipe σ vs) p ↔ Om env σ p := by
  constructor
  · intro ⟨j, o, h1, h2⟩
    by_cases hj : j ∈ vs
    · exact absurd (killE_un vs env j _ hj h1) (fun z => nomatch z)
    · rw [killE_at vs env j hj] at h1
      rw [wipe_at hj] at h2
      exact ⟨j, o, h1, h2⟩
  · intro ⟨j, o, h1, h2⟩
    have hj : j ∉ vs := fun z => by
      have := List.all_eq_true.mp h j z
      rw [h1] at this
      cases this
    exact ⟨j, o, by rw [killE_at vs env j hj]; exact h1, by rw [wipe_at hj]; exact h2⟩
theorem Rel.back2 {D : Addr} {Mc : Addr → Prop} (r : Rel K tb Mx W σ H env st) (hD : H D = none) (r' : Rel K tb Mc W' [] H' [] st') (hM : ∀ b, Mc b ↔ (Mx b ∨ b = D) ∨ Om env σ b) (k : KB W H No W' H' No) (hD' : H' D ≠ none) :
    Rel K tb (fun b => Mx b ∨ b = D) W' σ H' env st' := by
  have g : Grow (Mt Mx W env σ) (Mt (fun b => Mx b ∨ b = D) W' env σ) W W' H H' := ⟨fun b o h n t => k.kp b o h (fun z => n (.inl z)) (fun z => z) t, fun b h n z => by
    rcases z with z | (z | z) | z
    · rcases k.fr b z with y | y
      · exact n (.inl y)
      · exact h y
    · exact n (.inr (.inl z))
    · exact h (z ▸ hD)
    · exact n (.inr (.inr z)), k.pre⟩
  have g2 : Grow (Mt Mc W' [] []) (Mt (fun b => Mx b ∨ b = D) W' env σ) W' W' H' H' := Grow.less fun b z => by
    rcases z with z | z | z
    · exact .inl z
    · exact .inr (.inl ((hM b).mpr (.inl z)))
    · exact .inr (.inl ((hM b).mpr (.inr z)))
  refine ⟨r'.tab, fun b h => ?_, r'.nd, fun b h => ⟨fun z => (r'.wo b h).1 ((hM b).mpr (.inl z)), fun z => (r'.wo b h).1 ((hM b).mpr (.inr z))⟩, fun b h z => ?_, r.inj, r.el, r'.len, fun i q u h1 h2 => (r'.sto i q u h1 h2).grow g2 (fun _ e _ => e), fun i v h => ?_, fun i u h => ?_⟩
  · rcases h with h | h
    · exact k.nt b (r.mx b h)
    · rw [h]; exact hD'
  · rcases z with z | z
    · exact r.om b h z
    · obtain ⟨u, e, _⟩ := r.omS h
      rw [z, hD] at e; cases e
  · obtain ⟨w, e1, e2⟩ := r.pv i v h
    exact ⟨w, e1, RF.grow g _ e2⟩
  · obtain ⟨q, e1, e2⟩ := r.own i u h
    have no : q ∉ W := fun z => (r.wo q z).2 ⟨i, u, h, e1⟩
    exact ⟨q, e1, e2.grow g fun x hx nx => k.kp q x hx no (fun z => z) nx⟩
theorem Rel.putMx {D : Addr} {ws ws0 : List V} (r : Rel K tb Mx W σ H env st) (hm : Mx D) (h0 : H D = some (.lst ws0)) : Rel K tb Mx W σ (upd H D (.lst ws)) env st := by
  have g : Grow (Mt Mx W env σ) (Mt Mx W env σ) W W H (upd H D (.lst ws)) := ⟨fun b u h n _ => by rw [upd_ne (fun z => n (.inr (.inl (by rw [z]; exact hm))))]; exact h, fun b _ n => n, List.prefix_refl _⟩
  refine ⟨fun P hP => ?_, fun b h => ?_, r.nd, r.wo, r.om, r.inj, r.el, r.len, fun j q u h1 h2 => (r.sto j q u h1 h2).grow g fun x hx _ => ?_, fun j u h => ?_, fun j u h => ?_⟩
  · refine (r.tab P hP).keep fun b o h t => ?_
    rw [upd_ne (fun z => by rw [z, h0] at h; cases h; rcases t with ⟨_, t⟩ | ⟨_, _, t⟩; (cases t); (unfold LamX.CodeO at t; cases t))]
    exact h
  · by_cases q : b = D
    · rw [q, upd_same]; simp
    · rw [upd_ne q]; exact r.mx b h
  · rw [upd_ne (fun z => (r.wo q (List.mem_of_getElem? h1)).1 (by rw [z]; exact hm))]; exact hx
  · obtain ⟨x, e2, rf⟩ := r.pv j u h
    exact ⟨x, e2, RF.grow g _ rf⟩
  · obtain ⟨x, e2, rf⟩ := r.own j u h
    exact ⟨x, e2, rf.grow g fun y hy _ => by rw [upd_ne (fun z => r.om x ⟨j, u, h, e2⟩ (by rw [z]; exact hm))]; exact hy⟩
end
abbrev WN : WX := fun _ _ _ _ => False
structure TsOk (X : Cx) (tb : Tbs) (Wx : WX) (ifs : List Expr) (m : TM) : Prop where
  h : PTs X ifs (tMT X.K X.mg tb Wx m)
theorem PTs_mono {X : Cx} {e : List Expr} {t t' : TT} (h : PTs X e t) (i : ∀ σ H Q, t' σ H Q → t σ H Q) : PTs X e t' := ⟨fun pins s σ H Q I q => h.run pins s σ H Q I (i σ H Q q)⟩
theorem ts_nil {X : Cx} {tb : Tbs} {Wx : WX} : TsOk X tb Wx [] tYesM := ⟨PTs_mono pts_nil fun σ H Q ⟨Mx, W, env, st, rel, post⟩ => post W H (.refl rel)⟩
theorem ts_one {X : Cx} {tb : Tbs} {Wx : WX} {c : Expr} {m : TM} (h : TOk X tb Wx c m) : TsOk X tb Wx [c] m := ⟨pts_one h⟩
section
variable {X : Cx} {tb : Tbs} {Wx : WX} {elt tg iter : Expr} {ifs : List Expr} {scope : Scope} {own : List (Str × Nat)} {pos : Pos} {mi : AM} {g : PV → MEnv → Option MEnv} {tc : TM} {me : EM} {is vs : List Nat}
theorem lc_read {K : PySem.W.Frag} {mg : Str → Option Value} (hsub : ∀ j ∈ is, j ∈ vs) : ∀ σ H Q, tM K mg tb Wx .N (mComp mi g tc me vs) σ H Q → tLc (tI K mg tb Wx mi) (tG K tb is g) (tMT K mg tb WN tc) (tM K mg tb WN .F me) vs σ H Q := by
  intro σ H Q ⟨Mx, W, env, st, rel, post⟩
  refine ⟨Mx, W, env, st, rel, ?_⟩
  unfold mComp at post
  cases qi : mi env st with
  | bad => rw [qi] at post; exact post
  | exc x s => rw [qi] at post; exact post
  | ok xs s =>
    rw [qi] at post
    simp only [bindR] at post
    split at post
    rotate_left
    · exact post.elim
    rename_i hk
    rw [Bool.and_eq_true] at hk
    obtain ⟨hno, hlen⟩ := hk
    have hlen := of_decide_eq_true hlen
    intro W1 H1 J a1 wk D hD
    have post := EPost.from a1 post
    have omw : ∀ p, Om (killE vs env) (wipe σ vs) p ↔ Om env σ p := fun p => om_wipe hno
    refine ⟨fun i n H' => ∃ W' st' acc wacc, Rel K tb (fun b => Mx b ∨ b = D) W' (wipe σ vs) H' (killE vs env) st' ∧ KB W1 H1 No W' H' No ∧ i + n = xs.length ∧ H' D = some (.lst wacc) ∧
        RFs K (Mt (fun b => Mx b ∨ b = D) W' (killE vs env) (wipe σ vs)) W' H' acc wacc ∧ acc.length ≤ i ∧
        EPost K mg tb Mx W1 σ H1 env Wx .N (bindX (compL g tc me (xs.drop i) (killE vs env) st') fun r s' => .ok (.lst (acc ++ r)) s') Q,
      ⟨xs.length, W1, s, [], [], (a1.rel.new hD noTbl_lst).wipes vs, ?_, Nat.zero_add _, upd_same, RFs.nil, Nat.le_refl _, post⟩, fun i n H' ⟨W', st', acc, wacc, rel', kb', en, hDl, rfs, hal, post'⟩ => ?_⟩
    · exact ⟨fun b o h _ _ _ => by rw [upd_ne (fun z => by rw [z, hD] at h; cases h)]; exact h, fun b h => by
        by_cases q : b = D
        · rw [q, upd_same]; simp
        · rw [upd_ne q]; exact h, List.prefix_refl _, fun _ h => .inl h, fun _ h => h.elim⟩
    have gr : Grow (Mt Mx W1 env σ) (Mt (fun b => Mx b ∨ b = D) W' (killE vs env) (wipe σ vs)) W1 W' H1 H' := ⟨fun b o h n t => kb'.kp b o h (fun z => n (.inl z)) (fun z => z) t, fun b h n z => by
      rcases z with z | (z | z) | z
      · rcases kb'.fr b z with y | y
        · exact n (.inl y)
        · exact h y
      · exact n (.inr (.inl z))
      · exact h (z ▸ hD)
      · exact n (.inr (.inr ((omw b).mp z))), kb'.pre⟩
    by_cases hi : i < xs.length
    · refine .inr ⟨wk.go i _ _ _ gr hi, fun H2 => ∃ W' st' acc wacc, Rel K tb (fun b => Mx b ∨ b = D) W' (wipe σ vs) H2 (killE vs env) st' ∧ KB W1 H1 No W' H2 No ∧ H2 D = some (.lst wacc) ∧
        RFs K (Mt (fun b => Mx b ∨ b = D) W' (killE vs env) (wipe σ vs)) W' H2 acc wacc ∧ acc.length ≤ i + 1 ∧
        EPost K mg tb Mx W1 σ H1 env Wx .N (bindX (compL g tc me (xs.drop (i + 1)) (killE vs env) st') fun r s' => .ok (.lst (acc ++ r)) s') Q, fun H2 ⟨W2, st2, acc2, wacc2, r2, k2, h2, f2, l2, p2⟩ => ⟨n - 1, by omega, W2, st2, acc2, wacc2, r2, k2, by omega, h2, f2, l2, p2⟩, fun x H2 hy => ?_⟩
      have hx : xs[i]? = some xs[i] := List.getElem?_eq_getElem hi
      obtain ⟨al, rf⟩ := wk.yl i _ _ _ x H2 xs[i] gr (fun p z => rel'.mtS z) hx hy
      have a2 := al.stp rel'
      rw [List.drop_eq_getElem_cons hi] at post'
      simp only [compL] at post'
      cases qg : g xs[i] (killE vs env) with
      | none => rw [qg] at post'; exact post'.elim
      | some e1 =>
        rw [qg] at post'
        refine ⟨_, W', killE vs env, st', xs[i], e1, a2.rel, rf, qg, fun σ2 r2 om2 c2 => ?_⟩
        have om2' : ∀ p, Om (killE vs env) (wipe σ vs) p → Om e1 σ2 p := fun p ⟨j, o, h1, h2⟩ => by
          have hj : j ∉ is := fun z => absurd (killE_un vs env j _ (hsub j z) h1) (fun y => nomatch y)
          exact ⟨j, o, (c2.at_ j hj).1.trans h1, (c2.at_ j hj).2.trans h2⟩
        refine ⟨?_, _, W', e1, st', r2, ?_⟩
        · refine List.ext_getElem? fun j => ?_
          by_cases hj : j ∈ vs
          · have : ∀ (τ : L2.St), τ.length = σ.length → (wipe τ vs)[j]? = if j < σ.length then some none else none := fun τ hτ => by
              by_cases hl : j < σ.length
              · rw [if_pos hl]
                cases q : (wipe τ vs)[j]? with
                | none =>
                  have := List.getElem?_eq_none_iff.mp q
                  rw [wipe_length, hτ] at this
                  omega
                | some u =>
                  cases u with
                  | none => rfl
                  | some v => exact absurd hj (wipe_some q).2
              · rw [if_neg hl, List.getElem?_eq_none (by rw [wipe_length, hτ]; omega)]
            rw [this σ2 (c2.len.trans (wipe_length σ vs)), this σ rfl]
          · rw [wipe_at hj, wipe_at hj, (c2.at_ j fun z => hj (hsub j z)).2, wipe_at hj]
        -- what follows the block's own things, seen from the outside
        have back : ∀ {W4 : List Addr} {H4 : Hp} {s4 : Sto}, Stp K tb (fun b => Mx b ∨ b = D) e1 σ2 W' H2 W4 H4 s4 → Rel K tb (fun b => Mx b ∨ b = D) W4 (wipe σ vs) H4 (killE vs env) s4 ∧ KB W1 H1 No W4 H4 No := fun {W4 H4 s4} a4 => by
          have kk : KB W' H' No W4 H4 No := (a2.kb (O := No)).trans a4.kb
          have q : Rel K tb (fun b => (Mx b ∨ b = D) ∨ Om (killE vs env) (wipe σ vs) b) W4 [] H4 [] s4 := a4.rel.toCall.less fun b z => z.elim .inl fun z => .inr (om2' b z)
          exact ⟨(rel'.back q kk).rel, kb'.trans kk⟩
        dsimp only at post'
        cases qt : tc e1 st' with
        | bad => rw [qt] at post'; exact post'.elim
        | exc x s => rw [qt] at post'; exact post'.elim
        | ok c s2 =>
          rw [qt] at post'
          simp only [bindX] at post'
          intro W3 H3 a3
          cases c with
          | false =>
            rw [if_neg Bool.false_ne_true] at post' ⊢
            obtain ⟨r3, k3⟩ := back a3
            have g3 : Grow (Mt (fun b => Mx b ∨ b = D) W' (killE vs env) (wipe σ vs)) (Mt (fun b => Mx b ∨ b = D) W3 (killE vs env) (wipe σ vs)) W' W3 H' H3 := (a2.trans (⟨r3, a3.kp, a3.nt, a3.pre, a3.fr⟩ : Stp K tb (fun b => Mx b ∨ b = D) (killE vs env) (wipe σ vs) W' H2 W3 H3 s2)).grow
            exact ⟨W3, s2, acc, wacc, r3, k3, a3.kp D _ (a2.kp D _ hDl (fun z => (rel'.wo D z).1 (.inr rfl)) noTbl_lst) (fun z => (rel'.wo D z).1 (.inr rfl)) noTbl_lst, RFs.grow g3 _ rfs, by omega, post'⟩
          | true =>
            rw [if_pos rfl] at post' ⊢
            refine ⟨_, W3, e1, s2, a3.rel, ?_⟩
            cases qe : me e1 s2 with
            | bad => rw [qe] at post'; exact post'.elim
            | exc x s => rw [qe] at post'; exact post'.elim
            | ok v s3 =>
              rw [qe] at post'
              simp only [bindX] at post'
              intro W4 H4 w a4 rm
              have a34 := a3.trans a4
              obtain ⟨r4, k4⟩ := back a34
              have nD : D ∉ W' := fun z => (rel'.wo D z).1 (.inr rfl)
              have hD4 : H4 D = some (.lst wacc) := a34.kp D _ (a2.kp D _ hDl nD noTbl_lst) nD noTbl_lst
              have g4 : Grow (Mt (fun b => Mx b ∨ b = D) W' (killE vs env) (wipe σ vs)) (Mt (fun b => Mx b ∨ b = D) W4 (killE vs env) (wipe σ vs)) W' W4 H' H4 := (a2.trans (⟨r4, a34.kp, a34.nt, a34.pre, a34.fr⟩ : Stp K tb (fun b => Mx b ∨ b = D) (killE vs env) (wipe σ vs) W' H2 W4 H4 s3)).grow
              have gD : Grow (Mt (fun b => Mx b ∨ b = D) W4 (killE vs env) (wipe σ vs)) (Mt (fun b => Mx b ∨ b = D) W4 (killE vs env) (wipe σ vs)) W4 W4 H4 (upd H4 D (.lst (wacc ++ [w]))) :=
                ⟨fun b u h n _ => by rw [upd_ne (fun z => n (.inr (.inl (.inr z))))]; exact h, fun b _ n => n, List.prefix_refl _⟩
              have rv : RF K (Mt (fun b => Mx b ∨ b = D) W4 (killE vs env) (wipe σ vs)) W4 H4 v w := RF.grow (Grow.less fun b z => by
                rcases z with z | z | z
                · exact .inl z
                · exact .inr (.inl z)
                · exact .inr (.inr (om2' b z))) _ rm
              refine ⟨wacc, hD4, ?_, W4, s3, acc ++ [v], wacc ++ [w], r4.putMx (.inr rfl) hD4, ?_, upd_same, RFs.grow gD _ ((RFs.grow g4 _ rfs).append (RFs.cons rv RFs.nil)), by rw [List.length_append]; simp; omega, ?_⟩
              · rw [rfs.len]
                exact Nat.lt_of_lt_of_le (show acc.length < 1000001 by omega) (by decide)
              · exact ⟨fun b o h n1 n2 t => by rw [upd_ne (fun z => by rw [z, hD] at h; cases h)]; exact k4.kp b o h n1 n2 t, fun b h => by
                  by_cases q : b = D
                  · rw [q, upd_same]; simp
                  · rw [upd_ne q]; exact k4.nt b h, k4.pre, k4.fr, fun _ h => h.elim⟩
              · cases qc : compL g tc me (xs.drop (i + 1)) (killE vs env) s3 with
                | bad => rw [qc] at post'; exact post'.elim
                | exc x s => rw [qc] at post'; exact post'.elim
                | ok r s5 =>
                  rw [qc] at post'
                  simp only [bindX, List.append_assoc, List.singleton_append] at post' ⊢
                  exact post'
    · have e : i = xs.length := by omega
      subst e
      refine .inl ⟨wk.st _ _ _ gr, ?_⟩
      rw [List.drop_length] at post'
      simp only [compL, bindX, List.append_nil] at post'
      have rc : Rel K tb (fun b => (Mx b ∨ b = D) ∨ Om (killE vs env) (wipe σ vs) b) W' [] H' [] st' := rel'.toCall
      have rN := a1.rel.back2 hD rc (fun b => by constructor <;> (intro z; exact z.elim .inl fun y => .inr (by first | exact (omw b).mp y | exact (omw b).mpr y))) kb' (by rw [hDl]; simp)
      refine post' W' H' (.ref D) ⟨rN.less fun b z => .inl z, fun b o h n t => kb'.kp b o h n (fun z => z) t, kb'.nt, kb'.pre, kb'.fr⟩ ?_
      refine ⟨acc, D, wacc, rfl, rfl, hD, fun z => a1.rel.mx D z hD, hDl, rN, RFs.grow (Grow.less fun b z => ?_) _ rfs⟩
      rcases z with z | z | z
      · exact .inl z
      · exact .inr (.inl z)
      · exact .inr (.inr ((omw b).mpr z))
theorem e_lc (hc : X.calm = true) (hN : X.N.Nodup) (hi : IOk X tb Wx tg iter mi) (ok : BlkOk X.N X.env.scope scope own)
    (hg : ∀ (s : Shared) (H : Hp) (C : Addr) (cl : List (Str × Addr)) (fp : List Addr), GOk (X.blk s H scope (compEnvC scope cl C X.env) fp) tb is tg g) (ht : ∀ (s : Shared) (H : Hp) (C : Addr) (cl : List (Str × Addr)) (fp : List Addr), TsOk (X.blk s H scope (compEnvC scope cl C X.env) fp) tb WN ifs tc)
    (he : ∀ (s : Shared) (H : Hp) (C : Addr) (cl : List (Str × Addr)) (fp : List Addr), EOk (X.blk s H scope (compEnvC scope cl C X.env) fp) tb WN .F elt me) (hsub : ∀ j ∈ is, j ∈ own.map (·.2) := by decide) (hs : ∀ x, foldedSetIterable iter X.env x = pure x := by intro _; rfl) :
    EOk X tb Wx .N (.ListComp elt [⟨tg, iter, ifs, 0⟩] scope pos) (mComp mi g tc me (own.map (·.2))) :=
  PE_mono (pe_lc hc hN hi ok hg (fun s H C cl fp => (ht s H C cl fp).h) he hs) (lc_read hsub)
end
end Mp
end
section
set_option maxRecDepth 100000
set_option maxHeartbeats 1000000
namespace Mp
open PySem PySem.Spec PyProof.Rows L2
def CallV (X : Cx) (f : Value) (g : Sto → List PV → Option PV) : Prop := CallR X f fun xs H Q => ∃ (M : Addr → Prop) (W : List Addr) (st : Sto) (args : List PV) (v : PV),
  (∀ p, M p → H p ≠ none) ∧ StOk X.K M W H st ∧ RMs X.K W H false M args xs ∧ g st args = some v ∧ ∀ H' w, Al H H' → RF X.K M W H' v w → Q w H'
def CallN (X : Cx) (f : Value) (g : Sto → List PV → Option (List PV)) : Prop := CallR X f fun xs H Q => ∃ (M : Addr → Prop) (W : List Addr) (st : Sto) (args r : List PV),
  (∀ p, M p → H p ≠ none) ∧ StOk X.K M W H st ∧ RMs X.K W H false M args xs ∧ g st args = some r ∧ ∀ p ws, H p = none → RFs X.K M W H r ws → Q (.ref p) (upd H p (.lst ws))
def mCallB (g : Sto → List PV → Option PV) (ms : AM) : EM := fun env st => bindR (ms env st) fun vs s => optR (g s vs) s
def mCallN (g : Sto → List PV → Option (List PV)) (ms : AM) : EM := fun env st => bindR (ms env st) fun vs s => optR ((g s vs).map .lst) s
section
variable {X : Cx} {tb : Tbs} {Wx : WX} {e : Expr} {es : List Expr} {ms : AM} {pos p : Pos} {x : Str} {g : Sto → List PV → Option PV} {gn : Sto → List PV → Option (List PV)}
theorem call_read {f : Value} (hc : CallV X f g) : ∀ σ H Q, tM X.K X.mg tb Wx .F (mCallB g ms) σ H Q → (tMA X.K X.mg tb Wx false ms) σ H fun vs H1 => ∃ (M : Addr → Prop) (W : List Addr) (st : Sto) (args : List PV) (v : PV),
    (∀ p, M p → H1 p ≠ none) ∧ StOk X.K M W H1 st ∧ RMs X.K W H1 false M args vs ∧ g st args = some v ∧ ∀ H' w, Al H1 H' → RF X.K M W H' v w → Q w H' := fun σ H Q ⟨Mx, W, env, st, rel, post⟩ => by
  refine abindE rel post fun vs s W1 H1 ws a1 r1 post => ?_
  cases q : g s vs with
  | none => rw [q] at post; exact post.elim
  | some v =>
    rw [q] at post
    exact ⟨Mt Mx W1 env σ, W1, s, vs, v, fun p z => a1.rel.mtS z, a1.rel.stOk, r1, q, fun H' w al rf => post W1 H' w (al.stp a1.rel) rf⟩
theorem calln_read {f : Value} (hc : CallN X f gn) : ∀ σ H Q, tM X.K X.mg tb Wx .N (mCallN gn ms) σ H Q → (tMA X.K X.mg tb Wx false ms) σ H fun vs H1 => ∃ (M : Addr → Prop) (W : List Addr) (st : Sto) (args r : List PV),
    (∀ p, M p → H1 p ≠ none) ∧ StOk X.K M W H1 st ∧ RMs X.K W H1 false M args vs ∧ gn st args = some r ∧ ∀ p ws, H1 p = none → RFs X.K M W H1 r ws → Q (.ref p) (upd H1 p (.lst ws)) := fun σ H Q ⟨Mx, W, env, st, rel, post⟩ => by
  refine abindE rel post fun vs s W1 H1 ws a1 r1 post => ?_
  cases q : gn s vs with
  | none => rw [q] at post; exact post.elim
  | some r =>
    rw [q] at post
    exact ⟨Mt Mx W1 env σ, W1, s, vs, r, fun p z => a1.rel.mtS z, a1.rel.stOk, r1, q, fun p ws hp rs => post W1 _ _ (.new a1.rel hp noTbl_lst) (rm_newL a1.rel hp rs)⟩
theorem e_callB {id : String} (hc : CallV X (.builtin id) g) (hg : Gl X x) (hm : X.mg x = none) (hv : bootBuiltins x = some (.builtin id)) (ha : AOk X tb Wx false (e :: es) ms) (hn : x ≠ "__name__" := by decide) (hd : (x == ("__debug__" : Str)) = false := by decide)
    (he : starEach (e :: es) X.env = (false, eval e X.env) :: starEach es X.env := by rfl) (hpl : (backTo pos (starEach es X.env)).any (·.1) = false := by rfl) : EOk X tb Wx .F (.Call (.Name x p) (e :: es) [] pos) (mCallB g ms) :=
  PE_mono (pe_callB hc hg hm hv ha hn hd he hpl) (call_read hc)
theorem e_callT {T : String} (hc : CallV X (.type T) g) (hg : Gl X x) (hm : X.mg x = none) (hv : bootBuiltins x = some (.type T)) (ha : AOk X tb Wx false (e :: es) ms) (hn : x ≠ "__name__" := by decide) (hd : (x == ("__debug__" : Str)) = false := by decide)
    (he : starEach (e :: es) X.env = (false, eval e X.env) :: starEach es X.env := by rfl) (hpl : (backTo pos (starEach es X.env)).any (·.1) = false := by rfl) : EOk X tb Wx .F (.Call (.Name x p) (e :: es) [] pos) (mCallB g ms) :=
  PE_mono (pe_callTy hc hg hm hv ha hn hd he hpl) (call_read hc)
theorem e_callBN {id : String} (hc : CallN X (.builtin id) gn) (hg : Gl X x) (hm : X.mg x = none) (hv : bootBuiltins x = some (.builtin id)) (ha : AOk X tb Wx false (e :: es) ms) (hn : x ≠ "__name__" := by decide) (hd : (x == ("__debug__" : Str)) = false := by decide)
    (he : starEach (e :: es) X.env = (false, eval e X.env) :: starEach es X.env := by rfl) (hpl : (backTo pos (starEach es X.env)).any (·.1) = false := by rfl) : EOk X tb Wx .N (.Call (.Name x p) (e :: es) [] pos) (mCallN gn ms) :=
  PE_mono (pe_callB hc hg hm hv ha hn hd he hpl) (calln_read hc)
end
def bLen (s : Sto) : List PV → Option PV
  | [.str z] => if z.length ≤ 100000 then some (.int z.length) else none
  | [v] => (seqOf s v).map fun xs => .int xs.length
  | _ => none
def bAbs (_ : Sto) : List PV → Option PV
  | [.int i] => some (.int (if i < 0 then -i else i))
  | _ => none
def bInt (_ : Sto) : List PV → Option PV
  | [.int i] => some (.int i)
  | [.bl b] => some (.int (bi b))
  | _ => none
def bTuple (s : Sto) : List PV → Option PV
  | [.tup xs] => some (.tup xs)
  | [.lst xs] => some (.tup xs)
  | [.ref n] => (seqOf s (.ref n)).map .tup
  | _ => none
def b2 (f : PV → PV → Option PV) (_ : Sto) : List PV → Option PV
  | [a, b] => f a b
  | _ => none
section
variable {K : PySem.W.Frag} {M : Addr → Prop} {W : List Addr} {H : Hp} {st : Sto}
theorem seq_rd {v : PV} {w : V} {xs : List PV} (so : StOk K M W H st) (r : RV K M W H v w) (h : seqOf st v = some xs) : ∃ p ws, w = .ref p ∧ (SqL K H p ws ∨ SqT K H p ws) ∧ RFs K M W H xs ws := by
  cases v with
  | lst ys =>
    cases h
    obtain ⟨p, ws, rfl, h1, h2⟩ := r.lst
    exact ⟨p, ws, rfl, .inl h1, h2⟩
  | tup ys =>
    cases h
    obtain ⟨p, ws, rfl, h1, h2⟩ := r.tup
    exact ⟨p, ws, rfl, .inr h1, h2⟩
  | ref n =>
    obtain ⟨p, rfl, hp⟩ := r.ref
    simp only [seqOf] at h
    split at h
    · rename_i ys hs
      cases h
      obtain ⟨ws, h1, h2⟩ := so n p _ hp hs
      exact ⟨p, ws, rfl, .inl (.of h1), h2⟩
    · cases h
  | non => cases h
  | bl _ => cases h
  | int _ => cases h
  | str _ => cases h
  | fn _ => cases h
  | dct _ _ => cases h
end
section
variable {X : Cx}
theorem cv_len : CallV X (.builtin "len") bLen := by
  intro pins s σ H xs us Q I r h
  obtain ⟨M, W, st, args, v, hm, so, ra, hg, q⟩ := h
  unfold bLen at hg
  split at hg
  · rename_i z
    split at hg
    · rename_i hl
      cases hg
      obtain ⟨w, rfl, r1⟩ := RVs1 ra
      cases r1.str
      exact call_len pins s σ H _ us Q I r ⟨_, z.length, rfl, ⟨Nat.le_trans hl (show 100000 ≤ sizeLine by decide), rfl⟩, q H _ (.inl rfl) rf_int⟩
    · cases hg
  · rename_i v' _
    cases e : seqOf st v' with
    | none => rw [e] at hg; cases hg
    | some ys =>
      rw [e] at hg; cases hg
      obtain ⟨w, rfl, r1⟩ := RVs1 ra
      obtain ⟨p, ws, rfl, h1, h2⟩ := seq_rd so r1 e
      have := q H (.int ys.length) (.inl rfl) rf_int
      rw [← h2.len] at this
      exact call_len pins s σ H _ us Q I r ⟨_, ws.length, rfl, h1.elim (fun h => .inl ⟨ws, h, rfl⟩) (fun h => .inr ⟨ws, h, rfl⟩), this⟩
  · cases hg
theorem cv_abs : CallV X (.builtin "abs") bAbs := by
  intro pins s σ H xs us Q I r h
  obtain ⟨M, W, st, args, v, hm, so, ra, hg, q⟩ := h
  unfold bAbs at hg
  split at hg
  · cases hg
    obtain ⟨w, rfl, r1⟩ := RVs1 ra
    cases r1.int
    exact call_abs pins s σ H _ us Q I r ⟨_, rfl, q H _ (.inl rfl) rf_int⟩
  · cases hg
theorem cv_int : CallV X (.type "int") bInt := by
  intro pins s σ H xs us Q I r h
  obtain ⟨M, W, st, args, v, hm, so, ra, hg, q⟩ := h
  unfold bInt at hg
  split at hg
  · cases hg
    obtain ⟨w, rfl, r1⟩ := RVs1 ra
    cases r1.int
    exact call_int1 pins s σ H _ us Q I r (.inl ⟨_, rfl, q H _ (.inl rfl) rf_int⟩)
  · cases hg
    obtain ⟨w, rfl, r1⟩ := RVs1 ra
    cases r1.bl
    exact call_int1 pins s σ H _ us Q I r (.inr ⟨_, rfl, q H _ (.inl rfl) rf_int⟩)
  · cases hg
theorem cv_tuple : CallV X (.type "tuple") bTuple := by
  intro pins s σ H xs us Q I r h
  obtain ⟨M, W, st, args, v, hm, so, ra, hg, q⟩ := h
  unfold bTuple at hg
  split at hg
  · cases hg
    obtain ⟨w, rfl, r1⟩ := RVs1 ra
    obtain ⟨p, ws, rfl, h1, h2⟩ := r1.tup
    refine call_tuple_of pins s σ H _ us Q I r ⟨p, ws, rfl, .inr ⟨h1, ?_⟩⟩
    rcases r1 with r1 | ⟨_, _, _, z, _⟩
    · exact q H _ (.inl rfl) r1
    · cases z
  · cases hg
    obtain ⟨w, rfl, r1⟩ := RVs1 ra
    obtain ⟨p, ws, rfl, h1, h2⟩ := r1.lst
    exact call_tuple_of pins s σ H _ us Q I r ⟨p, ws, rfl, .inl ⟨h1, fun l hl => q _ _ (.inr ⟨l, _, hl, noTbl_tup, rfl⟩) (rf_newT hm hl h2)⟩⟩
  · rename_i n
    cases e : seqOf st (.ref n) with
    | none => rw [e] at hg; cases hg
    | some ys =>
      rw [e] at hg; cases hg
      obtain ⟨w, rfl, r1⟩ := RVs1 ra
      obtain ⟨p, rfl, hp⟩ := r1.ref
      simp only [seqOf] at e
      split at e
      · rename_i ys' hs
        cases e
        obtain ⟨ws, h1, h2⟩ := so n p _ hp hs
        exact call_tuple_of pins s σ H _ us Q I r ⟨p, ws, rfl, .inl ⟨.of h1, fun l hl => q _ _ (.inr ⟨l, _, hl, noTbl_tup, rfl⟩) (rf_newT hm hl h2)⟩⟩
      · cases e
  · cases hg
end
def tup1 : PV → Bool | .tup (_ :: _) => true | _ => false
def noTup : PV → Bool | .tup _ => false | .non => false | _ => true
def sortOk (xs : List PV) : Bool := xs.all (pd 59) && (xs.all fun a => xs.all fun b => alk a b) && (xs.all tup1 || xs.all noTup)
def pvSort (xs : List PV) : List PV := xs.mergeSort fun a b => !pvLt b a
def bSorted (s : Sto) : List PV → Option (List PV)
  | [.lst xs] => if sortOk xs then some (pvSort xs) else none
  | _ => none
theorem pairs_each {P : V → PV → Prop} : ∀ {ws : List V} {xs : List PV}, ws.length = xs.length → (∀ (i : Nat) (w : V) (x : PV), ws[i]? = some w → xs[i]? = some x → P w x) → ∀ b ∈ ws.zip xs, P b.1 b.2
  | [], _, _, _, b, hb => by simp at hb
  | w :: ws, [], h, _, b, hb => by simp at hb
  | w :: ws, x :: xs, h, f, b, hb => by
    rcases List.mem_cons.mp (show b ∈ (w, x) :: ws.zip xs from hb) with rfl | hb
    · exact f 0 w x rfl rfl
    · exact pairs_each (by simpa using h) (fun i w x h1 h2 => f (i + 1) w x (by simpa using h1) (by simpa using h2)) b hb
theorem each_zip {its : List Value} : ∀ {ws : List V} {xs : List PV} {its : List Value}, ws.length = xs.length → Vals ws its → PySem.W.EachIs (fun v (b : V × PV) => RelV b.1 v) its (ws.zip xs)
  | [], [], _, _, .nil => .nil
  | w :: ws, x :: xs, _, h, .cons r t => .cons r (each_zip (its := []) (by simpa using h) t)
theorem each_vals : ∀ {its : List Value} {bs : List (V × PV)}, PySem.W.EachIs (fun v (b : V × PV) => RelV b.1 v) its bs → Vals (bs.map (·.1)) its
  | _, _, .nil => .nil
  | _, _, .cons r t => .cons r (each_vals t)
theorem rfs_of_mem {K : PySem.W.Frag} {M : Addr → Prop} {W : List Addr} {H : Hp} : ∀ {bs : List (V × PV)}, (∀ b ∈ bs, RF K M W H b.2 b.1) → RFs K M W H (bs.map (·.2)) (bs.map (·.1))
  | [], _ => RFs.nil
  | b :: bs, h => RFs.cons (h b List.mem_cons_self) (rfs_of_mem fun c hc => h c (List.mem_cons_of_mem _ hc))
theorem each_of {α β : Type} {R : α → β → Prop} {its : List α} {bs : List β} (hl : its.length = bs.length) (h : ∀ (i : Nat) (a : α) (b : β), its[i]? = some a → bs[i]? = some b → R a b) : PySem.W.EachIs R its bs := by
  induction its generalizing bs with
  | nil => cases bs with
    | nil => exact .nil
    | cons _ _ => cases hl
  | cons a as ih => cases bs with
    | nil => cases hl
    | cons b bs => exact .cons (h 0 a b rfl rfl) (ih (by simpa using hl) fun i a b h1 h2 => h (i + 1) a b (by simpa using h1) (by simpa using h2))
theorem cn_sorted {X : Cx} (hu : X.A.units + 100 < cLine) : CallN X (.builtin "sorted") bSorted := by
  intro pins s σ H xs us Q I r h
  obtain ⟨M, W, st, args, v, hm, so, ra, hg, q⟩ := h
  unfold bSorted at hg
  split at hg
  · rename_i ys
    split at hg
    · rename_i hk
      cases hg
      unfold sortOk at hk
      rw [Bool.and_eq_true, Bool.and_eq_true] at hk
      obtain ⟨⟨hd, hal⟩, hso⟩ := hk
      obtain ⟨w, rfl, r1⟩ := RVs1 ra
      obtain ⟨p, ws, rfl, h1, h2⟩ := r1.lst
      obtain ⟨its, rv, hl, hz⟩ := I.list h1
      rw [Vals.ref1 r]
      have hlen : ws.length = ys.length := h2.len
      have hmem : ∀ b ∈ ws.zip ys, RF X.K M W H b.2 b.1 ∧ pd 59 b.2 = true := pairs_each (P := fun w x => RF X.K M W H x w ∧ pd 59 x = true) hlen fun i w x e1 e2 => by
        obtain ⟨w', e3, rf⟩ := h2.get e2
        rw [e1] at e3; cases e3
        exact ⟨rf, List.all_eq_true.mp hd x (List.mem_of_getElem? e2)⟩
      have hsnd : (ws.zip ys).map (·.2) = ys := by rw [← List.unzip_snd, List.unzip_zip_right (by omega)]
      have hmem2 : ∀ b ∈ ws.zip ys, b.2 ∈ ys := fun b hb => (List.of_mem_zip hb).2
      have halk : ∀ b ∈ ws.zip ys, ∀ c ∈ ws.zip ys, alk b.2 c.2 = true := fun b hb c hc => List.all_eq_true.mp (List.all_eq_true.mp hal b.2 (hmem2 b hb)) c.2 (hmem2 c hc)
      refine PySem.W.sorted_data (R := fun v (b : V × PV) => RelV b.1 v) (enc := fun b => toD b.2) (bs := ws.zip ys) hl.isList (each_zip (its := its) hlen rv) ?_ ?_ ?_ ?_ ?_ fun out hol ho => ?_
      · refine each_of (by rw [List.length_zip, ← rv.length]; omega) fun i a b e1 e2 => ?_
        have hb := List.mem_of_getElem? e2
        obtain ⟨hi, _⟩ := List.getElem?_eq_some_iff.mp e2
        have e3 : ws[i]? = some b.1 := by
          have := congrArg (Option.map Prod.fst) e2
          rw [← List.getElem?_map, ← List.unzip_fst, List.unzip_zip_left (by omega)] at this
          exact this
        obtain ⟨u, e4, ru⟩ := rv.get e3
        rw [e1] at e4; cases e4
        exact Dp.reads I (toD b.2) b.1 a (RF.dp 59 b.2 (hmem b hb).2 (hmem b hb).1) ru
      · intro d hd' d' hd''
        obtain ⟨b, hb, rfl⟩ := List.mem_map.mp hd'
        obtain ⟨c, hc, rfl⟩ := List.mem_map.mp hd''
        rw [alk_toD 59 59 _ _ (hmem b hb).2 (hmem c hc).2]
        exact halk b hb c hc
      · rw [Bool.or_eq_true] at hso
        rcases hso with hso | hso
        · left
          intro d hd'
          obtain ⟨b, hb, rfl⟩ := List.mem_map.mp hd'
          have := List.all_eq_true.mp hso b.2 (hmem2 b hb)
          revert this
          cases b.2 with
          | tup zs => cases zs with
            | nil => intro z; cases z
            | cons z zs => intro _; exact ⟨toD z, toDs zs, rfl⟩
          | _ => intro z; cases z
        · right
          intro d hd'
          obtain ⟨b, hb, rfl⟩ := List.mem_map.mp hd'
          have h3 := List.all_eq_true.mp hso b.2 (hmem2 b hb)
          have h4 := (hmem b hb).2
          revert h3 h4
          cases b.2 <;> (intro h3 h4; first | (cases h3; done) | (unfold pd at h4; cases h4; done) | (refine ⟨fun z => ?_, fun xs z => ?_⟩ <;> simp [toD] at z))
      · rw [List.length_zip]; omega
      · intro b hb
        have := (pd_lay 59 b.2 (hmem b hb).2).2
        show X.A.units + 2 + (toD b.2).depth < cLine
        omega
      · have hfin : ((ws.zip ys).mergeSort (PySem.W.dataLe false fun b => toD b.2)).map (·.2) = pvSort ys := by
          have e := List.map_mergeSort (r := PySem.W.dataLe false fun b => toD b.2) (s := fun a b => !pvLt b a) (f := fun (b : V × PV) => b.2) (l := ws.zip ys) ?_
          · rw [e, hsnd]; rfl
          intro a ha b hb
          show (!PySem.W.dataLt (toD b.2) (toD a.2)) = !pvLt b.2 a.2
          rw [lt_toD 59 59 b.2 a.2 (hmem b hb).2 (hmem a ha).2 (halk b hb a ha)]
        have hv := each_vals ho
        have hrf : RFs X.K M W H (pvSort ys) (((ws.zip ys).mergeSort (PySem.W.dataLe false fun b => toD b.2)).map (·.1)) := by
          rw [← hfin]
          exact rfs_of_mem fun b hb => (hmem b (List.mem_mergeSort.mp hb)).1
        obtain ⟨ep, he'⟩ := PyProof.Rows.sortedAll_at s.heap its out.toArray
        refine ⟨.ref _, upd H (s.heap.objs.size + 1) (.lst (((ws.zip ys).mergeSort (PySem.W.dataLe false fun b => toD b.2)).map (·.1))), I.laid (t' := s.toks) (fun _ _ => PyProof.Rows.sortedAll_old) (Nat.le_succ _) ⟨?_, out, ep, hv, he'⟩, rfl, q _ _ (I.hok.fresh (Nat.le_succ _)) hrf⟩
        rw [List.length_map, List.length_mergeSort, List.length_zip]
        omega
    · cases hg
  · cases hg
end Mp
end
section
set_option maxRecDepth 100000
set_option maxHeartbeats 1000000
namespace Mp
open PySem PySem.Spec PyProof.Rows L2
def big : Nat := 1000000
theorem big_lt {n : Nat} (h : n < big) : n < sizeLine := Nat.lt_of_lt_of_le h (by decide)
def sAppend (i : Nat) (m : EM) : SM := fun env st => match env[i]? with
  | some (.own (.lst _)) => bindF (m env st) fun v s => match env[i]? with
    | some (.own (.lst xs)) => if xs.length < big then .nx (env.set i (.own (.lst (xs ++ [v])))) s else .bad
    | _ => .bad
  | _ => .bad
def sExtend (i : Nat) (m : EM) : SM := fun env st => match env[i]? with
  | some (.own (.lst _)) => bindF (m env st) fun v s => match env[i]? with
    | some (.own (.lst xs)) => match v with
      | .lst ys => if xs.length + ys.length < big then .nx (env.set i (.own (.lst (xs ++ ys)))) s else .bad
      | _ => .bad
    | _ => .bad
  | _ => .bad
def sSetIxS (mo mi mv : EM) : SM := fun env st => bindF (mv env st) fun v s => bindF (mo env s) fun o s1 => bindF (mi env s1) fun k s2 => match o, k with
  | .ref n, .int j => match s2[n]? with
    | some (.lst xs) => match ixN xs.length j with
      | some q => .nx env (s2.set n (.lst (xs.set q v)))
      | none => .bad
    | _ => .bad
  | _, _ => .bad
def mLstS (ms : AM) : EM := fun env st => bindR (ms env st) fun vs s => if vs.length ≤ 1000 then .ok (.ref s.length) (s ++ [.lst vs]) else .bad
section
variable {K : PySem.W.Frag} {tb : Tbs} {Mx : Addr → Prop} {W : List Addr} {σ : L2.St} {H : Hp} {env : MEnv} {st : Sto}
theorem Rel.newS {p : Addr} {xs : List PV} {ws : List V} (r : Rel K tb Mx W σ H env st) (hp : H p = none) (rs : RFs K (Mt Mx W env σ) W H xs ws) :
    Stp K tb Mx env σ W H (W ++ [p]) (upd H p (.lst ws)) (st ++ [.lst xs]) := by
  have nt : ∀ {p : Addr}, Mt Mx W env σ p → H p ≠ none := fun h => r.mtS h
  have pw : p ∉ W := fun z => nt (.inl z) hp
  have ne : ∀ b, H b ≠ none → b ≠ p := fun b h z => h (by rw [z]; exact hp)
  have kp : ∀ b u, H b = some u → upd H p (.lst ws) b = some u := fun b u h => by rw [upd_ne (ne b (by rw [h]; simp))]; exact h
  have ntk : ∀ b, H b ≠ none → upd H p (.lst ws) b ≠ none := fun b h => by rw [upd_ne (ne b h)]; exact h
  have g : Grow (Mt Mx W env σ) (Mt Mx (W ++ [p]) env σ) W (W ++ [p]) H (upd H p (.lst ws)) := ⟨fun b u h _ _ => kp b u h, fun b h n z => by
    rcases z with z | z
    · rcases List.mem_append.mp z with z | z
      · exact n (.inl z)
      · exact ne b h (List.mem_singleton.mp z)
    · exact n (.inr z), List.prefix_append _ _⟩
  refine ⟨⟨fun P hP => ?_, fun b h => ntk b (r.mx b h), ?_, fun b h => ?_, r.om, r.inj, r.el, by simp [r.len], fun j q u h1 h2 => ?_, fun j u h => ?_, fun j u h => ?_⟩, fun b u h _ _ => kp b u h, ntk, List.prefix_append _ _, fun b h => ?_⟩
  · exact (r.tab P hP).keep fun b o h _ => kp b o h
  · rw [List.nodup_append]
    exact ⟨r.nd, by simp, fun a ha b hb e => by rw [List.mem_singleton.mp hb] at e; exact pw (e ▸ ha)⟩
  · rcases List.mem_append.mp h with h | h
    · exact r.wo b h
    · rw [List.mem_singleton.mp h]
      exact ⟨fun z => r.mx p z hp, fun z => nt (.inr (.inr z)) hp⟩
  · by_cases hj : j < W.length
    · rw [List.getElem?_append_left hj] at h1
      rw [List.getElem?_append_left (by rw [← r.len]; exact hj)] at h2
      exact (r.sto j q u h1 h2).grow g fun x hx _ => kp q x hx
    · rw [List.getElem?_append_right (by omega)] at h1
      rw [List.getElem?_append_right (by rw [← r.len]; omega)] at h2
      have e1 : j - W.length = 0 := by
        have := (List.getElem?_eq_some_iff.mp h1).1
        simp at this; omega
      rw [e1] at h1
      rw [← r.len, e1] at h2
      simp at h1 h2
      subst h1 h2
      exact ⟨ws, upd_same, RFs.grow g _ rs⟩
  · obtain ⟨x, e2, rf⟩ := r.pv j u h
    exact ⟨x, e2, RF.grow g _ rf⟩
  · obtain ⟨x, e2, rf⟩ := r.own j u h
    exact ⟨x, e2, rf.grow g fun y hy _ => kp x y hy⟩
  · rcases List.mem_append.mp h with h | h
    · exact .inl h
    · rw [List.mem_singleton.mp h]; exact .inr hp
end
section
variable {X : Cx} {tb : Tbs} {Wx : WX} {a b c e v o : Expr} {es rest : List Expr} {ma mb mc m mi mv mo : EM} {ms : AM} {pos pos' np apos cpos : Pos} {x : Str} {i : Nat}
theorem e_lstS (h : AOk X tb Wx true es ms) : EOk X tb Wx .F (.List es pos) (mLstS ms) := PE_mono (pe_lst h) fun σ H Q ⟨Mx, W, env, st, rel, post⟩ => by
  refine abindE rel post fun vs s W1 H1 ws a1 r1 post => ?_
  split at post
  · rename_i hl
    have e := RFs.len r1
    refine ⟨by rw [e]; exact small1000' hl, fun p hp => ?_⟩
    have st' := a1.rel.newS hp r1
    refine post _ _ _ st' ?_
    show RF X.K (Mt Mx (W1 ++ [p]) env σ) (W1 ++ [p]) (upd H1 p (.lst ws)) (.ref s.length) (.ref p)
    unfold RF
    refine ⟨p, rfl, ?_⟩
    rw [← a1.rel.len]
    simp
  · exact post.elim
theorem s_append {s1 : Stmt} (h : PS X s1 (tDrop (tBM X.K "list" rAppend (tVar i) (tCons (tM X.K X.mg tb Wx .F m) tNil)))) : SOk X tb Wx s1 (sAppend i m) :=
  PS_mono h fun D σ H ⟨Mx, W0, H0, O0, W, env, st, rel, kb, post⟩ => by
    unfold sAppend at post
    split at post
    · rename_i xs q
      obtain ⟨p, e1, ro⟩ := rel.own i _ q
      · obtain ⟨ws, e2, e3⟩ := ro
        refine ⟨.ref p, e1, .inl ⟨rfl, _, .of e2⟩, ?_⟩
        refine ebindS rel kb post fun v s W1 H1 w a1 kb1 rm post => ?_
        try rw [q] at post
        dsimp only at post
        split at post
        · rename_i hl
          obtain ⟨p', e1', ws', e2', e3'⟩ := a1.rel.own i _ q
          rw [e1] at e1'; cases e1'
          refine ⟨p, ws', w, rfl, rfl, e2', by rw [e3'.len]; exact big_lt hl, ?_⟩
          have rm' : RF X.K (Mt Mx W1 env σ) W1 H1 v w := rm
          obtain ⟨r2, k2⟩ := a1.rel.putOwn q e1 (e3'.append (RFs.cons rm' RFs.nil))
          exact post σ W1 _ r2 (kb1.trans k2)
        · exact post.elim
    · exact post.elim
theorem s_extend {s1 : Stmt} (h : PS X s1 (tDrop (tBM X.K "list" rExtend (tVar i) (tCons (tM X.K X.mg tb Wx .N m) tNil)))) : SOk X tb Wx s1 (sExtend i m) :=
  PS_mono h fun D σ H ⟨Mx, W0, H0, O0, W, env, st, rel, kb, post⟩ => by
    unfold sExtend at post
    split at post
    · rename_i xs q
      obtain ⟨p, e1, ro⟩ := rel.own i _ q
      · obtain ⟨ws, e2, e3⟩ := ro
        refine ⟨.ref p, e1, .inl ⟨rfl, _, .of e2⟩, ?_⟩
        refine ebindS rel kb post fun v s W1 H1 w a1 kb1 rm post => ?_
        obtain ⟨ys, p2, ws2, rfl, rfl, h3, nm, h4, rN, rs⟩ := rm
        try rw [q] at post
        dsimp only at post
        split at post
        · rename_i hl
          obtain ⟨p', e1', ws', e2', e3'⟩ := a1.rel.own i _ q
          rw [e1] at e1'; cases e1'
          refine ⟨p, p2, ws', ws2, rfl, rfl, e2', h4, by rw [e3'.len, rs.len]; exact Nat.le_of_lt (big_lt hl), ?_⟩
          obtain ⟨r2, k2⟩ := a1.rel.putOwn q e1 (e3'.append (RFs.grow (Grow.less fun b z => by
            rcases z with z | z | z
            · exact .inl z
            · exact .inr (.inl (.inl z))
            · exact .inr (.inr z)) _ rs))
          exact post σ W1 _ r2 (kb1.trans k2)
        · exact post.elim
    · exact post.elim
theorem s_setIxS {s1 : Stmt} (h : PS X s1 (tAsg (tM X.K X.mg tb Wx .F mv) (gSub (tM X.K X.mg tb Wx .F mo) (tM X.K X.mg tb Wx .R mi) rSetL))) : SOk X tb Wx s1 (sSetIxS mo mi mv) :=
  PS_mono h fun D σ H ⟨Mx, W0, H0, O0, W, env, st, rel, kb, post⟩ => by
    refine ebindS rel kb post fun v s W1 H1 w a1 kb1 rm post => ?_
    refine ebindS a1.rel kb1 post fun ov s1 W2 H2 w2 a2 kb2 rm2 post => ?_
    refine ebindS a2.rel kb2 post fun k s2 W3 H3 w3 a3 kb3 rm3 post => ?_
    split at post
    · rename_i n j _
      split at post
      · rename_i xs hs'
        split at post
        · rename_i q hq
          cases (RV.int rm3)
          have rm2' : RF X.K (Mt Mx W3 env σ) W3 H3 (.ref n) w2 := RF.grow a3.grow _ rm2
          unfold RF at rm2'
          obtain ⟨p, rfl, hp⟩ := rm2'
          obtain ⟨ws, e2, e3⟩ := a3.rel.sto n p _ hp hs'
          have rm' : RF X.K (Mt Mx W3 env σ) W3 H3 v w := RF.grow (a2.trans a3).grow _ rm
          have st' := a3.rel.putSto hp (RFs.set rm' q e3)
          exact ⟨p, ws, j, q, rfl, rfl, e2, by rw [e3.len]; exact hq, post σ W3 _ st'.rel (kb3.trans st'.kb)⟩
        · exact post.elim
      · exact post.elim
    · exact post.elim
end
def cutL {α : Type} (xs : List α) (lo hi : Option Int) : List α := (xs.drop (HT.sIx xs.length 0 lo)).take (HT.sIx xs.length xs.length hi - HT.sIx xs.length 0 lo)
abbrev PM := MEnv → Sto → MRes (Option Int)
def pN : PM := fun _ s => .ok none s
def pS (m : EM) : PM := fun env st => bindR (m env st) fun v s => match v with | .int i => .ok (some i) s | _ => .bad
def mSlice (m : EM) (lo hi : PM) : EM := fun env st => bindR (m env st) fun v s => bindR (lo env s) fun l s1 => bindR (hi env s1) fun h s2 => match v with
  | .tup xs => .ok (.tup (cutL xs l h)) s2
  | .lst xs => .ok (.lst (cutL xs l h)) s2
  | _ => .bad
def tP (K : PySem.W.Frag) (mg : Str → Option Value) (tb : Tbs) (Wx : WX) (m : PM) : L2.St → Hp → (Option Int → Hp → Prop) → Prop := fun σ H Q => ∃ Mx W env st, Rel K tb Mx W σ H env st ∧ match m env st with
  | .ok v st' => ∀ W' H', Stp K tb Mx env σ W H W' H' st' → Q v H'
  | .exc x st' => ∀ W' H' cls d, Stp K tb Mx env σ W H W' H' st' → RX mg H' x cls d → Wx cls d σ H'
  | .bad => False
section
variable {X : Cx} {tb : Tbs} {Wx : WX} {e : Expr} {m : EM} {lo hi : Option Expr} {ml mh : PM} {pos p2 : Pos}
abbrev POk (X : Cx) (tb : Tbs) (Wx : WX) (e : Option Expr) (m : PM) : Prop := L2.PO X e (tP X.K X.mg tb Wx m)
theorem PO_mono {X : Cx} {e : Option Expr} {t t' : L2.St → Hp → (Option Int → Hp → Prop) → Prop} (h : L2.PO X e t) (i : ∀ σ H Q, t' σ H Q → t σ H Q) : L2.PO X e t' := ⟨fun pins s σ H Q I q => h.run pins s σ H Q I (i σ H Q q)⟩
theorem p_none : POk X tb Wx none pN := PO_mono po_none fun σ H Q ⟨Mx, W, env, st, rel, post⟩ => post W H (.refl rel)
theorem p_some (h : EOk X tb Wx .R e m) : POk X tb Wx (some e) (pS m) := PO_mono (po_some h) fun σ H Q ⟨Mx, W, env, st, rel, post⟩ => by
  refine ⟨Mx, W, env, st, rel, ?_⟩
  unfold pS at post
  cases q : m env st with
  | bad => rw [q] at post; exact post
  | exc x s => rw [q] at post; exact post
  | ok v s =>
    rw [q] at post
    intro W' H' w a rm
    cases v with
    | int i => cases (RV.int rm); exact ⟨i, rfl, post W' H' a⟩
    | _ => exact post.elim
theorem RFs.cut {K : PySem.W.Frag} {M : Addr → Prop} {W : List Addr} {H : Hp} {xs : List PV} {ws : List V} {l h : Option Int} (r : RFs K M W H xs ws) : RFs K M W H (cutL xs l h) (cutV ws l h) := by
  unfold cutL cutV
  rw [r.len]
  exact (r.drop _).take _
theorem cut_whole {α : Type} {xs : List α} {l h : Option Int} (e : HT.sIx xs.length 0 l = 0 ∧ HT.sIx xs.length xs.length h = xs.length) : cutL xs l h = xs := by
  unfold cutL
  rw [e.1, e.2]
  simp
theorem pbindE {K : PySem.W.Frag} {mg : Str → Option Value} {Mx : Addr → Prop} {W : List Addr} {σ : L2.St} {H : Hp} {env : MEnv} {st : Sto} {md : Md} {ma : PM} {f : Option Int → Sto → MRes PV} {Q : VK} {Q1 : Option Int → Hp → Prop} (rel : Rel K tb Mx W σ H env st) (post : EPost K mg tb Mx W σ H env Wx md (bindR (ma env st) f) Q)
    (k : ∀ v s W1 H1, Stp K tb Mx env σ W H W1 H1 s → EPost K mg tb Mx W1 σ H1 env Wx md (f v s) Q → Q1 v H1) : tP K mg tb Wx ma σ H Q1 := by
  refine ⟨Mx, W, env, st, rel, ?_⟩
  cases e : ma env st with
  | bad => rw [e] at post; exact post
  | exc x s => rw [e] at post; exact post
  | ok v s =>
    rw [e] at post
    exact fun W1 H1 a => k v s W1 H1 a (EPost.from a post)
theorem e_slice (he : EOk X tb Wx .R e m) (hl : POk X tb Wx lo ml) (hh : POk X tb Wx hi mh) : EOk X tb Wx .F (.Subscript e (.Slice lo hi none p2) pos) (mSlice m ml mh) :=
  PE_mono (pe_slice (SlR.or sl_list sl_tupA) he hl hh) fun σ H Q ⟨Mx, W, env, st, rel, post⟩ => by
    refine ebindE rel post fun v s W1 H1 w a1 r1 post => pbindE a1.rel post fun l s1 W2 H2 a2 post => pbindE a2.rel post fun h s2 W3 H3 a3 post => ?_
    have r1' := RV.stp a3 (RV.stp a2 r1)
    cases v with
    | lst xs =>
      obtain ⟨p, ws, rfl, h1, h2⟩ := r1'.lst
      exact .inl ⟨p, ws, rfl, h1, fun q hq => post W3 _ _ (.new a3.rel hq noTbl_lst) (rf_newL (fun p z => a3.rel.mtS z) hq h2.cut)⟩
    | tup xs =>
      obtain ⟨p, ws, rfl, h1, h2⟩ := r1'.tup
      refine .inr ⟨p, ws, rfl, h1, fun z => ?_, fun _ q hq => post W3 _ _ (.new a3.rel hq noTbl_tup) (rf_newT (fun p z => a3.rel.mtS z) hq h2.cut)⟩
      rw [h2.len] at z
      dsimp only at post
      rw [cut_whole z] at post
      rcases r1' with r1' | ⟨_, _, _, z', _⟩
      · exact post W3 H3 _ (.refl a3.rel) r1'
      · cases z'
    | _ => exact post.elim
end
def env0 (n : Nat) (args : List PV) : MEnv := args.map .pv ++ List.replicate (n - args.length) .un
def fnM (n : Nat) (body : SM) : FM := fun args st => match body (env0 n args) st with
  | .nx _ s => .ok .non s
  | .rt v s => .ok v s
  | .ex x s => .exc x s
  | _ => .bad
theorem rel0 {K : PySem.W.Frag} {tb : Tbs} {Mx : Addr → Prop} {W : List Addr} {H : Hp} {st : Sto} {N : List Str} {args : List PV} {vs : List V} (r : Rel K tb Mx W [] H [] st) (ra : RFs K (Mt Mx W [] []) W H args vs) :
    Rel K tb Mx W (L2.start N vs) H (env0 N.length args) st ∧ ∀ p, ¬ Om (env0 N.length args) (L2.start N vs) p := by
  have nom : ∀ p, ¬ Om (env0 N.length args) (L2.start N vs) p := fun p ⟨i, o, h1, _⟩ => by
    unfold env0 at h1
    by_cases hi : i < args.length
    · rw [List.getElem?_append_left (by simpa using hi), List.getElem?_map] at h1
      cases q : args[i]? with
      | none => rw [q] at h1; cases h1
      | some u => rw [q] at h1; cases h1
    · rw [List.getElem?_append_right (by simpa using hi)] at h1
      have := List.mem_of_getElem? h1
      rw [List.mem_replicate] at this
      cases this.2
  have g : Grow (Mt Mx W [] []) (Mt Mx W (env0 N.length args) (L2.start N vs)) W W H H := Grow.less fun b z => by
    rcases z with z | z | z
    · exact .inl z
    · exact .inr (.inl z)
    · exact absurd z (nom b)
  refine ⟨⟨r.tab, r.mx, r.nd, fun b h => ⟨(r.wo b h).1, nom b⟩, fun b h => absurd h (nom b), fun i j o o' p h1 h2 => absurd ⟨i, o, h1, h2⟩ (nom p), ?_, r.len, fun i q u h1 h2 => (r.sto i q u h1 h2).grow g (fun _ e _ => e), fun i v h => ?_, fun i o h => ?_⟩, nom⟩
  · unfold env0 L2.start
    simp [ra.len]
  · unfold env0 at h
    by_cases hi : i < args.length
    · rw [List.getElem?_append_left (by simpa using hi), List.getElem?_map] at h
      cases q : args[i]? with
      | none => rw [q] at h; cases h
      | some u =>
        rw [q] at h; cases h
        obtain ⟨w, e1, rf⟩ := ra.get q
        refine ⟨w, ?_, RF.grow g _ rf⟩
        unfold L2.start
        rw [List.getElem?_append_left (by rw [List.length_map, ra.len]; exact hi), List.getElem?_map, e1]
        rfl
    · rw [List.getElem?_append_right (by simpa using hi)] at h
      have := List.mem_of_getElem? h
      rw [List.mem_replicate] at this
      cases this.2
  · unfold env0 at h
    by_cases hi : i < args.length
    · rw [List.getElem?_append_left (by simpa using hi), List.getElem?_map] at h
      cases q : args[i]? with
      | none => rw [q] at h; cases h
      | some u => rw [q] at h; cases h
    · rw [List.getElem?_append_right (by simpa using hi)] at h
      have := List.mem_of_getElem? h
      rw [List.mem_replicate] at this
      cases this.2
theorem body_read {K : PySem.W.Frag} {mg : Str → Option Value} {tb : Tbs} {N : List Str} {n : Nat} {body : SM} {vs : List V} {H : Hp} {Q : VK} {E : XK} (h : spM K mg tb n (fnM N.length body) vs H Q E) :
    tS K mg tb (fun cls d _ H => E cls d H) body { nx := fun _ H' => Q .non H', rt := Q } (L2.start N vs) H := by
  obtain ⟨Mx, W, st, args, hl, r, ra, post⟩ := h
  obtain ⟨r0, nom⟩ := rel0 (N := N) r ra
  refine ⟨Mx, W, H, No, W, _, st, r0, KB.refl.less fun b z => absurd z (nom b), ?_⟩
  unfold fnM at post
  cases q : body (env0 N.length args) st with
  | nx e s => rw [q] at post; exact fun σ' W' H' r' k' => post W' H' .non r'.bare k'.none rf_non
  | rt v s => rw [q] at post; exact post
  | ex x s => rw [q] at post; exact fun σ' W' H' cls d r' k' rx => post W' H' cls d r' k' rx
  | bk e s => rw [q] at post; exact post.elim
  | ct e s => rw [q] at post; exact post.elim
  | bad => rw [q] at post; exact post
end Mp
end
section
set_option maxRecDepth 100000
set_option maxHeartbeats 1000000
namespace Mp
open PySem PySem.Spec PyProof.Rows L2
abbrev VM := MEnv → Sto → MRes (List EV)
def vNil : VM := fun _ st => .ok [] st
def vF (m : EM) (ms : VM) : VM := fun env st => bindR (m env st) fun v s => bindR (ms env s) fun vs s' => .ok (.pv v :: vs) s'
def vN (m : EM) (ms : VM) : VM := fun env st => bindR (m env st) fun v s => bindR (ms env s) fun vs s' => match v with | .lst xs => .ok (.own (.lst xs) :: vs) s' | _ => .bad
inductive VE (K : PySem.W.Frag) (M : Addr → Prop) (W : List Addr) (H : Hp) : List EV → List V → List Addr → Prop
  | nil : VE K M W H [] [] []
  | pv {v : PV} {w : V} {evs : List EV} {ws : List V} {P : List Addr} : RF K M W H v w → VE K M W H evs ws P → VE K M W H (.pv v :: evs) (w :: ws) P
  | own {o : PO} {p : Addr} {evs : List EV} {ws : List V} {P : List Addr} : RO K M W H o p → p ∉ P → VE K M W H evs ws P → VE K M W H (.own o :: evs) (.ref p :: ws) (p :: P)
structure VRel (K : PySem.W.Frag) (tb : Tbs) (Mx : Addr → Prop) (W : List Addr) (σ : L2.St) (H : Hp) (env : MEnv) (W' : List Addr) (H' : Hp) (st' : Sto) (evs : List EV) (ws : List V) (P : List Addr) : Prop where
  rel : Rel K tb (fun b => Mx b ∨ b ∈ P) W' σ H' env st'
  kp : ∀ b o, H b = some o → b ∉ W → NoTbl o → H' b = some o
  nt : ∀ b, H b ≠ none → H' b ≠ none
  pre : W <+: W'
  fr : ∀ b ∈ W', b ∈ W ∨ H b = none
  new : ∀ p ∈ P, H p = none ∧ ¬ Mx p
  ve : VE K (Mt (fun b => Mx b ∨ b ∈ P) W' env σ) W' H' evs ws P
def tV (K : PySem.W.Frag) (mg : Str → Option Value) (tb : Tbs) (Wx : WX) (m : VM) : TA := fun σ H Q => ∃ Mx W env st, Rel K tb Mx W σ H env st ∧ match m env st with
  | .ok evs st' => ∀ W' H' ws P, VRel K tb Mx W σ H env W' H' st' evs ws P → Q ws H'
  | .exc x st' => ∀ W' H' cls d, Stp K tb Mx env σ W H W' H' st' → RX mg H' x cls d → Wx cls d σ H'
  | .bad => False
abbrev VOk (X : Cx) (tb : Tbs) (Wx : WX) (es : List Expr) (m : VM) : Prop := PA X es (tV X.K X.mg tb Wx m)
section
variable {K : PySem.W.Frag} {M M' : Addr → Prop} {W W' : List Addr} {H H' : Hp}
theorem VE.grow {evs : List EV} {ws : List V} {P : List Addr} (g : Grow M M' W W' H H') (h : VE K M W H evs ws P) (e : ∀ p ∈ P, ∀ u, H p = some u → NoTbl u → H' p = some u) : VE K M' W' H' evs ws P := by
  induction h with
  | nil => exact .nil
  | pv r _ ih => exact .pv (RF.grow g _ r) (ih e)
  | own r n _ ih => exact .own (r.grow g (e _ List.mem_cons_self)) n (ih fun p hp => e p (List.mem_cons_of_mem _ hp))
end
section
variable {X : Cx} {tb : Tbs} {Wx : WX} {e : Expr} {es : List Expr} {m : EM} {ms : VM}
theorem v_nil : VOk X tb Wx [] vNil := PA_mono pa_nil fun σ H Q ⟨Mx, W, env, st, rel, post⟩ => post W H [] [] ⟨rel.less fun b z => z.elim id (fun z => by cases z), fun _ _ h _ _ => h, fun _ h => h, List.prefix_refl _, fun _ h => .inl h, fun p h => (by cases h), .nil⟩
theorem v_F (ha : EOk X tb Wx .F e m) (hr : VOk X tb Wx es ms) (hs : starEach (e :: es) X.env = (false, eval e X.env) :: starEach es X.env := by rfl) : VOk X tb Wx (e :: es) (vF m ms) :=
  PA_mono (pa_cons ha hr hs) fun σ H Q ⟨Mx, W, env, st, rel, post⟩ => by
    refine ⟨Mx, W, env, st, rel, ?_⟩
    unfold vF at post
    cases q : m env st with
    | bad => rw [q] at post; exact post
    | exc x s => rw [q] at post; exact post
    | ok v s =>
      rw [q] at post
      simp only [bindR] at post
      intro W1 H1 w1 a1 r1
      refine ⟨Mx, W1, env, s, a1.rel, ?_⟩
      cases q2 : ms env s with
      | bad => rw [q2] at post; exact post
      | exc x s' => rw [q2] at post; exact fun W' H' cls d a2 rx => post W' H' cls d (a1.trans a2) rx
      | ok evs s' =>
        rw [q2] at post
        intro W2 H2 ws P v2
        have r1' : RF X.K (Mt Mx W1 env σ) W1 H1 v w1 := r1
        have g : Grow (Mt Mx W1 env σ) (Mt (fun b => Mx b ∨ b ∈ P) W2 env σ) W1 W2 H1 H2 := ⟨fun b o h n t => v2.kp b o h (fun z => n (.inl z)) t, fun b h n z => by
          rcases z with z | (z | z) | z
          · rcases v2.fr b z with y | y
            · exact n (.inl y)
            · exact h y
          · exact n (.inr (.inl z))
          · exact h (v2.new b z).1
          · exact n (.inr (.inr z)), v2.pre⟩
        refine post W2 H2 (w1 :: ws) P ⟨v2.rel, fun b o h n t => v2.kp b o (a1.kp b o h n t) (fun z => (a1.fr b z).elim n fun y => by rw [h] at y; cases y) t, fun b h => v2.nt b (a1.nt b h), a1.pre.trans v2.pre, fun b h => ?_, fun p hp => ⟨?_, (v2.new p hp).2⟩, .pv (RF.grow g _ r1') v2.ve⟩
        · rcases v2.fr b h with z | z
          · exact a1.fr b z
          · right
            cases y : H b with
            | none => rfl
            | some u => exact absurd z (a1.nt b (by rw [y]; simp))
        · cases y : H p with
          | none => rfl
          | some u => exact absurd (v2.new p hp).1 (a1.nt p (by rw [y]; simp))
end
def setsE : List Nat → List EV → MEnv → MEnv
  | i :: is, v :: vs, env => setsE is vs (env.set i v)
  | _, _, env => env
def setsS : List Nat → List V → L2.St → L2.St
  | i :: is, v :: vs, σ => setsS is vs (σ.set i (some v))
  | _, _, σ => σ
theorem Rel.sets {K : PySem.W.Frag} {tb : Tbs} {Mx M : Addr → Prop} {W : List Addr} {H : Hp} {st : Sto} {evs : List EV} {ws : List V} {P : List Addr} (h : VE K M W H evs ws P) : ∀ (is : List Nat) {σ : L2.St} {env : MEnv}, is.length = evs.length → Rel K tb (fun b => Mx b ∨ b ∈ P) W σ H env st → (∀ p ∈ P, ¬ Mx p) →
    (∀ b, Mt (fun b => Mx b ∨ b ∈ P) W env σ b → M b) →
    Rel K tb Mx W (setsS is ws σ) H (setsE is evs env) st ∧ ∀ b, Om (setsE is evs env) (setsS is ws σ) b → Om env σ b ∨ b ∈ P := by
  induction h with
  | nil =>
    intro is σ env hl r _ _
    have e : is = [] := List.length_eq_zero_iff.mp hl
    subst e
    exact ⟨r.less fun b z => .inl z, fun b z => .inl z⟩
  | pv rf t ih =>
    intro is σ env hl r hn hM
    match is, hl with
    | i :: is, hl =>
      have r1 := r.setPv (i := i) (RF.grow (Grow.less hM) _ rf)
      obtain ⟨r2, o2⟩ := ih is (by simpa using hl) r1 hn (fun b z => hM b (by
        rcases z with z | z | z
        · exact .inl z
        · exact .inr (.inl z)
        · exact .inr (.inr z.setP)))
      exact ⟨r2, fun b z => (o2 b z).elim (fun y => .inl y.setP) .inr⟩
  | @own o p evs ws P ro np t ih =>
    intro is σ env hl r hn hM
    match is, hl with
    | i :: is, hl =>
      have eqM : ∀ b, (Mx b ∨ b ∈ p :: P) ↔ ((Mx b ∨ b ∈ P) ∨ b = p) := fun b => by simp [or_assoc, or_comm, or_left_comm]
      have ro' : RO K (Mt (fun b => (Mx b ∨ b ∈ P) ∨ b = p) W env σ) W H o p := ro.grow (Grow.less fun b z => hM b (by
        rcases z with z | z | z
        · exact .inl z
        · exact .inr (.inl ((eqM b).mpr z))
        · exact .inr (.inr z))) fun _ h _ => h
      have r1 : Rel K tb (fun b => Mx b ∨ b ∈ P) W (σ.set i (some (.ref p))) H (env.set i (.own o)) st := (r.less fun b z => (eqM b).mpr z).setOwn (fun z => z.elim (hn p List.mem_cons_self) np) ro'
      have om1 : ∀ b, Om (env.set i (.own o)) (σ.set i (some (.ref p))) b → Om env σ b ∨ b = p := fun b z => by
        rcases Om.set z with z | ⟨_, _, z, _⟩
        · exact .inl z
        · cases z; exact .inr rfl
      obtain ⟨r2, o2⟩ := ih is (by simpa using hl) r1 (fun q hq => hn q (List.mem_cons_of_mem _ hq)) (fun b z => hM b (by
        rcases z with z | z | z
        · exact .inl z
        · exact .inr (.inl ((eqM b).mpr (.inl z)))
        · rcases om1 b z with z | z
          · exact .inr (.inr z)
          · exact .inr (.inl ((eqM b).mpr (.inr z)))))
      refine ⟨r2, fun b z => ?_⟩
      rcases o2 b z with y | y
      · rcases om1 b y with y | y
        · exact .inl y
        · rw [y]; exact .inr List.mem_cons_self
      · exact .inr (List.mem_cons_of_mem _ y)
def sPar (is : List Nat) (m : VM) : SM := fun env st => bindF (m env st) fun evs s => if evs.length = is.length then .nx (setsE is evs env) s else .bad
section
variable {X : Cx} {tb : Tbs} {Wx : WX} {m : VM} {s1 : Stmt}
theorem VE.len {K : PySem.W.Frag} {M : Addr → Prop} {W : List Addr} {H : Hp} {evs : List EV} {ws : List V} {P : List Addr} (h : VE K M W H evs ws P) : ws.length = evs.length := by
  induction h with
  | nil => rfl
  | pv _ _ ih => simp [ih]
  | own _ _ _ ih => simp [ih]
theorem par_read {is : List Nat} {D : Ends} {σ : L2.St} {H : Hp} (h : tS X.K X.mg tb Wx (sPar is m) D σ H) : tV X.K X.mg tb Wx m σ H fun ws H1 => ws.length = is.length ∧ D.nx (setsS is ws σ) H1 := by
  obtain ⟨Mx, W0, H0, O0, W, env, st, rel, kb, post⟩ := h
  refine ⟨Mx, W, env, st, rel, ?_⟩
  unfold sPar at post
  cases q : m env st with
  | bad => rw [q] at post; exact post
  | exc x s => rw [q] at post; exact fun W1 H1 cls d a rx => post σ W1 H1 cls d a.rel.bare (kb.trans a.kb).none rx
  | ok evs s =>
    rw [q] at post
    intro W' H' ws P v
    simp only [bindF] at post
    split at post
    · rename_i hl
      have ev := v.ve.len
      obtain ⟨r2, o2⟩ := Rel.sets v.ve is hl.symm v.rel (fun p hp => (v.new p hp).2) (fun _ z => z)
      refine ⟨ev.trans hl, post _ W' H' r2 (kb.trans ⟨fun b o h n _ t => v.kp b o h n t, v.nt, v.pre, v.fr, fun b z => ?_⟩)⟩
      rcases o2 b z with y | y
      · exact .inl y
      · exact .inr (v.new b y).1
    · exact post.elim
theorem s_par2 {i j : Nat} (h : PS X s1 (tPar i j (tV X.K X.mg tb Wx m))) : SOk X tb Wx s1 (sPar [i, j] m) := PS_mono h fun D σ H hs => by
  obtain ⟨Mx, W, env, st, rel, post⟩ := par_read hs
  refine ⟨Mx, W, env, st, rel, ?_⟩
  cases q : m env st with
  | bad => rw [q] at post; exact post
  | exc x s => rw [q] at post; exact post
  | ok evs s =>
    rw [q] at post
    intro W' H' ws P v
    obtain ⟨h1, h2⟩ := post W' H' ws P v
    match ws, h1, h2 with
    | [a, b], _, h2 => exact ⟨a, b, rfl, h2⟩
theorem s_par3 {i j l : Nat} (h : PS X s1 (tPar3 i j l (tV X.K X.mg tb Wx m))) : SOk X tb Wx s1 (sPar [i, j, l] m) := PS_mono h fun D σ H hs => by
  obtain ⟨Mx, W, env, st, rel, post⟩ := par_read hs
  refine ⟨Mx, W, env, st, rel, ?_⟩
  cases q : m env st with
  | bad => rw [q] at post; exact post
  | exc x s => rw [q] at post; exact post
  | ok evs s =>
    rw [q] at post
    intro W' H' ws P v
    obtain ⟨h1, h2⟩ := post W' H' ws P v
    match ws, h1, h2 with
    | [a, b, c], _, h2 => exact ⟨a, b, c, rfl, h2⟩
end
end Mp
end
section
set_option maxRecDepth 100000
set_option maxHeartbeats 1000000
namespace Mp
open PySem PySem.Spec PyProof.Rows L2
structure GnOk (N : List Str) (sc scope : Scope) (own : List (Str × Nat)) : Prop where
  kind : scope.kind = .function
  co : scope.isCoroutine = false
  nocell : ∀ y ∈ scope.names, y.2 ≠ .cell
  dot : scope.names.lookup (".0" : Str) = some NameKind.local
  ix : ∀ p ∈ own, N[p.2]? = some p.1
  free : ∀ y ∈ scope.names, y.2 = .free → sc.names.lookup y.1 = some .cell ∨ sc.names.lookup y.1 = some .free
  own : ∀ y ∈ scope.names, y.2 = .local → y.1 ∈ own.map (·.1) ∨ y.1 ∉ N
abbrev gxOf (X : Cx) (s : Shared) (H : Hp) (cenv : Env) (fp : List Addr) : Cx :=
  { X with A := X.A.in1.in1.deeper cenv, s_0 := s, H_0 := H, env := cenv, outer := X.stack, stack := cenv :: X.stack, ex := fp, fn := fun _ => false, pn := [], xe := fun _ _ => False }
abbrev genE (X : Cx) (scope : Scope) (C : Addr) (code : Value) : Env := genEnv scope (cloFrom X.env.cells scope.names []) C code builtinsNs X.env
section
variable {X : Cx} {pins : List (Addr × Obj)} {σ : L2.St} {H : Hp} {s : Shared}
theorem gen_start {scope : Scope} {own : List (Str × Nat)} {fp : List Addr} (I : Inv X pins σ H s) (ok : GnOk X.N X.env.scope scope own) (hN : X.N.Nodup) (hfp : ∀ b ∈ fp, FpOk X pins H b ∧ b < s.heap.objs.size)
    {h' : Heap} {g' : Array GenState} {t' : Nat} {m : Str → Option Value} (hn : h'.Ns s.heap.objs.size m) (kp : ∀ b o, s.heap.get? b = some o → h'.get? b = some o) (hg : AllBare g') (code : Value) :
    Inv (gxOf X s H (genE X scope s.heap.objs.size code) fp) [] (wipe σ (own.map (·.2))) H { s with heap := h', gens := g', toks := t' } := by
  have hfree : ∀ y ∈ scope.names, y.2 = .free → ∃ c, X.env.cells.lookup y.1 = some c := fun y hy e => by
    rcases ok.free y hy e with k | k
    · exact I.ok.has _ (.inl k)
    · exact I.ok.has _ (.inr k)
  generalize hcenv : genE X scope s.heap.objs.size code = cenv
  have hL : cenv.locals = s.heap.objs.size := by rw [← hcenv]; rfl
  have hcl : cenv.cells = cloFrom X.env.cells scope.names [] := by rw [← hcenv]; rfl
  have hsc : cenv.scope = scope := by rw [← hcenv]; rfl
  have cm : ∀ {y c}, (y, c) ∈ cloFrom X.env.cells scope.names [] → X.env.cells.lookup y = some c ∧ c < s.heap.objs.size := fun {y c} hm => by
    rcases cloFrom_mem hm with hm | ⟨h1, rfl⟩
    · cases hm
    · obtain ⟨c, hc⟩ := hfree _ h1 rfl
      rw [hc]
      obtain ⟨w, z⟩ := I.cell _ _ hc
      exact ⟨rfl, z.lt⟩
  have mem : ∀ {y c}, cenv.cells.lookup y = some c → X.env.cells.lookup y = some c ∧ c < s.heap.objs.size := fun {y c} e => by
    rw [hcl] at e
    exact cm (PySem.mem_of_lookup e)
  have look : ∀ {y}, scope.names.lookup y = some .free → ∃ c, cenv.cells.lookup y = some c ∧ X.env.cells.lookup y = some c := fun {y} hl => by
    have hy : (y, NameKind.free) ∈ scope.names := PySem.mem_of_lookup hl
    obtain ⟨c', e'⟩ := mem_lookup (cloFrom_has (cells := X.env.cells) (acc := []) hy)
    rw [← hcl] at e'
    exact ⟨c', e', (mem e').1⟩
  have okB : (gxOf X s H cenv fp).Ok := by
    refine ⟨I.ok.mod, by show cenv.scope.kind = _; rw [hsc]; exact ok.kind, by show cenv.globals = _; rw [← hcenv]; exact I.ok.glob, by show cenv.builtins = _; rw [← hcenv]; rfl, by show s.heap.objs.size ≤ cenv.locals; rw [hL]; exact Nat.le_refl _,
      fun y z c e1 e2 => I.ok.inj y z c (mem e1).1 (mem e2).1, fun y hy => ?_, fun y c z e => (Bool.false_ne_true z).elim, I.ok.hd, Around.frames_deeper I.ok.frames, .inr ⟨rfl, ?_⟩, fun b hb => ⟨?_, fun y c e z => ?_⟩, I.bs, Nat.le_trans I.ok.bsz I.sz, fun b o e hb => ?_, fun b hb z => ?_, I.stack, I.stkFree⟩
    · show ∃ c, cenv.cells.lookup y = some c
      rcases hy with hy | hy
      · have hy : cenv.scope.names.lookup y = some .cell := hy
        rw [hsc] at hy
        exact absurd rfl (ok.nocell _ (PySem.mem_of_lookup hy))
      · have hy : cenv.scope.names.lookup y = some .free := hy
        rw [hsc] at hy
        obtain ⟨c, h1, _⟩ := look hy
        exact ⟨c, h1⟩
    · show cenv.frame = some cenv.locals
      rw [← hcenv]; rfl
    · show b ≠ cenv.locals
      rw [hL]; exact Nat.ne_of_lt (hfp b hb).2
    · exact (hfp b hb).1.2.2.2.2.1 y c (mem e).1 z
    · rcases (hfp b hb).1.2.2.2.1 with z | z
      · exact I.ok.noex b o e z
      · exact absurd (Nat.lt_of_lt_of_le (Heap.lt_size e) (Nat.le_trans I.ok.bsz z)) (Nat.lt_irrefl _)
    · rcases List.mem_cons.mp (I.stkSub b z) with z | z
      · exact (hfp b hb).1.2.1 z
      · exact (hfp b hb).1.2.2.1 z
  refine ⟨okB, rfl, hg, Un.kept kp, ⟨m, ?_, fun i y av e1 e2 e3 => ?_⟩, fun y c e => ?_, ?_, fun y c e => I.freeC y c (mem e).1, fun p hp => ?_, I.hok.kept kp, by rw [wipe_length]; exact I.len⟩
  · show Heap.Ns _ cenv.locals _
    rw [hL]
    exact hn
  · obtain ⟨e2, hne⟩ := wipe_some e2
    have hfr : scope.names.lookup y = some .free := by
      have e3 : Vis cenv.scope y := e3
      rw [hsc] at e3
      rcases e3 with e3 | e3 | e3
      · rcases ok.own _ (PySem.mem_of_lookup e3) rfl with e' | e'
        · obtain ⟨p, hp, hpy⟩ := List.mem_map.mp e'
          have e3 := ok.ix p hp
          have : p.1 = y := hpy
          rw [this] at e3
          exact absurd (List.mem_map.mpr ⟨p, hp, nodup_ix hN e3 e1⟩) hne
        · exact absurd (List.mem_of_getElem? e1) e'
      · exact absurd rfl (ok.nocell _ (PySem.mem_of_lookup e3))
      · exact e3
    obtain ⟨m, hn, hl⟩ := I.loc
    have hvis : Vis X.env.scope y := (ok.free _ (PySem.mem_of_lookup hfr) rfl).elim (fun k => .inr (.inl k)) (fun k => .inr (.inr k))
    obtain ⟨w, r, q⟩ := hl i y av e1 e2 hvis
    have hk : cenv.kindOf y = some .free := by show cenv.scope.names.lookup y = _; rw [hsc]; exact hfr
    refine ⟨w, r, .inr ⟨.inr hk, ?_⟩⟩
    obtain ⟨c, h1, h2⟩ := look hfr
    rcases q with ⟨k, _⟩ | ⟨_, c', e', z⟩
    · have k : X.env.scope.names.lookup y = some .local := k
      rcases ok.free _ (PySem.mem_of_lookup hfr) rfl with k' | k' <;> rw [show X.env.scope.names.lookup y = _ from k'] at k <;> cases k
    · rw [h2] at e'; cases e'
      exact ⟨c, h1, z.keeps kp⟩
  · obtain ⟨w, z⟩ := I.cell y c (mem e).1
    exact ⟨w, z.keeps kp⟩
  · show H cenv.locals = none
    rw [hL]; exact I.hok.fresh (Nat.le_refl _)
  · exact absurd (show p ∈ ([] : List (Addr × Obj)) ++ [] from hp) (by simp)
theorem over_compL {A : Around} {e : Expr} {it acc : Value} {env : Env} {elt : Expr} {gs : List Comprehension} {sc : Scope} {pos : Pos} (he : e = .GeneratorExp elt gs sc pos) : A.over (.compLoop e 0 it acc env) [] = A.deeper env := by
  subst he
  first
    | rfl
    | (obtain ⟨hd, d, fr, gs, u⟩ := A; simp [Around.over, Around.deeper, marksOver, frameCount, unitsOf, envsOf, guardsOf, pushEnvs, pushGuards, Code.envs, Code.env?, Code.isFrame, Code.guards, Code.isGuard, Code.weight, Code.frames, Code.isCreation, Code.isCaller, Code.cUnits])
theorem inv_gens {g' : Array GenState} {t' : Nat} (I : Inv X pins σ H s) (hg : AllBare g') : Inv X pins σ H { s with gens := g', toks := t' } :=
  ⟨I.ok, I.os, hg, I.base, I.loc, I.cell, I.free, I.freeC, I.pin, I.hok, I.len⟩
def GCourse (J : It) (g : TG) (tt : TT) (te : TE) (vs : List Nat) (σ : L2.St) (sp : Nat → Bool) (Yd : Nat → V → Hp → Prop) (Fin : Hp → Prop) (W : Nat → Nat → Nat → Hp → Prop) : Prop :=
  ∀ i r m H, W i r m H → (J.stop i H ∧ r = 0 ∧ Fin H) ∨ (J.go i H ∧ ∃ Nx : Nat → Hp → Prop, (∀ r' H', Nx r' H' → ∃ m', m' < m ∧ W (i + 1) r' m' H') ∧
    ∀ x H', J.yld i H x H' → g x (wipe σ vs) H' fun σ2 H2 => wipe σ2 vs = wipe σ vs ∧ tt σ2 H2 fun b H3 =>
      if b = true then te σ2 H3 fun y H4 => ∃ r', r = r' + 1 ∧ Yd r' y H4 ∧ (sp r' = false → Nx r' H4) else Nx r H3)
def GYd (Y : Cx) (L : Nat) (Pn : Nat → List (Addr × Obj) → Prop) (sp : Nat → Bool) (Yd : Nat → V → Hp → Prop) : Protocol := fun n s₀ v s kap =>
  ∃ k y H' σ' pk ip, n = k + 1 ∧ Pn (k + 1) pk ∧ (∀ p ∈ ip, p.1 < L) ∧ RelV y v ∧ Inv Y (pk ++ ip) σ' H' s ∧ Yd k y H' ∧ (sp k = false → ∀ pk' s'', Pn k pk' → Inv Y (pk' ++ ip) σ' H' s'' → kap (.send .none) s'')
def GFin (Y : Cx) (Pn : Nat → List (Addr × Obj) → Prop) (Fin : Hp → Prop) : Nat → Shared → Shared → Prop := fun n _ s => n = 1 ∧ ∃ H' σ' pk, Pn 0 pk ∧ Inv Y pk σ' H' s ∧ Fin H'
section
variable {X : Cx} {s0 : Shared} {H0 : Hp} {scope : Scope} {C : Addr} {code : Value} {fp : List Addr} {elt tg iter : Expr} {ifs : List Expr} {pos : Pos} {it : Addr} {tn : Nat → Heap → Prop} {J : It} {g : TG} {tt : TT} {te : TE} {vs : List Nat} {σ : L2.St}
  {Pn : Nat → List (Addr × Obj) → Prop} {sp : Nat → Bool} {Yd : Nat → V → Hp → Prop} {Fin : Hp → Prop} {W : Nat → Nat → Nat → Hp → Prop} {cenv : Env}
theorem gseg_loop (hce : cenv.scope.isCoroutine = false) (hc : X.calm = true) (T : Turn X.prog X.w X.K tg J fp it tn) (hPn : ∀ r pk, Pn r pk → ∀ p ∈ pk, p.1 ∉ fp) (hfL : ∀ b ∈ fp, b < s0.heap.objs.size)
    (pg : PG (gxOf X s0 H0 cenv fp) tg g) (pt : PTs (gxOf X s0 H0 cenv fp) ifs tt) (pe : PE (gxOf X s0 H0 cenv fp) elt te) (hW : GCourse J g tt te vs σ sp Yd Fin W) :
    ∀ (m r i : Nat) (s₀ s : Shared) (H' : Hp) (pk : List (Addr × Obj)), Pn r pk → Inv (gxOf X s0 H0 cenv fp) pk (wipe σ vs) H' s → tn i s.heap → (∀ b ∈ fp, H' b = none) → W i r m H' →
      Seg (model X.prog X.w) X.A.in1.in1 (fun n s₀ r s₁ => r = .ok .next ∧ GFin (gxOf X s0 H0 cenv fp) Pn Fin n s₀ s₁) (GYd (gxOf X s0 H0 cenv fp) s0.heap.objs.size Pn sp Yd) (r + 1) s₀
        (.compLoop (.GeneratorExp elt [⟨tg, iter, ifs, 0⟩] scope pos) 0 (.ref it) .none cenv) ((model X.prog X.w).den (.compLoop (.GeneratorExp elt [⟨tg, iter, ifs, 0⟩] scope pos) 0 (.ref it) .none cenv)) [] s := by
  intro m
  induction m using Nat.strongRecOn with
  | ind m ih =>
  intro r i s₀ s H' pk hpk I5 st5 n5 w5
  have ov : X.A.in1.in1.over (.compLoop (.GeneratorExp elt [⟨tg, iter, ifs, 0⟩] scope pos) 0 (.ref it) .none cenv) [] = X.A.in1.in1.deeper cenv := over_compL rfl
  have stat : ∀ {σ' : L2.St} {H' : Hp} {s' : Shared}, Inv (gxOf X s0 H0 cenv fp) pk σ' H' s' → (∀ b ∈ fp, H' b = none) → ∀ b ∈ fp, FpOk (gxOf X s0 H0 cenv fp) pk H' b := fun {σ' H' s'} I' hn b hb =>
    ⟨hn b hb, (I'.ok.exf b hb).1, I'.ok.exfs b hb, .inl hb, fun x c e => (I'.ok.exf b hb).2 x c e, fun p hp z => hPn r pk hpk p (show p ∈ pk from hp) (z ▸ hb)⟩
  show Seg _ _ _ _ _ s₀ _ ((compTurn (.GeneratorExp elt [⟨tg, iter, ifs, 0⟩] scope pos) 0 (.ref it) .none cenv).onRaise (leaving cenv)) [] s
  rw [compTurn_gen, Sem.onRaise_eq_wrap]
  refine seg_bind_wrap (wpAny_standAt ?_)
  rcases hW i r m H' w5 with ⟨stop, hr, fin⟩ | ⟨go, Nx, hNx, step⟩
  · have td := T.done (gxOf X s0 H0 cenv fp) rfl rfl rfl hc i pk s _ H' (fun _ _ => False) I5 (stat I5 n5) st5 stop
    refine seg_bind_wrap ?_
    rw [ov]
    refine thnF td fun u s6 ⟨hu, I6⟩ => ?_
    subst hu
    exact seg_end (.ok .next) ⟨rfl, by rw [hr], H', _, pk, hr ▸ hpk, I6, fin⟩
  · have ti := T.item (gxOf X s0 H0 cenv fp) rfl rfl rfl hc i pk s _ H' (fun _ _ => False) I5 (stat I5 n5) st5 go
    refine seg_bind_wrap ?_
    rw [ov]
    refine thnF ti fun u s6 ⟨v, hu, h6⟩ => ?_
    subst hu
    refine seg_bind_wrap ?_
    rw [ov]
    refine thnF h6 fun _ s7 ⟨x, H7, I7, r7, y7, st7, n7⟩ => ?_
    have I7' := I7.pinned (stat I7 n7) (T.obj _ _ st7)
    refine seg_bind_wrap ?_
    rw [ov]
    refine thnF (pg.run _ s7 _ H7 x v _ I7' r7 (step x H7 y7)) fun _ s8 ⟨σ8, H8, I8, hw8, q8⟩ => ?_
    refine seg_bind_wrap ?_
    rw [ov]
    refine thnF (pt.run _ s8 σ8 H8 _ I8 q8) fun b s9 ⟨H9, I9, q9⟩ => ?_
    have fin : ∀ {s' s₀' : Shared} {H' : Hp} {r' : Nat} {pk' : List (Addr × Obj)}, Pn r' pk' → Inv (gxOf X s0 H0 cenv fp) (pk' ++ pinsAt fp s7.heap) σ8 H' s' → Nx r' H' →
        Seg (model X.prog X.w) X.A.in1.in1 (fun n s₀ r s₁ => r = .ok .next ∧ GFin (gxOf X s0 H0 cenv fp) Pn Fin n s₀ s₁) (GYd (gxOf X s0 H0 cenv fp) s0.heap.objs.size Pn sp Yd) (r' + 1) s₀'
        (.compLoop (.GeneratorExp elt [⟨tg, iter, ifs, 0⟩] scope pos) 0 (.ref it) .none cenv) ((model X.prog X.w).den (.compLoop (.GeneratorExp elt [⟨tg, iter, ifs, 0⟩] scope pos) 0 (.ref it) .none cenv)) [] s' := fun {s' s₀' H' r' pk'} hpk' I' nx => by
      obtain ⟨m', hm, w'⟩ := hNx r' H' nx
      have pin' : ∀ b ∈ fp, ∀ o, s7.heap.get? b = some o → s'.heap.get? b = some o ∧ H' b = none := fun b hb o e =>
        let z := I'.pin (b, o) (List.mem_append_right _ (List.mem_append_right _ (mem_pinsAt hb e)))
        ⟨z.1, z.2.1⟩
      have hl : (wipe σ vs).length = σ8.length := by rw [← hw8, wipe_length]
      refine ih m' hm r' (i + 1) s₀' s' H' pk' hpk' ((I'.unpinned (pins := pk')).weak hl (fun j v e => ?_)) (T.keep _ _ _ st7 fun b hb o e => (pin' b hb o e).1) (fun b hb => ?_) w'
      · rw [← hw8] at e
        exact (wipe_some e).1
      · obtain ⟨o, e, _⟩ := T.obj _ _ st7 b hb
        exact (pin' b hb o e).2
    cases b with
    | false =>
      simp only [Bool.false_eq_true, if_false] at q9 ⊢
      exact seg_again rfl (fin hpk I9 q9)
    | true =>
      simp only [if_true] at q9 ⊢
      have hy : ∀ v, yieldOut cenv v = yieldValue v := fun v => by simp only [yieldOut, hce, Bool.false_eq_true, if_false]
      simp only [hy]
      rw [Sem.bind_eq_wrap', Sem.bind_eq_wrap', Sem.wrap_wrap, Sem.wrap_wrap]
      refine seg_wrap ?_
      rw [ov]
      refine thnF (pe.run _ s9 σ8 H9 _ I9 q9) fun z s10 ⟨yv, H10, I10, r10, r', hr, yd, nx⟩ => ?_
      subst hr
      refine seg_at (seg_yield rfl rfl rfl ⟨r', yv, H10, σ8, pk, pinsAt fp s7.heap, rfl, hpk, fun p hp => hfL _ (of_pinsAt hp).1, r10, I10, yd, fun hsp pk' s'' hpk' I'' => ?_⟩)
      exact seg_again rfl (fin hpk' I'' (nx hsp))
theorem gseg_start (hce : cenv.scope.isCoroutine = false) (hc : X.calm = true) (T : Turn X.prog X.w X.K tg J fp it tn) (hPn : ∀ r pk, Pn r pk → ∀ p ∈ pk, p.1 ∉ fp) (hfL : ∀ b ∈ fp, b < s0.heap.objs.size)
    (pg : PG (gxOf X s0 H0 cenv fp) tg g) (pt : PTs (gxOf X s0 H0 cenv fp) ifs tt) (pe : PE (gxOf X s0 H0 cenv fp) elt te) (hW : GCourse J g tt te vs σ sp Yd Fin W)
    (m r i : Nat) (s₀ s : Shared) (H' : Hp) (pk : List (Addr × Obj)) (hpk : Pn r pk) (I5 : Inv (gxOf X s0 H0 cenv fp) pk (wipe σ vs) H' s) (st5 : tn i s.heap) (n5 : ∀ b ∈ fp, H' b = none) (w5 : W i r m H') :
      Seg (model X.prog X.w) X.A.in1.in1 (fun n s₀ r s₁ => r = .ok .next ∧ GFin (gxOf X s0 H0 cenv fp) Pn Fin n s₀ s₁) (GYd (gxOf X s0 H0 cenv fp) s0.heap.objs.size Pn sp Yd) (r + 1) s₀
        (.compStart (.GeneratorExp elt [⟨tg, iter, ifs, 0⟩] scope pos) 0 (.ref it) .none cenv) ((model X.prog X.w).den (.compStart (.GeneratorExp elt [⟨tg, iter, ifs, 0⟩] scope pos) 0 (.ref it) .none cenv)) [] s := by
  have loop := gseg_loop (iter := iter) (scope := scope) (pos := pos) hce hc T hPn hfL pg pt pe hW m r i s₀ s H' pk hpk I5 st5 n5 w5
  show Seg _ _ _ _ _ s₀ _ ((compStart (.GeneratorExp elt [⟨tg, iter, ifs, 0⟩] scope pos) 0 (.ref it) .none cenv).onRaise (leaving cenv)) [] s
  unfold compStart
  rw [Sem.onRaise_eq_wrap]
  show Seg _ _ _ _ _ s₀ _ ((ask >>= _).wrap _ _ _ _) [] s
  refine seg_bind_wrap (wpAny_askSetting ?_)
  split
  · exact seg_again rfl loop
  · first
      | exact seg_bind_wrap (wpAny_rule (seg_bind_wrap (wpAny_standAt (seg_bind_wrap (T.self _ i s _ _ st5 (seg_again rfl loop))))))
      | (refine seg_bind_wrap (wpAny_rule ?_); show Seg _ _ _ _ _ s₀ _ ((standAt iter.pos >>= _).wrap _ _ _ _) [] s; exact seg_bind_wrap (wpAny_standAt (seg_bind_wrap (T.self _ i s _ _ st5 (seg_again rfl loop)))))
end
end
end Mp
end
section
set_option maxRecDepth 100000
set_option maxHeartbeats 1000000
namespace Mp
open PySem PySem.Spec PyProof.Rows L2 GenW
section
variable {X Y : Cx} {L a : Nat} {gi : Nat} {Pn : Nat → List (Addr × Obj) → Prop} {sp : Nat → Bool} {Yd : Nat → V → Hp → Prop} {Fin : Hp → Prop} {r : Nat} {s : Shared}
abbrev GGo (X Y : Cx) (L : Nat) (Pn : Nat → List (Addr × Obj) → Prop) (sp : Nat → Bool) (Yd : Nat → V → Hp → Prop) (Fin : Hp → Prop) (gs : GenState) (r : Nat) (s : Shared) : Prop :=
  gs.Goes (model X.prog X.w) X.A.in1.in1 (fun n s₀ r s₁ => r = .ok .next ∧ GFin Y Pn Fin n s₀ s₁) (GYd Y L Pn sp Yd) (r + 1) (.send .none) s
def GAt (X Y : Cx) (L gi : Nat) (Pn : Nat → List (Addr × Obj) → Prop) (sp : Nat → Bool) (Yd : Nat → V → Hp → Prop) (Fin : Hp → Prop) (r : Nat) (s : Shared) : Prop :=
  ∃ gs pk ip σ' H', s.gens[gi]? = some gs ∧ Pn r pk ∧ (∀ p ∈ ip, p.1 < L) ∧ Inv Y (pk ++ ip) σ' H' s ∧ ∀ pk' s', Pn r pk' → Inv Y (pk' ++ ip) σ' H' s' → GGo X Y L Pn sp Yd Fin gs r s'
theorem inv_setGen {pins : List (Addr × Obj)} {σ : L2.St} {H : Hp} {x : GenState} (I : Inv Y pins σ H s) (hx : x.bare = true) : Inv Y pins σ H (s.setGen gi x) :=
  inv_gens (t' := s.toks) I (allBare_setGen I.bare hx)
theorem gnext {Q : Option Value → Shared → Prop} {E : Value → Shared → Prop} (hh : X.A.handled = none) (hroom : X.A.depth < recursionLimit)
    (hga : ∀ r pk, Pn r pk → ∃ o, (a, o) ∈ pk ∧ ∀ h : Heap, h.get? a = some o → h.IsGen a gi) (h : GAt X Y L gi Pn sp Yd Fin r s)
    (hY : ∀ n v s1 y H' σ' pk ip, r = n + 1 → Pn r pk → (∀ p ∈ ip, p.1 < L) → RelV y v → Inv Y (pk ++ ip) σ' H' s1 → Yd n y H' →
      (sp n = false → ∀ pk' h' t', Pn n pk' → Inv Y (pk' ++ ip) σ' H' { s1 with heap := h', toks := t' } → GAt X Y L gi Pn sp Yd Fin n { s1 with heap := h', toks := t' }) → Q (some v) s1)
    (hP : r = 0 → ∀ s1 H' σ' pk, Pn 0 pk → Inv Y pk σ' H' s1 → Fin H' → Q none s1) : wpAny (model X.prog X.w) X.A.in1 (pyNext (.ref a)) Q E s := by
  obtain ⟨gs, pk, ip, σ', H', hgs, hpk, hip, I, hgo⟩ := h
  obtain ⟨o, ho, hog⟩ := hga r pk hpk
  have hpin := I.pin (a, o) (List.mem_append_right _ (List.mem_append_left _ ho))
  have hgl : gi < s.gens.size := (Array.getElem?_eq_some_iff.mp hgs).1
  refine wpAny_gsz (n := gi + 1) hgl ?_
  refine wpAny_pyNext_genexpQ (A := X.A.in1) (n := r + 1) (P := GFin Y Pn Fin) (Y := GYd Y L Pn sp Yd) hh I.nolimit hroom (hog _ hpin.1) hgs (hgo pk _ hpk (inv_setGen I rfl)) (fun v s₁ gs' hb hv => ?_) (fun s₁ hp h' hk => ?_)
  · intro hsz
    have hsz1 : gi < s₁.gens.size := by
      have q : (s₁.setGen gi gs').gens.size = s₁.gens.size := setGen_size _ _ _
      have hsz' : gi + 1 ≤ (s₁.setGen gi gs').gens.size := hsz
      omega
    obtain ⟨n, y, H1, σ1, pk1, ip1, hr, hpk1, hip1, rv, I1, yd, kap⟩ := hv
    have hr' : r = n + 1 := hr
    subst hr'
    refine hY n v _ y H1 σ1 pk1 ip1 rfl hpk1 hip1 rv (inv_setGen I1 hb) yd fun hsp pk' h' t' hpk' I' => ?_
    exact ⟨gs', pk', ip1, σ1, H1, setGen_at hsz1, hpk', hip1, I', fun pk2 s2 hpk2 I2 => kap hsp pk2 s2 hpk2 I2⟩
  · intro _
    obtain ⟨hr, H1, σ1, pk1, hpk1, I1, fin⟩ := hp
    have J := (inv_setGen (gi := gi) (x := .finished) I1 rfl).kept (h' := h') (t' := s₁.toks) hk
    exact hP (by omega) _ H1 σ1 pk1 hpk1 J fin
theorem all_loop {R : Result → Shared → Prop} (hh : X.A.handled = none) (hroom : X.A.depth < recursionLimit)
    (hga : ∀ r pk, Pn r pk → ∃ o, (a, o) ∈ pk ∧ ∀ h : Heap, h.get? a = some o → h.IsGen a gi) (hpn : ∀ r r' pk, Pn r pk → Pn r' pk) (hb : ∀ n y H, Yd n y H → y = .bl (!sp n))
    (hT : ∀ n y s' H' σ' pins, Inv Y pins σ' H' s' → Yd n y H' → sp n = true → R (.ok (.ret (.bool false))) s') (hF : ∀ s' H' σ' pins, Inv Y pins σ' H' s' → Fin H' → R (.ok (.ret (.bool true))) s') :
    ∀ (r : Nat) (s : Shared), GAt X Y L gi Pn sp Yd Fin r s → codeAny (model X.prog X.w) X.A (.builtin "all.loop" ⟨[.ref a], []⟩) R s := by
  intro r
  induction r with
  | zero =>
    intro s h
    refine codeAny_builtin F.entry_all_loop ?_
    rw [Around.under_plainId F.plain_all_loop _]
    show wpAny _ X.A.in1 (pyNext (.ref a) >>= _) _ _ s
    refine wpAny_bind (gnext hh hroom hga h (fun n v s1 y H' σ' pk ip hr hpk hip rv I yd go => by omega) fun _ s1 H' σ' pk hpk I fin => ?_)
    exact wpAny_bind (wpAny_rule (wpAny_pure (hF s1 H' σ' pk I fin)))
  | succ k ih =>
    intro s h
    refine codeAny_builtin F.entry_all_loop ?_
    rw [Around.under_plainId F.plain_all_loop _]
    show wpAny _ X.A.in1 (pyNext (.ref a) >>= _) _ _ s
    refine wpAny_bind (gnext hh hroom hga h (fun n v s1 y H' σ' pk ip hr hpk hip rv I yd go => ?_) fun hr => by omega)
    have hn : k = n := by omega
    subst hn
    have e := hb k y H' yd
    subst e
    have rv : v = .bool (!sp k) := rv
    subst rv
    refine wpAny_bind (wpAny_holding (wpAny_truthy_bool ?_))
    refine wpAny_bind (wpAny_letGo ?_)
    cases q : sp k with
    | true =>
      simp only [Bool.not_true, Bool.false_eq_true, if_false]
      exact wpAny_bind (wpAny_rule (wpAny_pure (hT k _ s1 H' σ' _ I yd q)))
    | false =>
      simp only [Bool.not_false, if_true]
      exact wpAny_pure ⟨plainId_quiet F.plain_all_loop _, ih _ (go q pk s1.heap s1.toks (hpn _ _ _ hpk) I)⟩
end
end Mp
end
section
set_option maxRecDepth 100000
set_option maxHeartbeats 1000000
namespace Mp
open PySem PySem.Spec PyProof.Rows L2 GenW GxR
structure GM (X : Cx) (pins : List (Addr × Obj)) (σ : L2.St) (vs : List Nat) (scope : Scope) (elt tg iter : Expr) (ifs : List Expr) (pos : Pos) (J : It) (H2 : Hp) (s4 : Shared) (code : Value) (fp : List Addr) (it : Addr) (tn : Nat → Heap → Prop) (a gi : Nat) (o : Obj) (s5 : Shared) : Prop where
  inv : Inv X pins σ H2 s4
  turn : Turn X.prog X.w X.K tg J fp it tn
  fpo : ∀ b ∈ fp, FpOk X pins H2 b ∧ b < s4.heap.objs.size
  st : tn 0 s5.heap
  invG : Inv (gxOf X s4 H2 (genE X scope s4.heap.objs.size code) fp) [] (wipe σ vs) H2 s5
  obj : s5.heap.get? a = some o
  isG : ∀ h : Heap, h.get? a = some o → h.IsGen a gi
  above : s4.heap.objs.size < a
  cel : ∀ v, o.data ≠ .cell v
  gen : s5.gens[gi]? = some (.fresh (.compStart (.GeneratorExp elt [⟨tg, iter, ifs, 0⟩] scope pos) 0 (.ref it) .none (genE X scope s4.heap.objs.size code)))
section
variable {X : Cx} {pins : List (Addr × Obj)} {σ : L2.St} {H : Hp} {s : Shared}
theorem gen_make {c P : Addr} {elt tg iter : Expr} {ifs : List Expr} {gpos : Pos} {scope : Scope} {own : List (Str × Nat)} {wi : TI} {Q' : Value → Shared → Prop} {R : It → Hp → Prop}
    (hh : X.calm = true) (hroom : X.A.depth < recursionLimit) (TB : TabB X.base X.mg c P) (hcode : X.env.code = .ref c) (S : GnOk X.N X.env.scope scope own) (hN : X.N.Nodup) (hi : PI X tg iter wi)
    (hs : ∀ v, genFold iter X.env v = pure v) (I : Inv X pins σ H s) (h : wi σ H fun J H1 => TabG H1 P ∧ R J H1)
    (hQ : ∀ J H1 H2 s4 code fp it tn a gi o s5, R J H1 → Tabbed P H1 H2 → GM X pins σ (own.map (·.2)) scope elt tg iter ifs gpos J H2 s4 code fp it tn a gi o s5 → Q' (.ref a) s5) :
    wpAny (model X.prog X.w) X.A (eval (.GeneratorExp elt [⟨tg, iter, ifs, 0⟩] scope gpos) X.env) Q' X.xe s := by
  have hfree : ∀ y ∈ scope.names, y.2 = .free → ∃ c, X.env.cells.lookup y.1 = some c := fun y hy e => by
    rcases S.free y hy e with k | k
    · exact I.ok.has _ (.inl k)
    · exact I.ok.has _ (.inr k)
  refine wpAny_GeneratorExp_make S.co (closure_ok hfree) S.nocell S.dot S.kind hroom ?_ hs
  refine thn (hi.run pins s σ H _ I h) fun xv s1 hx => thn hx fun itv s2 h2 => ?_
  obtain ⟨it, fp, tn, J, H1, e, I1, T, st1, f1, ⟨ps, hP, ht⟩, hR⟩ := h2
  subst e
  have hPs : s2.heap.get? P = some { cls := .none, data := .fields ps } := I1.hok P _ hP
  have cd : PySem.W.CodeHd s2.heap c P := TB.code.keeps I1.bk
  have nP : ∀ b ∈ fp, b ≠ P := fun b hb z => by
    have := (f1 b hb).1
    rw [z, hP] at this; cases this
  refine ⟨I1.nolimit, ?_⟩
  have cont : ∀ (code : Value) (h3 : Heap) (tk : Nat) (ps' : Array Value), Heap.ExtBut P s2.heap h3 → s2.heap.objs.size ≤ h3.objs.size → h3.get? P = some { cls := .none, data := .fields ps' } → (∃ more, ps' = ps ++ more) → TriplesOk ps'.toList →
      wpAny (model X.prog X.w) X.A (builtinsFor X.env.globals X.env.builtins) (fun bi s₄ =>
        ∀ h', h'.Ns s₄.heap.objs.size (fun y => if y = ".0" then some (.ref it) else none) → Heap.SameBut s₄.heap.objs.size (s₄.heap.push { cls := .type "frame", data := .dict #[] }) h' →
          Q' (.ref h'.objs.size) { s₄ with
            gens := s₄.gens.push (.fresh (.compStart (.GeneratorExp elt [⟨tg, iter, ifs, 0⟩] scope gpos) 0 (.ref it) .none (genEnv scope (cloFrom X.env.cells scope.names []) s₄.heap.objs.size code bi X.env))),
            toks := s₄.toks + 1 + 1 + 1,
            heap := h'.push { cls := .type "generator", data := .fields #[.int s₄.gens.size 0, .str "<genexpr>" (s₄.toks + 1), .str (X.env.qual ++ "<genexpr>") (s₄.toks + 1 + 1)] } }) X.xe { s2 with heap := h3, toks := tk } := by
    intro code h3 tk ps' hx hsz hP3 ⟨more, em⟩ ht3
    obtain ⟨bm, ob, e1, e2, e3, e4, e5, e6, e7, e8⟩ := TB.bm
    refine wpAny_builtinsFor (m := X.mg) (by rw [I1.ok.glob]; exact (I1.mod.glob.keeps I1.bk).extBut hx TB.gP) e1 e2 (hx _ _ e4 (I1.bk _ _ e5)) e6 e7 e8 ?_
    intro h' hn' hs'
    have I4 : Inv X pins σ (upd H1 P (.tbl (ps ++ more))) { s2 with heap := h3, toks := tk } :=
      inv_tab (more := more) (h' := h3) (g' := s2.gens) (d' := s2.drawn) (t' := tk) I1 hP (fun b u hb e => hx b u hb e) (by rw [← em]; exact hP3) I1.bare
    have hsz' : h'.objs.size = h3.objs.size + 1 := by rw [hs'.1, Heap.size_push]
    have keep' : ∀ b o, h3.get? b = some o → h'.get? b = some o := fun b o e => hs'.extBut b o (Nat.ne_of_lt (Heap.lt_size e)) (Heap.get?_push_of_some _ e)
    have fpo : ∀ b ∈ fp, FpOk X pins (upd H1 P (.tbl (ps ++ more))) b ∧ b < h3.objs.size := fun b hb => by
      obtain ⟨ob, eb, _⟩ := T.obj _ _ st1 b hb
      refine ⟨⟨?_, (f1 b hb).2⟩, Nat.lt_of_lt_of_le (Heap.lt_size eb) hsz⟩
      rw [upd_ne (nP b hb)]; exact (f1 b hb).1
    refine hQ J H1 _ _ code fp it tn _ s2.gens.size _ _ hR ⟨⟨ps ++ more, upd_same, by rw [← em]; exact ht3⟩, fun b hb => upd_ne hb⟩ ⟨I4, T, fpo, ?_, ?_, Heap.get?_push_size _ rfl, fun h eh => ⟨_, _, _, eh, rfl, rfl, rfl⟩, ?_, (fun v q => by cases q), Array.getElem?_push_size ..⟩
    · refine T.keep _ _ _ st1 fun b hb o e => ?_
      exact Heap.get?_push_of_some _ (keep' b o (hx b o (nP b hb) e))
    · refine gen_start (s := { s2 with heap := h3, toks := tk }) (fp := fp) I4 S hN fpo (m := fun y => if y = ".0" then some (.ref it) else none) (hn'.push _) (fun b o e => Heap.get?_push_of_some _ (keep' b o e)) (I1.bare.push rfl) code
    · show h3.objs.size < h'.objs.size
      omega
  cases hf : codeAmong gpos ps.toList with
  | none =>
    refine wpAny_genexprCodeX hcode (cd.code hPs ht) (cd.tab hPs) hf fun c' h' tk hx hge hlt hco' _ htab' _ => ?_
    obtain ⟨o1, vs, f1, tf, fl, tg, inF, tx, tt, op, _, _, _, _, _, _, _, _, _, htr, _⟩ := hco'
    exact cont _ h' tk _ hx (Nat.le_trans hge (Nat.le_of_lt hlt)) htab'.2 ⟨_, rfl⟩ htr
  | some cv =>
    refine wpAny_genexprCode_hit hcode (cd.code hPs ht) hf ?_
    exact cont cv s2.heap s2.toks ps (Heap.ExtBut.refl _ _) (Nat.le_refl _) hPs ⟨#[], by simp⟩ ht
def GRest (P : Addr) (g : TG) (tt : TT) (te : TE) (vs : List Nat) (cons : Nat → (Nat → Bool) → (Nat → V → Hp → Prop) → (Hp → Prop) → VK → Prop) (σ : L2.St) (Q : VK) (J : It) (H1 : Hp) : Prop := ∀ H2, Tabbed P H1 H2 →
  ∃ T sp Yd Fin, ∃ W : Nat → Nat → Nat → Hp → Prop, cons T sp Yd Fin Q ∧ (∃ m, W 0 T m H2) ∧ GCourse J g tt te vs σ sp Yd Fin W
def tGen (P : Addr) (wi : TI) (g : TG) (tt : TT) (te : TE) (vs : List Nat) (cons : Nat → (Nat → Bool) → (Nat → V → Hp → Prop) → (Hp → Prop) → VK → Prop) : TE := fun σ H Q => wi σ H fun J H1 => TabG H1 P ∧ GRest P g tt te vs cons σ Q J H1
def cAll (T : Nat) (sp : Nat → Bool) (Yd : Nat → V → Hp → Prop) (Fin : Hp → Prop) (Q : VK) : Prop := (∀ n y H, Yd n y H → y = .bl (!sp n)) ∧ (∀ n y H, Yd n y H → sp n = true → Q (.bl false) H) ∧ ∀ H, Fin H → Q (.bl true) H
section
variable {c P : Addr} {elt tg iter : Expr} {ifs : List Expr} {gpos p pos : Pos} {scope : Scope} {own : List (Str × Nat)} {wi : TI} {g : TG} {tt : TT} {te : TE}
theorem gm_at {vs : List Nat} {J : It} {H2 : Hp} {s4 s' : Shared} {code : Value} {fp : List Addr} {it : Addr} {tn : Nat → Heap → Prop} {a gi : Nat} {o : Obj} {s5 : Shared} {Pn : Nat → List (Addr × Obj) → Prop} {sp : Nat → Bool} {Yd : Nat → V → Hp → Prop} {Fin : Hp → Prop} {W : Nat → Nat → Nat → Hp → Prop} {T m : Nat} {pk : List (Addr × Obj)}
    (hco : scope.isCoroutine = false) (hh : X.calm = true) (G : GM X pins σ vs scope elt tg iter ifs gpos J H2 s4 code fp it tn a gi o s5) (hPn : ∀ r pk, Pn r pk → ∀ p ∈ pk, p.1 ∉ fp)
    (pg : PG (gxOf X s4 H2 (genE X scope s4.heap.objs.size code) fp) tg g) (pt : PTs (gxOf X s4 H2 (genE X scope s4.heap.objs.size code) fp) ifs tt) (pe : PE (gxOf X s4 H2 (genE X scope s4.heap.objs.size code) fp) elt te)
    (hW : GCourse J g tt te vs σ sp Yd Fin W) (w0 : W 0 T m H2) (hpk : Pn T pk) (I' : Inv (gxOf X s4 H2 (genE X scope s4.heap.objs.size code) fp) pk (wipe σ vs) H2 s') (hg : s'.gens = s5.gens) (hk : ∀ b ∈ fp, ∀ ob, s5.heap.get? b = some ob → s'.heap.get? b = some ob) :
    GAt X (gxOf X s4 H2 (genE X scope s4.heap.objs.size code) fp) s4.heap.objs.size gi Pn sp Yd Fin T s' := by
  have st' : tn 0 s'.heap := G.turn.keep _ _ _ G.st hk
  refine ⟨_, pk, pinsAt fp s'.heap, _, H2, by rw [hg]; exact G.gen, hpk, fun p hp => (G.fpo _ (of_pinsAt hp).1).2, I'.pinned (fun b hb => ?_) (G.turn.obj _ _ st'), fun pk' s'' hpk' I'' => ?_⟩
  · exact ⟨(G.fpo b hb).1.1, (I'.ok.exf b hb).1, I'.ok.exfs b hb, .inl hb, fun x c e => (I'.ok.exf b hb).2 x c e, fun p hp z => hPn T pk hpk p (show p ∈ pk from hp) (z ▸ hb)⟩
  · refine ⟨rfl, gseg_start hco hh G.turn hPn (fun b hb => (G.fpo b hb).2) pg pt pe hW m T 0 s'' s'' H2 pk' hpk' I''.unpinned ?_ (fun b hb => (G.fpo b hb).1.1) w0⟩
    exact G.turn.keep _ _ _ st' fun b hb ob e => (I''.pin (b, ob) (List.mem_append_right _ (List.mem_append_right _ (mem_pinsAt hb e)))).1
theorem gm_back {vs : List Nat} {J : It} {H2 H' : Hp} {s4 s' : Shared} {code : Value} {fp : List Addr} {it : Addr} {tn : Nat → Heap → Prop} {a gi : Nat} {o : Obj} {s5 : Shared} {pins' : List (Addr × Obj)} {σ' : L2.St}
    (G : GM X pins σ vs scope elt tg iter ifs gpos J H2 s4 code fp it tn a gi o s5) (I : Inv (gxOf X s4 H2 (genE X scope s4.heap.objs.size code) fp) pins' σ' H' s') : Inv X pins σ H' s' :=
  G.inv.call' (ch := fp) I.os I.base I.hok I.bare fun b hb => ⟨(G.fpo b hb).1.2.2.2.1, (G.fpo b hb).1.2.1, (G.fpo b hb).1.2.2.2.2.1, (G.fpo b hb).1.2.2.2.2.2⟩
abbrev gxPs (X : Cx) (scope : Scope) (F : Cx → Prop) : Prop := ∀ (s : Shared) (H : Hp) (C : Addr) (code : Value) (fp : List Addr), F (gxOf X s H (genE X scope C code) fp)
theorem pe_allG (hb : bootBuiltins "all" = some (.builtin "all")) (hh : X.calm = true) (hroom : X.A.depth < recursionLimit) (hg : Gl X "all") (hm : X.mg "all" = none) (TB : TabB X.base X.mg c P) (hcode : X.env.code = .ref c) (S : GnOk X.N X.env.scope scope own) (hN : X.N.Nodup) (hi : PI X tg iter wi)
    (pg : gxPs X scope fun Y => PG Y tg g) (pt : gxPs X scope fun Y => PTs Y ifs tt) (pe : gxPs X scope fun Y => PE Y elt te)
    (hs : ∀ v, genFold iter X.env v = pure v := by intro _; rfl)
    (he : starEach [.GeneratorExp elt [⟨tg, iter, ifs, 0⟩] scope gpos] X.env = (false, eval (.GeneratorExp elt [⟨tg, iter, ifs, 0⟩] scope gpos) X.env) :: starEach [] X.env := by rfl) :
    PE X (.Call (.Name "all" p) [.GeneratorExp elt [⟨tg, iter, ifs, 0⟩] scope gpos] [] pos) (tGen P wi g tt te (own.map (·.2)) cAll) := by
  refine ⟨fun pins s σ H Q I h => ?_⟩
  have hd : X.A.handled = none := I.ok.hd hh
  refine wpAny_Call_Name_kw (ld_blt I hg hm hb ?_)
  refine PyProof.Rows.callWith_builtin1 ?_ he (by rfl)
  rw [he]
  show wpAny _ _ (spliced ((false, eval (.GeneratorExp elt [⟨tg, iter, ifs, 0⟩] scope gpos) X.env) :: backTo pos (starEach [] X.env))) _ _ s
  refine Calls.spliced_cons (gen_make hh hroom TB hcode S hN hi hs I (show wi σ H (fun J H1 => TabG H1 P ∧ GRest P g tt te (own.map (·.2)) cAll σ Q J H1) from h) fun J H1 H2 s4 code fp it tn a gi o s5 hR hT G => ?_)
  obtain ⟨T, sp, Yd, Fin, W, ⟨c1, c2, c3⟩, ⟨m, w0⟩, hW⟩ := hR H2 hT
  refine Calls.spliced_nil ?_
  have na : ∀ b ∈ fp, b ≠ a := fun b hb z => by
    have h1 := (G.fpo b hb).2; have h2 := G.above
    rw [z] at h1
    exact absurd (Nat.lt_trans h1 h2) (Nat.lt_irrefl _)
  refine call_function_tree F.kind_all F.plain_all F.entry_all (F.args_all1 _) ?_
  unfold Builtin.«all»
  refine wpAny_bind (m := oneArg "all" _) (wpAny_pure ?_)
  refine wpAny_bind (wpAny_pyIter_gen (s := s5) (G.isG _ G.obj) ?_)
  have Ip : Inv (gxOf X s4 H2 (genE X scope s4.heap.objs.size code) fp) [(a, o)] (wipe σ (own.map (·.2))) H2 s5 := G.invG.pins_of fun p hp => by
    rw [List.mem_singleton.mp hp]
    exact ⟨G.obj, G.inv.hok.fresh (Nat.le_of_lt G.above), Nat.ne_of_gt G.above, fun z => by
      obtain ⟨_, ob, ho, _⟩ := G.invG.ok.funs.mem z
      exact absurd (Nat.lt_trans (Heap.lt_size ho) G.above) (Nat.lt_irrefl _), G.cel⟩
  have at0 := gm_at (s' := s5) (Pn := fun _ pk => pk = [(a, o)]) S.co hh G (fun r pk e p hp => by rw [e] at hp; rw [List.mem_singleton.mp hp]; exact fun z => na _ z rfl) (pg _ _ _ _ _) (pt _ _ _ _ _) (pe _ _ _ _ _) hW w0 rfl Ip rfl (fun _ _ _ e => e)
  refine wpAny_pure ⟨plainId_quiet F.plain_all_loop _, all_loop hd hroom (fun r pk e => ⟨o, by rw [e]; exact List.mem_cons_self, G.isG⟩) (fun _ _ _ e => e) c1 (fun n y s' H' σ' pins' I' yd hsp => ?_) (fun s' H' σ' pins' I' fin => ?_) T s5 at0⟩
  · exact ⟨.bl false, H', gm_back G I', rfl, c2 n y H' yd hsp⟩
  · exact ⟨.bl true, H', gm_back G I', rfl, c3 H' fin⟩
end
end
end Mp
end
section
set_option maxRecDepth 100000
set_option maxHeartbeats 1000000
namespace Mp
open PySem PySem.Spec PyProof.Rows L2 GenW GxR
def genT (gt : PV → MEnv → Option MEnv) (tc : TM) (me : EM) (stp : PV → Bool) : List PV → MEnv → Sto → MRes (List PV)
  | [], _, st => .ok [] st
  | x :: xs, env, st => match gt x env with
    | none => .bad
    | some e1 => bindX (tc e1 st) fun c s => if c then bindX (me e1 s) fun v s' => if stp v then .ok [v] s' else bindX (genT gt tc me stp xs env s') fun r s'' => .ok (v :: r) s'' else genT gt tc me stp xs env s
def allL (gt : PV → MEnv → Option MEnv) (tc : TM) (me : EM) : List PV → MEnv → Sto → MRes Bool
  | [], _, st => .ok true st
  | x :: xs, env, st => match gt x env with
    | none => .bad
    | some e1 => bindX (tc e1 st) fun c s => if c then bindX (me e1 s) fun v s' => match v with
      | .bl true => allL gt tc me xs env s'
      | .bl false => .ok false s'
      | _ => .bad else allL gt tc me xs env s
def isFV (v : PV) : Bool := match v with | .bl false => true | _ => false
def mAllG (mi : AM) (gt : PV → MEnv → Option MEnv) (tc : TM) (me : EM) (vs : List Nat) : EM := fun env st => bindR (mi env st) fun xs s => if noOwn vs env then bindX (allL gt tc me xs (killE vs env) s) fun r s' => .ok (.bl r) s' else .bad
theorem bindX_ok {α β : Type} {r : MRes α} {f : α → Sto → MRes β} {b : β} {s : Sto} (h : bindX r f = .ok b s) : ∃ a s1, r = .ok a s1 ∧ f a s1 = .ok b s := by
  cases r with
  | ok a s1 => exact ⟨a, s1, rfl, h⟩
  | exc _ _ => cases h
  | bad => cases h
section
variable {gt : PV → MEnv → Option MEnv} {tc : TM} {me : EM}
theorem allL_T : ∀ (xs : List PV) (env : MEnv) (st : Sto) (b : Bool) (sF : Sto), allL gt tc me xs env st = .ok b sF →
    ∃ ys, genT gt tc me isFV xs env st = .ok ys sF ∧ (∀ y ∈ ys, ∃ c, y = .bl c) ∧ b = !(ys.any isFV)
  | [], env, st, b, sF, h => by cases h; exact ⟨[], rfl, (fun y z => by cases z), rfl⟩
  | x :: xs, env, st, b, sF, h => by
    simp only [allL] at h
    simp only [genT]
    cases q : gt x env with
    | none => rw [q] at h; cases h
    | some e1 =>
      rw [q] at h
      obtain ⟨c, s1, q1, h⟩ := bindX_ok h
      simp only [q1, bindX]
      cases c with
      | false => exact allL_T xs env s1 b sF h
      | true =>
        simp only [if_true] at h ⊢
        obtain ⟨v, s2, q2, h⟩ := bindX_ok h
        simp only [q2, bindX]
        match v, h with
        | .bl false, h => cases h; exact ⟨[.bl false], rfl, (fun y z => ⟨false, List.mem_singleton.mp z⟩), rfl⟩
        | .bl true, h =>
          obtain ⟨ys, g1, g2, g3⟩ := allL_T xs env s2 b sF h
          simp only [g1]
          refine ⟨.bl true :: ys, rfl, fun y z => ?_, ?_⟩
          · rcases List.mem_cons.mp z with z | z
            · exact ⟨_, z⟩
            · exact g2 y z
          · rw [List.any_cons]; exact g3
end
section
variable {K : PySem.W.Frag} {mg : Str → Option Value} {tb : Tbs} {Mx M : Addr → Prop} {W W' W1 W0 : List Addr} {σ σ' : L2.St} {H H' H1 H0 H2 : Hp} {env env' : MEnv} {st st' st1 : Sto} {Wx : WX}
theorem Rel.tabbed {P : Addr} (r : Rel K tb Mx W σ H1 env st) (hP : TabG H1 P) (hg : tb.tg P = none) (t : Tabbed P H1 H2) : Stp K tb Mx env σ W H1 W H2 st := by
  obtain ⟨ps, hp, ht⟩ := hP
  obtain ⟨⟨ps', hp', ht'⟩, hk⟩ := t
  have nP : ∀ b u, H1 b = some u → NoTbl u → b ≠ P := fun b u e n z => by rw [z, hp] at e; exact n ps (Option.some.inj e).symm
  have g : Grow (Mt Mx W env σ) (Mt Mx W env σ) W W H1 H2 := ⟨fun b u h _ n => by rw [hk b (nP b u h n)]; exact h, fun _ _ n => n, List.prefix_refl _⟩
  have ex : ∀ b, H1 b ≠ none → H2 b ≠ none := fun b h => by
    by_cases e : b = P
    · rw [e, hp']; simp
    · rw [hk b e]; exact h
  refine ⟨⟨fun Q hQ => ?_, fun b h => ex b (r.mx b h), r.nd, r.wo, r.om, r.inj, r.el, r.len, fun j q u h1 h2 => (r.sto j q u h1 h2).grow g fun x hx n => by rw [hk q (nP q x hx n)]; exact hx, fun j u h => ?_, fun j u h => ?_⟩,
    fun b u h _ n => by rw [hk b (nP b u h n)]; exact h, fun b h => ex b h, List.prefix_refl _, fun b h => .inl h⟩
  · by_cases e : Q = P
    · rw [e]; exact ⟨ps', hp', ht', fun q z => by rw [hg] at z; cases z⟩
    · obtain ⟨q, h1, h2, h3⟩ := r.tab Q hQ
      refine ⟨q, by rw [hk Q e]; exact h1, h2, fun n z pos cv hc => ?_⟩
      obtain ⟨c, e1, e2⟩ := h3 n z pos cv hc
      exact ⟨c, e1, by rw [hk c (nP c _ e2 (fun ps z => LamX.codeO_ne ps z))]; exact e2⟩
  · obtain ⟨x, e2, rf⟩ := r.pv j u h
    exact ⟨x, e2, RF.grow g _ rf⟩
  · obtain ⟨x, e2, rf⟩ := r.own j u h
    exact ⟨x, e2, rf.grow g fun y hy n => by rw [hk x (nP x y hy n)]; exact hy⟩
def YdM (K : PySem.W.Frag) (tb : Tbs) (Mx : Addr → Prop) (env : MEnv) (σ : L2.St) (W1 : List Addr) (H1 : Hp) (stp : PV → Bool) (ys : List PV) (sF : Sto) (k : Nat) (y : V) (H : Hp) : Prop :=
  ∃ v, ys[ys.length - 1 - k]? = some v ∧ (∃ M W, RF K M W H v y) ∧ (stp v = true → ∃ W', Stp K tb Mx env σ W1 H1 W' H sF)
def FinM (K : PySem.W.Frag) (tb : Tbs) (Mx : Addr → Prop) (env : MEnv) (σ : L2.St) (W1 : List Addr) (H1 : Hp) (stp : PV → Bool) (ys : List PV) (sF : Sto) (H : Hp) : Prop := (ys.any stp = false) ∧ ∃ W', Stp K tb Mx env σ W1 H1 W' H sF
def spM' (stp : PV → Bool) (ys : List PV) (k : Nat) : Bool := match ys[ys.length - 1 - k]? with | some v => stp v | none => false
def WM (K : PySem.W.Frag) (tb : Tbs) (Mx : Addr → Prop) (env : MEnv) (σ : L2.St) (W1 : List Addr) (H1 : Hp) (g : PV → MEnv → Option MEnv) (tc : TM) (me : EM) (stp : PV → Bool) (vs : List Nat) (xs ys : List PV) (sF : Sto) (i r m : Nat) (H' : Hp) : Prop :=
  ∃ W' st' ys' pre, Rel K tb Mx W' (wipe σ vs) H' (killE vs env) st' ∧ KB W1 H1 No W' H' No ∧ i + m = xs.length ∧ r = ys'.length ∧ ys = pre ++ ys' ∧ pre.any stp = false ∧ genT g tc me stp (xs.drop i) (killE vs env) st' = .ok ys' sF
theorem gen_course {J : It} {g : PV → MEnv → Option MEnv} {tc : TM} {me : EM} {is vs : List Nat} {stp : PV → Bool} {xs ys : List PV} {s sF : Sto} (hsub : ∀ j ∈ is, j ∈ vs) (hno : noOwn vs env = true) (rel : Rel K tb Mx W1 σ H1 env s) (wk : WlkI K J xs (Mt Mx W1 env σ) W1 H1)
    : GCourse J (tG K tb is g) (tMT K mg tb WN tc) (tM K mg tb WN .F me) vs σ (spM' stp ys) (YdM K tb Mx env σ W1 H1 stp ys sF) (FinM K tb Mx env σ W1 H1 stp ys sF) (WM K tb Mx env σ W1 H1 g tc me stp vs xs ys sF) := by
  have omw : ∀ p, Om (killE vs env) (wipe σ vs) p ↔ Om env σ p := fun p => om_wipe hno
  intro i r m H' ⟨W', st', ys', pre, rel', kb', en, er, ey, hpre, gT⟩
  have gr : Grow (Mt Mx W1 env σ) (Mt Mx W' (killE vs env) (wipe σ vs)) W1 W' H1 H' := ⟨fun b o h n t => kb'.kp b o h (fun z => n (.inl z)) (fun z => z) t, fun b h n z => by
    rcases z with z | z | z
    · rcases kb'.fr b z with y | y
      · exact n (.inl y)
      · exact h y
    · exact n (.inr (.inl z))
    · exact n (.inr (.inr ((omw b).mp z))), kb'.pre⟩
  have outer : ∀ {W4 : List Addr} {H4 : Hp} {s4 : Sto}, Rel K tb Mx W4 (wipe σ vs) H4 (killE vs env) s4 → KB W1 H1 No W4 H4 No → Stp K tb Mx env σ W1 H1 W4 H4 s4 := fun {W4 H4 s4} r4 k4 =>
    rel.back (r4.toCall.less fun b z => z.elim .inl fun z => .inr ((omw b).mpr z)) k4
  by_cases hi : i < xs.length
  · refine .inr ⟨wk.go i _ _ _ gr hi, fun r' H2 => ∃ m', m' < m ∧ WM K tb Mx env σ W1 H1 g tc me stp vs xs ys sF (i + 1) r' m' H2, fun r' H2 h => h, fun x H2 hy => ?_⟩
    have hx : xs[i]? = some xs[i] := List.getElem?_eq_getElem hi
    obtain ⟨al, rf⟩ := wk.yl i _ _ _ x H2 xs[i] gr (fun p z => rel'.mtS z) hx hy
    have a2 := al.stp rel'
    rw [List.drop_eq_getElem_cons hi] at gT
    simp only [genT] at gT
    cases qg : g xs[i] (killE vs env) with
    | none => rw [qg] at gT; cases gT
    | some e1 =>
      rw [qg] at gT
      refine ⟨_, W', killE vs env, st', xs[i], e1, a2.rel, rf, qg, fun σ2 r2 om2 c2 => ?_⟩
      have om2' : ∀ p, Om (killE vs env) (wipe σ vs) p → Om e1 σ2 p := fun p ⟨j, o, h1, h2⟩ => by
        have hj : j ∉ is := fun z => absurd (killE_un vs env j _ (hsub j z) h1) (fun y => nomatch y)
        exact ⟨j, o, (c2.at_ j hj).1.trans h1, (c2.at_ j hj).2.trans h2⟩
      refine ⟨?_, _, W', e1, st', r2, ?_⟩
      · refine List.ext_getElem? fun j => ?_
        by_cases hj : j ∈ vs
        · have : ∀ (τ : L2.St), τ.length = σ.length → (wipe τ vs)[j]? = if j < σ.length then some none else none := fun τ hτ => by
            by_cases hl : j < σ.length
            · rw [if_pos hl]
              cases q : (wipe τ vs)[j]? with
              | none =>
                have := List.getElem?_eq_none_iff.mp q
                rw [wipe_length, hτ] at this
                omega
              | some u =>
                cases u with
                | none => rfl
                | some v => exact absurd hj (wipe_some q).2
            · rw [if_neg hl, List.getElem?_eq_none (by rw [wipe_length, hτ]; omega)]
          rw [this σ2 (c2.len.trans (wipe_length σ vs)), this σ rfl]
        · rw [wipe_at hj, wipe_at hj, (c2.at_ j fun z => hj (hsub j z)).2, wipe_at hj]
      have back : ∀ {W4 : List Addr} {H4 : Hp} {s4 : Sto}, Stp K tb Mx e1 σ2 W' H2 W4 H4 s4 → Rel K tb Mx W4 (wipe σ vs) H4 (killE vs env) s4 ∧ KB W1 H1 No W4 H4 No := fun {W4 H4 s4} a4 => by
        have kk : KB W' H' No W4 H4 No := (a2.kb (O := No)).trans a4.kb
        have q : Rel K tb (fun b => Mx b ∨ Om (killE vs env) (wipe σ vs) b) W4 [] H4 [] s4 := a4.rel.toCall.less fun b z => z.elim .inl fun z => .inr (om2' b z)
        exact ⟨(rel'.back q kk).rel, kb'.trans kk⟩
      dsimp only at gT
      obtain ⟨c, s2, qt, gT⟩ := bindX_ok gT
      rw [qt]
      intro W3 H3 a3
      cases c with
      | false =>
        rw [if_neg Bool.false_ne_true] at gT ⊢
        obtain ⟨r3, k3⟩ := back a3
        exact ⟨m - 1, by omega, W3, s2, ys', pre, r3, k3, by omega, er, ey, hpre, gT⟩
      | true =>
        rw [if_pos rfl] at gT ⊢
        refine ⟨_, W3, e1, s2, a3.rel, ?_⟩
        obtain ⟨v, s3, qe, gT⟩ := bindX_ok gT
        rw [qe]
        intro W4 H4 w a4 rm
        have a34 := a3.trans a4
        obtain ⟨r4, k4⟩ := back a34
        have rmF : RF K (Mt Mx W4 e1 σ2) W4 H4 v w := rm
        cases hs : stp v with
        | true =>
          rw [if_pos hs] at gT
          cases gT
          have lst : ys[ys.length - 1 - 0]? = some v := by rw [ey]; simp
          refine ⟨0, er, ⟨v, lst, ⟨_, _, rmF⟩, fun _ => ⟨W4, outer r4 k4⟩⟩, fun q => ?_⟩
          unfold spM' at q
          rw [lst] at q
          have q : stp v = false := q
          rw [hs] at q; cases q
        | false =>
          rw [if_neg (by rw [hs]; exact Bool.false_ne_true)] at gT
          obtain ⟨r2s, s5, qr, gT⟩ := bindX_ok gT
          cases gT
          have lst : ys[ys.length - 1 - r2s.length]? = some v := by
            rw [ey, List.length_append, List.length_cons, List.getElem?_append_right (by omega)]
            rw [show pre.length + (r2s.length + 1) - 1 - r2s.length - pre.length = 0 by omega]
            rfl
          refine ⟨r2s.length, er, ⟨v, lst, ⟨_, _, rmF⟩, fun q => by rw [hs] at q; cases q⟩, fun _ => ⟨m - 1, by omega, W4, s3, r2s, pre ++ [v], r4, k4, by omega, rfl, by rw [ey]; simp, ?_, qr⟩⟩
          rw [List.any_append, hpre]; simp [hs]
  · have e : i = xs.length := by omega
    subst e
    rw [List.drop_length] at gT
    simp only [genT] at gT
    cases gT
    exact .inl ⟨wk.st _ _ _ gr, by rw [er]; rfl, by rw [ey, List.append_nil]; exact hpre, W', outer rel' kb'⟩
end
end Mp
end
section
set_option maxRecDepth 100000
set_option maxHeartbeats 1000000
namespace Mp
open PySem PySem.Spec PyProof.Rows L2 GenW GxR
theorem WlkI.mono {K : PySem.W.Frag} {J : It} {xs : List PV} {M M' : Addr → Prop} {W W' : List Addr} {H H' : Hp} (w : WlkI K J xs M W H) (g : Grow M M' W W' H H') (nt : ∀ b o, H b = some o → ¬ M b → H' b ≠ none) : WlkI K J xs M' W' H' where
  go := fun i M2 W2 H2 g2 => w.go i M2 W2 H2 (g.trans g2 nt)
  yl := fun i M2 W2 H2 x H3 y g2 => w.yl i M2 W2 H2 x H3 y (g.trans g2 nt)
  st := fun M2 W2 H2 g2 => w.st M2 W2 H2 (g.trans g2 nt)
section
variable {X : Cx} {tb : Tbs} {Wx : WX} {elt tg iter : Expr} {ifs : List Expr} {scope : Scope} {own : List (Str × Nat)} {p gpos pos : Pos} {mi : AM} {g : PV → MEnv → Option MEnv} {tc : TM} {me : EM} {is : List Nat} {c P : Addr}
theorem gen_post {K : PySem.W.Frag} {mg : Str → Option Value} {Mx : Addr → Prop} {W : List Addr} {σ : L2.St} {H : Hp} {env : MEnv} {Wx : WX} {v : PV} {sF : Sto} {w : V} {H' : Hp} {Q : VK} (post : EPost K mg tb Mx W σ H env Wx .F (.ok v sF) Q)
    (h : ∃ W', Stp K tb Mx env σ W H W' H' sF) (rm : ∀ M W, RF K M W H' v w) : Q w H' := by
  obtain ⟨W', a⟩ := h
  exact post W' H' w a (rm _ _)
theorem e_allG (hb : bootBuiltins "all" = some (.builtin "all")) (hP : P ∈ tb.ps ∧ tb.tg P = none) (hh : X.calm = true) (hroom : X.A.depth < recursionLimit) (hg : Gl X "all") (hm : X.mg "all" = none) (TB : TabB X.base X.mg c P) (hcode : X.env.code = .ref c) (S : GnOk X.N X.env.scope scope own) (hN : X.N.Nodup) (hi : IOk X tb Wx tg iter mi)
    (pg : gxPs X scope fun Y => GOk Y tb is tg g) (pt : gxPs X scope fun Y => TsOk Y tb WN ifs tc) (pe : gxPs X scope fun Y => EOk Y tb WN .F elt me) (hsub : ∀ j ∈ is, j ∈ own.map (·.2) := by decide)
    (hs : ∀ v, genFold iter X.env v = pure v := by intro _; rfl)
    (he : starEach [.GeneratorExp elt [⟨tg, iter, ifs, 0⟩] scope gpos] X.env = (false, eval (.GeneratorExp elt [⟨tg, iter, ifs, 0⟩] scope gpos) X.env) :: starEach [] X.env := by rfl) :
    EOk X tb Wx .F (.Call (.Name "all" p) [.GeneratorExp elt [⟨tg, iter, ifs, 0⟩] scope gpos] [] pos) (mAllG mi g tc me (own.map (·.2))) :=
  PE_mono (pe_allG hb hh hroom hg hm TB hcode S hN hi pg (fun s H C code fp => (pt s H C code fp).h) pe hs he) fun σ H Q ⟨Mx, W, env, st, rel, post⟩ => by
    refine ⟨Mx, W, env, st, rel, ?_⟩
    unfold mAllG at post
    cases qi : mi env st with
    | bad => rw [qi] at post; exact post
    | exc x s => rw [qi] at post; exact post
    | ok xs s =>
      rw [qi] at post
      simp only [bindR] at post
      split at post
      rotate_left
      · exact post.elim
      rename_i hno
      intro W1 H1 J a1 wk
      refine ⟨(a1.rel.tab P hP.1).g, fun H2 hT => ?_⟩
      have a2 := a1.rel.tabbed (a1.rel.tab P hP.1).g hP.2 hT
      have post := EPost.from (a1.trans a2) post
      cases qr : allL g tc me xs (killE (own.map (·.2)) env) s with
      | bad => rw [qr] at post; exact post.elim
      | exc x s => rw [qr] at post; exact post.elim
      | ok b sF =>
        rw [qr] at post
        obtain ⟨ys, q1, q2, q3⟩ := allL_T xs _ s b sF qr
        have hbool : ∀ n y H, YdM X.K tb Mx env σ W1 H2 isFV ys sF n y H → y = .bl (!spM' isFV ys n) := fun n y H ⟨v, e, ⟨M, W, rf⟩, _⟩ => by
          obtain ⟨cc, e2⟩ := q2 v (List.mem_of_getElem? e)
          subst e2
          have := RV.bl (.inl rf)
          rw [this]
          unfold spM'
          rw [e]
          cases cc <;> rfl
        refine ⟨ys.length, spM' isFV ys, YdM X.K tb Mx env σ W1 H2 isFV ys sF, FinM X.K tb Mx env σ W1 H2 isFV ys sF, WM X.K tb Mx env σ W1 H2 g tc me isFV (List.map (fun x : Str × Nat => x.2) own) xs ys sF, ⟨hbool, fun n y H hy hsp => ?_, fun H hf => ?_⟩, ⟨xs.length, W1, s, ys, [], a2.rel.wipes _, KB.refl, Nat.zero_add _, rfl, rfl, rfl, q1⟩, gen_course (mg := X.mg) hsub hno a2.rel (wk.mono a2.grow fun b u e _ => a2.nt b (by rw [e]; simp))⟩
        · obtain ⟨v, e, ⟨M, W, rf⟩, hst⟩ := hy
          unfold spM' at hsp
          rw [e] at hsp
          have : b = false := by rw [q3, List.any_eq_true.mpr ⟨v, List.mem_of_getElem? e, hsp⟩]; try rfl
          subst this
          exact gen_post post (hst hsp) fun M W => rf_bl
        · have : b = true := by rw [q3, hf.1]; try rfl
          subst this
          exact gen_post post hf.2 fun M W => rf_bl
end
end Mp
end
section
set_option maxRecDepth 100000
set_option maxHeartbeats 1000000
namespace Mp
open PySem PySem.Spec PyProof.Rows L2 GxR
structure DX (X : Cx) (tb : Tbs) (Wx : WX) (k : Nat) (c P : Addr) (lt : Option Str) : Prop where
  tk : Takes X Wx
  cm : X.calm = true
  hr : Room k X.A
  cd : X.env.code = .ref c
  tab : TabB X.base X.mg c P
  mem : P ∈ tb.ps ∧ tb.tg P = lt
section
variable {X : Cx} {tb : Tbs} {Wx : WX} {k : Nat} {c P : Addr} {lt : Option Str}
theorem DX.dp (D : DX X tb Wx k c P lt) : X.A.depth < recursionLimit := by have := D.hr.dp; omega
theorem takesN {X : Cx} : Takes X (fun _ _ _ _ => False) := fun _ _ ⟨_, _, _, _, _, _, _, _, _, _, _, _, _, _, _, _, w⟩ => w.elim
theorem DX.blk (D : DX X tb Wx k c P lt) {s : Shared} {H : Hp} {scope : Scope} {cl : List (Str × Addr)} {C : Addr} {fp : List Addr} : DX (X.blk s H scope (compEnvC scope cl C X.env) fp) tb WN k c P lt :=
  ⟨takesN, D.cm, D.hr, D.cd, D.tab, D.mem⟩
structure GX (X : Cx) (tb : Tbs) (k : Nat) : Prop where
  cm : X.calm = true
  hr : Room k X.A
theorem GX.tk (D : GX X tb k) : Takes X WN := takesN
theorem GX.blk (D : GX X tb k) {s : Shared} {H : Hp} {scope : Scope} {cl : List (Str × Addr)} {C : Addr} {fp : List Addr} : GX (X.blk s H scope (compEnvC scope cl C X.env) fp) tb k := ⟨D.cm, D.hr⟩
end
structure FnAt (K : PySem.W.Frag) (mg : Str → Option Value) (cs : List (Addr × Addr)) (tg : Addr → Option Str) (lt : Option Str) (x : Str) (st : Stmt) (f : Addr) (fd : FuncData) (c P : Addr) : Prop where
  fun_ : FunD K x x (defArgs st) (defBody st) (defScope st) [] [] f fd
  code : fd.code = .ref c
  mem : (c, P) ∈ cs
  glo : mg x = some (.ref f)
  tag : tg P = lt
abbrev tbO (cs : List (Addr × Addr)) (tg : Addr → Option Str) : Tbs := ⟨cs.map (·.2), tg⟩
section
variable {P : Program} {w : World} {K : PySem.W.Frag} {mg : Str → Option Value} {base : Heap} {cs : List (Addr × Addr)} {tg : Addr → Option Str} {lt : Option Str} {x : Str} {st : Stmt}
abbrev dX (P : Program) (w : World) (K : PySem.W.Frag) (mg : Str → Option Value) (base : Heap) (N : List Str) (x : Str) (st : Stmt) (f : Addr) (c : Addr) (A : Around) (outer : List Env) (s : Shared) (H : Hp) (E : XK) : Cx :=
  cxOf (L2.CX P w) P w K mg base N x (defScope st) f (.ref c) A outer s H E
theorem mk_fn {N ps : List Str} {k : Nat} {body : SM} {f : Addr} {fd : FuncData} {c T : Addr} (F : FnAt K mg cs tg lt x st f fd c T) (S : FnScope N ps (defScope st)) (TB : ∀ p ∈ cs, TabB base mg p.1 p.2)
    (hb : ∀ (A : Around) (outer : List Env) (s : Shared) (H : Hp) (E : XK), DX (dX P w K mg base N x st f c A outer s H E) (tbO cs tg) (fun cls d _ H' => E cls d H') k c T lt →
      BOk (dX P w K mg base N x st f c A outer s H E) (tbO cs tg) (fun cls d _ H' => E cls d H') (defBody st) body) :
    FnOk P w K mg base (L2.CX P w) (k + 1) f fd ps (spM K mg (tbO cs tg) ps.length (fnM N.length body)) := by
  obtain ⟨oc, od, dV, kV, doc, pm, an, cdv, ct, osl, rfl, lk, hcd, _, _⟩ := F.fun_.ex
  obtain rfl : cdv = .ref c := F.code
  refine fn_of lk hcd S (fun vs H Q E h => ?_) fun A outer s H vs Q E hr hsp => ⟨_, hb A outer s H E ⟨?_, rfl, hr, rfl, TB _ F.mem, List.mem_map.mpr ⟨_, F.mem, rfl⟩, F.tag⟩, body_read hsp⟩
  · obtain ⟨_, _, _, args, hl, _, ra, _⟩ := h
    rw [ra.len]; exact hl
  · exact takes_of (X := dX P w K mg base N x st f c A outer s H E) rfl rfl rfl (E₁ := fun e' s'' => L2.CX P w outer H s E e' s'') rfl
theorem mk_cal {N ps : List Str} {k : Nat} {body : SM} {f : Addr} {fd : FuncData} {c T : Addr} (F : FnAt K mg cs tg lt x st f fd c T) (S : FnScope N ps (defScope st)) (TB : ∀ p ∈ cs, TabB base mg p.1 p.2)
    (hbind : ∀ (kV doc pm : Value) (an : Option Addr) (cdv ct : Value) (us : List Value), us.length = ps.length → bindArgs (PySem.W.fnOf x x (defArgs st) (defBody st) (defScope st) .none kV doc pm an cdv ct) ⟨us, []⟩ = pure (ps.zip us))
    (hb : ∀ (A : Around) (outer : List Env) (s : Shared) (H : Hp) (E : XK), DX (dX P w K mg base N x st f c A outer s H E) (tbO cs tg) (fun cls d _ H' => E cls d H') k c T lt →
      BOk (dX P w K mg base N x st f c A outer s H E) (tbO cs tg) (fun cls d _ H' => E cls d H') (defBody st) body) :
    CalM P w K mg base (tbO cs tg) (k + 1) x ps.length (fnM N.length body) :=
  ⟨f, fd, ps, mk_fn F S TB hb, F.glo, F.fun_.kp, F.fun_.bindsN hbind⟩
end
def isTab : Option Obj → Bool
  | some ⟨.none, _, .fields _, _⟩ => true
  | _ => false
def emTab : Option Obj → Bool
  | some ⟨.none, none, .fields vs, sl⟩ => vs.toList.isEmpty && sl.toList.isEmpty
  | _ => false
def isStrV : Value → Bool
  | .str _ _ => true
  | _ => false
def isIntV : Value → Bool
  | .int _ _ => true
  | _ => false
def isBoolV : Value → Bool
  | .bool _ => true
  | _ => false
def frT (g : Addr → Option Obj) (n : Nat) : PySem.W.Frag := He.frG g (cStatics :: (He.asD g n).filter fun a => !isTab (g a))
theorem emTab_ok {o : Option Obj} (h : emTab o = true) : o = some { cls := .none, data := .fields #[] } := by
  unfold emTab at h
  split at h
  · rename_i vs sl
    obtain ⟨h1, h2⟩ := Bool.and_eq_true_iff.mp h
    have e1 : vs = #[] := by
      cases vs with | mk l => cases l with
        | nil => rfl
        | cons _ _ => cases h1
    have e2 : sl = #[] := by
      cases sl with | mk l => cases l with
        | nil => rfl
        | cons _ _ => cases h2
    subst e1 e2; rfl
  · cases h
def tabOf (g : Addr → Option Obj) (K : PySem.W.Frag) (d : He.DefD) : Option (Addr × Addr) := match K.lookup (He.fAd K d.at_) with
  | some ⟨_, _, .func fd, _⟩ => (match fd.code with
    | .ref c => (match g c with
      | some ⟨.type t, _, .fields vs, _⟩ => (match (vs.toList[11]? : Option Value) with
        | some (.ref P) => if decide (t = "code") && (isStrV (vs.toList.getD 18 .none) && (isIntV (vs.toList.getD 7 .none) && (isBoolV (vs.toList.getD 9 .none) && (isIntV (vs.toList.getD 10 .none) && (!Nat.beq c P && (emTab (g P) && (K.lookup P).isNone)))))) then some (c, P) else none
        | _ => none)
      | _ => none)
    | _ => none)
  | _ => none
structure TabAt (h : Heap) (K : PySem.W.Frag) (d : He.DefD) (c P : Addr) : Prop where
  fn : ∃ oc od fd osl, K.lookup (He.fAd K d.at_) = some ⟨oc, od, .func fd, osl⟩ ∧ fd.code = .ref c
  hd : PySem.W.CodeHd h c P
  em : h.get? P = some { cls := .none, data := .fields #[] }
  no : K.lookup P = none
theorem tabOf_ok {h : Heap} {K : PySem.W.Frag} {d : He.DefD} {c P : Addr} (e : tabOf h.get? K d = some (c, P)) : TabAt h K d c P := by
  unfold tabOf at e
  split at e
  · rename_i oc od fd osl hk
    split at e
    · rename_i c0 hc0
      split at e
      · rename_i t od2 vs sl2 hg
        split at e
        · rename_i P0 hP0
          split at e
          · rename_i hh
            cases e
            obtain ⟨h1, hh⟩ := Bool.and_eq_true_iff.mp hh
            obtain ⟨h2, hh⟩ := Bool.and_eq_true_iff.mp hh
            obtain ⟨h3, hh⟩ := Bool.and_eq_true_iff.mp hh
            obtain ⟨h4, hh⟩ := Bool.and_eq_true_iff.mp hh
            obtain ⟨h5, hh⟩ := Bool.and_eq_true_iff.mp hh
            obtain ⟨h6, hh⟩ := Bool.and_eq_true_iff.mp hh
            obtain ⟨h7, h8⟩ := Bool.and_eq_true_iff.mp hh
            have h1 := of_decide_eq_true h1
            subst h1
            have gd : ∀ (i : Nat), vs.getD i .none = vs.toList.getD i .none := fun i => by simp [Array.getD_eq_getD_getElem?, List.getD_eq_getElem?_getD]
            have hP1 : vs[11]? = some (.ref P) := by rw [← Array.getElem?_toList]; exact hP0
            have hcP : c ≠ P := fun z => by
              rw [z] at h6
              have : Nat.beq P P = true := Nat.beq_refl P
              rw [this] at h6; cases h6
            refine ⟨⟨oc, od, fd, osl, hk, hc0⟩, ?_, emTab_ok h7, by
              cases q : K.lookup P with
              | none => rfl
              | some u => rw [q] at h8; cases h8⟩
            rw [← gd] at h2 h3 h4 h5
            cases q2 : vs.getD 18 .none with
            | str f tf =>
              cases q3 : vs.getD 7 .none with
              | int fl tg =>
                cases q4 : vs.getD 9 .none with
                | bool ib =>
                  cases q5 : vs.getD 10 .none with
                  | int tx tt =>
                    refine ⟨_, vs, f, tf, fl, tg, ib, tx, tt, hg, rfl, rfl, hP1, ?_, q2, q3, q4, q5, hcP⟩
                    rw [gd, List.getD_eq_getElem?_getD, hP0]; rfl
                  | _ => rw [q5] at h5; cases h5
                | _ => rw [q4] at h4; cases h4
              | _ => rw [q3] at h3; cases h3
            | _ => rw [q2] at h2; cases h2
          · cases e
        · cases e
      · cases e
    · cases e
  · cases e
abbrev AlT : Type := Bool × He.AlD
def csOf (g : Addr → Option Obj) (K : PySem.W.Frag) (fn : List He.DefD) : List (Addr × Addr) := fn.map fun d => (tabOf g K d).getD (0, 0)
def ndB : List Addr → Bool
  | [] => true
  | a :: r => (r.all fun b => !Nat.beq a b) && ndB r
theorem ndB_ok : ∀ {l : List Addr}, ndB l = true → l.Nodup
  | [], _ => List.nodup_nil
  | a :: r, h => by
    unfold ndB at h
    obtain ⟨h1, h2⟩ := Bool.and_eq_true_iff.mp h
    refine List.nodup_cons.mpr ⟨fun z => ?_, ndB_ok h2⟩
    have := List.all_eq_true.mp h1 a z
    rw [Nat.beq_refl] at this; cases this
def obsP (n : Nat) (fa : List He.Fa) (fn : List He.DefD) (pb : PySem.W.Frag → Bool) (g : Addr → Option Obj) : AlT := let K := frT g n; ((fn.all fun d => (tabOf g K d).isSome) && (ndB ((csOf g K fn).map (·.2)) && pb K), He.obsD fa fn K)
structure SaysP (fa : List He.Fa) (fn : List He.DefD) (pb : PySem.W.Frag → Bool) (h : Heap) (K : PySem.W.Frag) (cs : List (Addr × Addr)) : Prop where
  kin : K.In h
  says : He.SaysD fa fn K
  len : cs.length = fn.length
  tabs : ∀ (i : Nat) (d : He.DefD) (p : Addr × Addr), fn[i]? = some d → cs[i]? = some p → TabAt h K d p.1 p.2
  nd : (cs.map (·.2)).Nodup
  pb_ : pb K = true
def hookP (n : Nat) (fa : List He.Fa) (fn : List He.DefD) (pb : PySem.W.Frag → Bool) : PySem.W.Hook where
  α := AlT
  obs := fun s => obsP n fa fn pb s.heap.get?
  val := fun _ => (true, He.valD fn)
  says := fun _ h => ∃ (K : PySem.W.Frag) (cs : List (Addr × Addr)), SaysP fa fn pb h K cs
  of := fun _ s e => by
    have e0 : ((fn.all fun d => (tabOf s.heap.get? (frT s.heap.get? n) d).isSome) && (ndB ((csOf s.heap.get? (frT s.heap.get? n) fn).map (·.2)) && pb (frT s.heap.get? n))) = true := congrArg (fun z : AlT => z.1) e
    obtain ⟨e1, e2⟩ := Bool.and_eq_true_iff.mp e0
    obtain ⟨e2, e3⟩ := Bool.and_eq_true_iff.mp e2
    refine ⟨frT s.heap.get? n, csOf s.heap.get? (frT s.heap.get? n) fn, He.frG_in, congrArg (fun z : AlT => z.2) e, by simp [csOf], fun i d p hd hp => ?_, ndB_ok e2, e3⟩
    have := List.all_eq_true.mp e1 d (List.mem_of_getElem? hd)
    obtain ⟨⟨c, P⟩, h⟩ := Option.isSome_iff_exists.mp this
    unfold csOf at hp
    rw [List.getElem?_map, hd, Option.map_some, h] at hp
    cases hp
    exact tabOf_ok h
  keeps := fun _ h h' ⟨K, cs, S⟩ k => ⟨K, cs, PySem.W.Frag.In.keeps S.kin k, S.says, S.len, fun i d p hd hp => let T := S.tabs i d p hd hp; ⟨T.fn, T.hd.keeps k, k _ _ T.em, T.no⟩, S.nd, S.pb_⟩
theorem obsP_eq {n : Nat} {fa : List He.Fa} {fn : List He.DefD} {pb : PySem.W.Frag → Bool} {g : Addr → Option Obj} {s : Shared} (h : ∀ a, g a = s.heap.get? a) : obsP n fa fn pb g = (hookP n fa fn pb).obs s := by
  have e : g = s.heap.get? := funext h
  rw [e] <;> rfl
def tgOf (cs : List (Addr × Addr)) (lts : List (Option Str)) (P : Addr) : Option Str := (((cs.map (·.2)).zip lts).lookup P).getD none
theorem lookup_zip : ∀ (l : List Addr) (m : List (Option Str)) (i : Nat) (P : Addr) (o : Option Str), l.Nodup → l[i]? = some P → m[i]? = some o → (l.zip m).lookup P = some o
  | [], _, i, P, o, _, h, _ => by simp at h
  | a :: l, [], i, P, o, _, _, h => by simp at h
  | a :: l, b :: m, 0, P, o, _, h1, h2 => by
    simp at h1 h2; subst h1 h2
    simp [List.lookup]
  | a :: l, b :: m, i + 1, P, o, nd, h1, h2 => by
    simp at h1 h2
    obtain ⟨n1, n2⟩ := List.nodup_cons.mp nd
    have ne : P ≠ a := fun z => n1 (z ▸ List.mem_of_getElem? h1)
    rw [List.zip_cons_cons, List.lookup_cons]
    rw [show (P == a) = false from beq_false_of_ne ne]
    exact lookup_zip l m i P o n2 h1 h2
theorem SaysP.at {fa : List He.Fa} {fn : List He.DefD} {pb : PySem.W.Frag → Bool} {h : Heap} {K : PySem.W.Frag} {cs : List (Addr × Addr)} (S : SaysP fa fn pb h K cs) {lts : List (Option Str)} (i : Nat) {d : He.DefD} {o : Option Str} (hd : fn[i]? = some d) (ho : lts[i]? = some o) : ∃ c P, TabAt h K d c P ∧ (c, P) ∈ cs ∧ tgOf cs lts P = o := by
  have hi : i < cs.length := by rw [S.len]; exact (List.getElem?_eq_some_iff.mp hd).1
  have hp : cs[i]? = some cs[i] := List.getElem?_eq_getElem hi
  refine ⟨cs[i].1, cs[i].2, S.tabs i d _ hd hp, List.mem_of_getElem? hp, ?_⟩
  unfold tgOf
  rw [lookup_zip _ _ i cs[i].2 o S.nd (by rw [List.getElem?_map, hp]; rfl) ho]; rfl
def pInts (ns : List Int) : PV := .lst (ns.map PV.int)
theorem law_endP {l : PySem.W.OpenLaw} {n k : Nat} {q : Program} {loose : List Str} {XP : (Str → Option Value) → Heap → Prop} {fa : List He.Fa} {fn : List He.DefD} {pb : PySem.W.Frag → Bool} {lts : List (Option Str)} {m : Nat} {d : DefRec} {M : FM} {pn x : Str}
    (hn : l.most = some n) (hn2 : n ≤ sizeLine) (hdf : d.params.defaults = []) (hr : Room k callerA) (hnm : d.name = x)
    (F : ∀ (w : World) (K : PySem.W.Frag) (mg : Str → Option Value) (h : Heap) (cs : List (Addr × Addr)), h.Ns mainGlobals mg → SaysP fa fn pb h K cs →
      ∃ (f : Addr) (fd : FuncData), mg x = some (.ref f) ∧ (∀ (s : Shared) (u : Value), BindsTo s fd ⟨[u], []⟩ [(pn, u)]) ∧
        ∀ base : Heap, K.In base → base.Ns mainGlobals mg → (∀ p ∈ cs, TabB base mg p.1 p.2) → FnOk l.prog w K mg base (L2.CX l.prog w) k f fd [pn] (spM K mg (tbO cs (tgOf cs lts)) 1 M))
    (hlaw : ∀ ns : List Int, ns.length ≤ n → (∀ z ∈ ns, Builtin.Int.intBits z ≤ 1048576) → ∃ s', M [pInts ns] [] = .ok (.bl true) s') :
    PySem.W.WalkO q loose XP (hookP m fa fn pb).says l.row.toRowW d [] (fun f vs => PySem.call f vs) := by
  refine Att.attach_callB hn hdf fun w s₀ s₁ mg mb fa' o pm cd doc a vs ns G Y ho hd hcd hmg hobj hints hlen hbits hg => ?_
  obtain ⟨K, cs, S⟩ := Y
  have KX := S.kin
  have h2 : ∀ p ∈ cs, ∃ d, TabAt s₁.heap K d p.1 p.2 := fun p hp => by
    obtain ⟨i, hi, e⟩ := List.getElem_of_mem hp
    have hi2 : i < fn.length := by rw [← S.len]; exact hi
    exact ⟨fn[i], S.tabs i _ p (List.getElem?_eq_getElem hi2) (by rw [List.getElem?_eq_getElem hi, e])⟩
  obtain ⟨f, fd, hf, hb, hF⟩ := F w K mg s₁.heap cs G.T.g S
  have ef : f = fa' := by
    rw [hnm, hf] at hmg
    cases hmg; rfl
  subst ef
  refine LamX.law_callTs (cs := cs) KX G.T.g G.T.b G.T.builtins G.T.nolimit hg (fun p hp => (h2 p hp).elim fun d T => T.em) (fun p hp => (h2 p hp).elim fun d T => T.no) (fun p hp => (h2 p hp).elim fun d T => T.hd) G.T.bmain hobj hints (Nat.le_trans hlen hn2) hr (CX := L2.CX l.prog w) (sp := spM K mg (tbO cs (tgOf cs lts)) 1 M) (fun base b1 b2 b3 => hF base b1 b2 fun p hp => ⟨(b3 p hp).code, (b3 p hp).bm, (b3 p hp).gP⟩) hb (fun H hH hS => ?_) fun H e s' z => ?_
  rotate_left
  · obtain ⟨_, _, _, _, _, _, _, _, _, _, _, _, z⟩ := z
    exact z
  obtain ⟨s', hs'⟩ := hlaw ns hlen hbits
  refine ⟨fun _ => False, [], [], [pInts ns], rfl, ⟨fun P hP => ?_, fun p z => z.elim, List.nodup_nil, (fun p z => by cases z), (fun p z => fun y => y), (fun i j o o' p z => by simp at z), rfl, rfl, (fun i p o z => by simp at z), (fun i v z => by simp at z), fun i o z => by simp at z⟩, ?_, ?_⟩
  · obtain ⟨p, hp, e⟩ := List.mem_map.mp hP
    rw [← e]
    exact ⟨#[], hH p hp, by trivial, fun q _ pos cv hc => by have z : codeAmong pos [] = some cv := hc; simp [codeAmong] at z⟩
  · refine RFs.cons ?_ RFs.nil
    unfold pInts
    refine rf_lst (ws := ns.map V.int) ?_ (RFs.ints ns)
    have nM : ¬ Mt (fun _ => False) [] [] [] a := fun z => by
      rcases z with z | z | ⟨i, o, z, _⟩
      · cases z
      · exact z
      · simp at z
    rcases hS with h | ⟨o', its, nn, e1, e2, e3, e4, e5, e6⟩
    · exact .inl ⟨h, nM⟩
    · have := KX a o' e1
      rw [hobj] at this
      cases this
      cases e4
      exact .inr ⟨_, _, e1, e5, e6⟩
  · rw [hs']
    intro W' H' w' _ _ rf
    exact RV.bl (.inl rf)
end Mp
end
section
set_option maxRecDepth 100000
set_option maxHeartbeats 1000000
namespace Mp
open PySem PySem.Spec PyProof.Rows L2 RT
section
variable {prog : Program} {w : World} {A : Around} {s : Shared}
theorem list_init_rev {R : Result → Shared → Prop} {it l S : Addr} {items : Array Value} (hh : A.handled = none) (hit : s.heap.IsRevIter it l ((items.size : Int) - 1)) (hl : s.heap.IsList l items) (hne : l ≠ it) (hn : items.size ≤ sizeLine) (hSi : S ≠ it) (hSl : S ≠ l)
    (hS : s.heap.get? S = some { cls := .type "list", data := .seq #[] })
    (hR : ∀ s' acc' c', Moved [S, it] (fun a b => b = a) s s' → s'.heap.get? S = some { cls := .type "list", dict := none, data := .seq acc' c', slots := #[] } → ItemsOf (fun i v => items[items.size - 1 - i]? = some v) acc' items.size → R (.ok (.ret .none)) s') :
    wpAny (model prog w) A.in1 (Builtin.«list.__init__» ⟨[.ref S, .ref it], []⟩)
      (fun fin s' => match fin with | .done f => R (.ok f) s' | .again c' => c'.quiet = true ∧ codeAny (model prog w) A c' R s') (fun e s' => R (.error e) s') s := by
  have W := (Walks.listRev (prog := prog) (w := w) (A := A.in1) hh it l hne items).toS
  have hSf : S ∉ [it, l] := by simp only [List.mem_cons, List.not_mem_nil, or_false, not_or]; exact ⟨hSi, hSl⟩
  show wpAny _ A.in1 (do let old ← Builtin.List.listItems (.ref S); Builtin.List.listUpdate (.ref S) (fun _ => #[]); letGo old.toList.reverse; Builtin.List.listExtendWith (.ref S) (.ref it) .none) _ _ s
  refine wpAny_bind ?_
  unfold Builtin.List.listItems
  refine wpAny_bind (wpAny_seqItems hS rfl (wpAny_pure ?_))
  show wpAny _ A.in1 (updateSeq S (fun _ => #[]) >>= fun _ => letGo (#[] : Array Value).toList.reverse >>= fun _ => Builtin.List.listExtendWith (.ref S) (.ref it) .none) _ _ s
  refine wpAny_bind (wpAny_updateSeq hS rfl ?_)
  have hS₂ := Heap.get?_update_self (Obj.mapSeq (fun _ => (#[] : Array Value))) hS rfl
  have oth : ∀ b o, b ≠ S → s.heap.get? b = some o → (s.heap.update S (Obj.mapSeq (fun _ => (#[] : Array Value)))).get? b = some o :=
    fun b o hb e => (Heap.get?_update_other _ _ (Ne.symm hb)).trans e
  refine wpAny_bind (wpAny_letGo ?_)
  have hit1 : (s.heap.update S (Obj.mapSeq (fun _ => (#[] : Array Value)))).IsRevIter it l ((items.size : Int) - 1) := hit.at fun o e => oth it o (Ne.symm hSi) e
  have hl1 : (s.heap.update S (Obj.mapSeq (fun _ => (#[] : Array Value)))).IsList l items := by
    obtain ⟨o, ho, r⟩ := hl
    exact ⟨o, oth l o (Ne.symm hSl) ho, r⟩
  have hT : ({ s with heap := s.heap.update S (Obj.mapSeq (fun _ => (#[] : Array Value))) } : Shared).TypeIs (.ref it) "list_reverseiterator" := Heap.IsRevIter.typeIs (s := { s with heap := s.heap.update S (Obj.mapSeq (fun _ => (#[] : Array Value))) }) hit1
  have h1 : Builtin.List.listSameRef (.ref S) (.ref it) = false := by simp [Builtin.List.listSameRef, hSi]
  unfold Builtin.List.listExtendWith
  refine wpAny_bind (wpAny_typeOf hT ?_)
  rw [if_neg (by rw [h1]; decide)]
  refine wpAny_bind (wpAny_pyIter_revIter (s := { s with heap := s.heap.update S (Obj.mapSeq (fun _ => (#[] : Array Value))) }) hit1 ?_)
  refine wpAny_bind (wpAny_holding ?_)
  unfold Builtin.List.listLengthHint
  refine wpAny_bind (wpAny_specialOf hT nolen_lri ?_)
  show wpAny _ A.in1 (specialOf (Value.ref it) (Str.ofString "__length_hint__") >>= _) _ _ _
  refine wpAny_bind (wpAny_specialOf hT hint_lri ?_)
  generalize hid : ("list_reverseiterator.__length_hint__" : String) = id0
  wp_delta
  rw [show splitId id0 = some ("list_reverseiterator", "__length_hint__") from by subst hid; decide +kernel]
  subst hid
  refine wpAny_bind (wpAny_isInstance (b := true) hT (by rw [isSubtype_type]; kernel_rfl) ?_)
  refine wpAny_pure ?_
  rw [if_neg (by decide)]
  have e0 : ((items.size : Nat) : Int) - 1 - ((0 : Nat) : Int) = (items.size : Int) - 1 := by omega
  refine wpAny_pure ⟨plainId_quiet F.plain_extend_loop _, codeAny_extend_loopS W hn _ hSf _ items.size 0 _ _ _ rfl (Nat.zero_le _) ⟨Nat.zero_le _, by rw [e0]; exact hit1, hl1⟩ hS₂ (ItemsOf.nil _) fun s' acc' c' hm hS' hacc => ?_⟩
  exact hR s' acc' c' ⟨fun b o hb e => hm.heap b o hb (oth b o (fun z => hb (by rw [z]; exact List.mem_cons_self)) e), hm.gens, hm.drawn, hm.os, hm.toks⟩ hS' hacc
theorem call_list_rev {E : Value → Shared → Prop} {it l : Addr} {items : Array Value} {Q : Value → Shared → Prop} (hh : A.handled = none) (hit : s.heap.IsRevIter it l ((items.size : Int) - 1)) (hl : s.heap.IsList l items) (hne : l ≠ it) (hn : items.size ≤ sizeLine)
    (hQ : ∀ (h' : Heap) (tk : Nat) (acc : Array Value) (c' : Nat), (∀ b o, b ≠ it → s.heap.get? b = some o → h'.get? b = some o) → h'.get? s.heap.objs.size = some { cls := .type "list", data := .seq acc c' } → ItemsOf (fun i v => items[items.size - 1 - i]? = some v) acc items.size →
      Q (.ref s.heap.objs.size) { s with heap := h', toks := tk }) :
    wpAny (model prog w) A (call (.type "list") [.ref it]) Q E s := by
  obtain ⟨oi, hoi, _⟩ := id hit
  obtain ⟨ol, hol, _⟩ := id hl
  refine callType_codes (Q₁ := fun obj s₁ => obj = .ref s.heap.objs.size ∧ s₁ = { s with heap := s.heap.push { cls := .type "list", data := .seq #[] } }) F.called_list (F.typeCall_list_1 _) F.entry_list_init
    (code_list_new _ ⟨rfl, rfl⟩) fun obj s₁ h₁ => ?_
  obtain ⟨rfl, rfl⟩ := h₁
  have hS : (s.heap.push { cls := .type "list", data := .seq #[] }).get? s.heap.objs.size = some { cls := .type "list", data := .seq #[] } := Heap.get?_push_size _ rfl
  refine ⟨⟨_, hS, rfl⟩, F.args_list_init_2 _ _, ?_⟩
  refine list_init_rev (s := { s with heap := s.heap.push { cls := .type "list", data := .seq #[] } }) (A := A.in1) hh (hit.at fun o e => Heap.get?_push_of_some _ e) (hl.push _) hne hn (Nat.ne_of_gt (Heap.lt_size hoi)) (Nat.ne_of_gt (Heap.lt_size hol)) hS fun s' acc' c' hm hS' hacc => ?_
  refine ⟨rfl, ?_⟩
  have e : s' = { s with heap := s'.heap, toks := s'.toks } := by
    obtain ⟨_, hg, hd, ho, _⟩ := hm
    obtain ⟨h0, g0, d0, t0, o0⟩ := s'
    cases hg; cases hd; cases ho; rfl
  rw [e]
  refine hQ s'.heap s'.toks acc' c' (fun b o hb e2 => hm.heap b o (fun z => ?_) (Heap.get?_push_of_some _ e2)) hS' hacc
  rcases List.mem_cons.mp z with z | z
  · rw [z] at e2; exact absurd (Heap.lt_size e2) (Nat.lt_irrefl _)
  · exact hb (List.mem_singleton.mp z)
end
section
variable {X : Cx}
def tLstRev (K : PySem.W.Frag) (te : TE) : TE := fun σ H Q => te σ H fun v H1 => ∃ (a : Addr) (xs : List V), v = .ref a ∧ SqL K H1 a xs ∧ ∀ q, H1 q = none → Q (.ref q) (upd H1 q (.lst xs.reverse))
theorem pe_lstRev {e : Expr} {te : TE} {p p2 pos pos2 : Pos} (hc : X.calm = true) (hg : Gl X "list") (hm : X.mg "list" = none) (hg2 : Gl X "reversed") (hm2 : X.mg "reversed" = none) (he : PE X e te)
    (hs : starEach [e] X.env = (false, eval e X.env) :: starEach [] X.env := by rfl)
    (hs2 : starEach [.Call (.Name "reversed" p2) [e] [] pos2] X.env = (false, eval (.Call (.Name "reversed" p2) [e] [] pos2) X.env) :: starEach [] X.env := by rfl) :
    PE X (.Call (.Name "list" p) [.Call (.Name "reversed" p2) [e] [] pos2] [] pos) (tLstRev X.K te) := by
  refine ⟨fun pins s σ H Q I h => ?_⟩
  refine Call_ (ld_blt I hg hm boot_list (PyProof.Rows.callWith_type1 (args_cons (Call_ (ld_blt I hg2 hm2 PyProof.Rows.boot_reversed (PyProof.Rows.callWith_type1 (args_cons (thn (he.run pins s σ H _ I h) fun u s1 ⟨v, H1, I1, r1, q1⟩ => args_nil ?_) hs) hs rfl))) hs2) hs2 rfl))
  obtain ⟨a, xs, ev, hq, q⟩ := q1
  subst ev
  obtain rfl : u = Value.ref a := r1
  obtain ⟨its, rv, p', hz⟩ := I1.list hq
  refine call_reversed_list p'.isList (args_nil ?_)
  have k0 : ∀ b o, s1.heap.get? b = some o → (s1.heap.push (revObj a ((its.toArray.size : Int) - 1))).get? b = some o := fun b o e => Heap.get?_push_of_some _ e
  have I2 : Inv X pins σ H1 { s1 with heap := s1.heap.push (revObj a ((its.toArray.size : Int) - 1)) } := I1.kept (t' := s1.toks) k0
  obtain ⟨f0, f1, f2, f3, f4, f5⟩ := I1.fpOk (H' := H1) (b := s1.heap.objs.size) (Nat.le_refl _) (I1.hok.fresh (Nat.le_refl _))
  have hl := p'.isList
  obtain ⟨ol, hol, _⟩ := id hl
  have hne : a ≠ s1.heap.objs.size := Nat.ne_of_lt (Heap.lt_size hol)
  have hn : its.toArray.size ≤ sizeLine := by rw [List.size_toArray, ← rv.length]; exact hz
  refine call_list_rev (s := { s1 with heap := s1.heap.push (revObj a ((its.toArray.size : Int) - 1)) }) (I1.ok.hd hc) ⟨_, Heap.get?_push_size _ rfl, rfl, rfl⟩ (hl.push _) hne hn fun h' tk acc c' hk hS hi => ?_
  generalize hh2 : s1.heap.push (revObj a ((its.toArray.size : Int) - 1)) = h2 at *
  have fr : H1 h2.objs.size = none := I2.hok.fresh (Nat.le_refl _)
  have ob : ObjOk X.prog X.w (upd H1 h2.objs.size (.lst xs.reverse)) h' h2.objs.size (.lst xs.reverse) :=
    ⟨by rw [List.length_reverse]; exact hz, acc.toList, c', vals_rev rv hi, by rw [Array.toArray_toList]; exact hS⟩
  have nS : ∀ b o, h2.get? b = some o → b ≠ h2.objs.size := fun b o e => Nat.ne_of_lt (Heap.lt_size e)
  have nH : ∀ b u, H1 b = some u → b ≠ h2.objs.size := fun b u e z => by rw [z, fr] at e; cases e
  have nI : ∀ b u, H1 b = some u → b ≠ s1.heap.objs.size := fun b u e z => by rw [z, f0] at e; cases e
  refine ⟨.ref h2.objs.size, upd H1 h2.objs.size (.lst xs.reverse), ?_, rfl, q _ fr⟩
  refine I2.step (g' := s1.gens) (d' := s1.drawn) (t' := tk) (ch := [s1.heap.objs.size]) (fun b hb => ?_) (fun b o _ _ hc e _ => hk b o (fun z => hc (by simp [z])) e) (fun b o _ _ hc e _ => ⟨o.slots, hk b o (fun z => hc (by simp [z])) e⟩) (fun b o _ e n => by rw [upd_ne (nS b o e)]; exact n)
    (fun b o hc e => ⟨o, hk b o (fun z => hc (by simp [z])) e⟩) (fun b xs e => by rw [upd_ne (nH b _ e)]; exact e) (fun b o u e => by rw [upd_ne (nH b _ e)]; exact e) (fun b ps e => ⟨#[], by rw [upd_ne (nH b _ e), e]; simp⟩) (fun m hm => ?_) (fun b u e => ?_) I1.bare
  · have e : b = s1.heap.objs.size := by simpa using hb
    subst e
    exact ⟨f3, f1, f4, f5⟩
  · obtain ⟨o, es, ep, ho, r⟩ := hm
    exact ⟨o, es, ep, hk _ o (Ne.symm f1) ho, r⟩
  · by_cases hb : b = h2.objs.size
    · subst hb
      rw [upd_same] at e; cases e
      exact ob
    · rw [upd_ne hb] at e
      refine (I2.hok b u e).stay (fun c v hc z => hk c v ?_ z) (fun c z => by rw [upd_ne (nH c _ z)]; exact z) fun c xs z => by rw [upd_ne (nH c _ z)]; exact z
      rcases hc with z | z
      · rw [z]; exact nI b u e
      · exact nI c _ z
end
def mLstRev (ma : EM) : EM := fun env st => bindR (ma env st) fun a s => match a with
  | .lst xs => .ok (.lst xs.reverse) s
  | _ => .bad
section
variable {X : Cx} {tb : Tbs} {Wx : WX} {a b : Expr} {ma mb : EM} {p p2 pos pos2 : Pos}
theorem e_listRev (hc : X.calm = true) (hg : Gl X "list") (hm : X.mg "list" = none) (hg2 : Gl X "reversed") (hm2 : X.mg "reversed" = none) (ha : EOk X tb Wx .R a ma) (na : starEach [a] X.env = (false, eval a X.env) :: starEach [] X.env := by rfl)
    (nn : starEach [.Call (.Name "reversed" p2) [a] [] pos2] X.env = (false, eval (.Call (.Name "reversed" p2) [a] [] pos2) X.env) :: starEach [] X.env := by rfl) :
    EOk X tb Wx .N (.Call (.Name "list" p) [.Call (.Name "reversed" p2) [a] [] pos2] [] pos) (mLstRev ma) :=
  PE_mono (pe_lstRev hc hg hm hg2 hm2 ha na nn) fun σ H Q ⟨Mx, W, env, st, rel, post⟩ => by
    refine ebindE rel post fun v s W1 H1 w1 a1 r1 post => ?_
    split at post
    · rename_i xs
      obtain ⟨q0, ws, rfl, h1, h2⟩ := RV.lst r1
      exact ⟨q0, ws, rfl, h1, fun q hq => post W1 _ _ (.new a1.rel hq noTbl_lst) (rm_newL a1.rel hq h2.reverse)⟩
    · exact post.elim
end
def intsOf : List PV → Option (List Int)
  | [] => some []
  | .int i :: r => (intsOf r).map (i :: ·)
  | _ :: _ => none
theorem intsOf_map : ∀ {xs : List PV} {ns : List Int}, intsOf xs = some ns → xs = ns.map PV.int
  | [], ns, h => by cases h; rfl
  | .int i :: r, ns, h => by
    unfold intsOf at h
    cases q : intsOf r with
    | none => rw [q] at h; cases h
    | some l => rw [q] at h; cases h; rw [intsOf_map q]; rfl
  | .non :: _, _, h => by cases h
  | .bl _ :: _, _, h => by cases h
  | .str _ :: _, _, h => by cases h
  | .tup _ :: _, _, h => by cases h
  | .lst _ :: _, _, h => by cases h
  | .ref _ :: _, _, h => by cases h
  | .fn _ :: _, _, h => by cases h
  | .dct _ _ :: _, _, h => by cases h
def bMax (s : Sto) : List PV → Option PV
  | [.int i, .int j] => some (.int (if j > i then j else i))
  | [.lst xs] => match intsOf xs with | some (n :: ns) => some (.int (ns.foldl max n)) | _ => none
  | _ => none
def bMin (s : Sto) : List PV → Option PV
  | [.int i, .int j] => some (.int (if j < i then j else i))
  | [.lst xs] => match intsOf xs with | some (n :: ns) => some (.int (ns.foldl min n)) | _ => none
  | _ => none
end Mp
end
section
set_option maxRecDepth 100000
namespace Mp
open PySem PySem.Spec PyProof.Rows L2 GxR
section
variable {k : Nat} {A : Around}
theorem u64_of (r : Room k A) : A.units + 64 < cLine := by have := r.un; omega
theorem u100_of (r : Room k A) : A.units + 100 < cLine := by have := r.un; omega
theorem dp_of (r : Room k A) : A.depth < recursionLimit := by have := r.dp; omega
end
def eqN (a : Option NameKind) (b : Option NameKind) : Bool := decide (a = b)
def scB (N P : List Str) (sc : Scope) : Bool := decide (sc.kind = .function) && (!sc.isCoroutine && (!sc.isGenerator && (decide N.Nodup && (decide (N.take P.length = P) && ((P.all fun x => eqN (sc.names.lookup x) (some .local) || eqN (sc.names.lookup x) (some .cell)) && sc.names.all fun y => !decide (y.2 = NameKind.free))))))
theorem sc_ok {N P : List Str} {sc : Scope} (h : scB N P sc = true) : FnScope N P sc := by
  unfold scB at h
  simp only [Bool.and_eq_true, decide_eq_true_eq, Bool.not_eq_true', List.all_eq_true, Bool.or_eq_true, eqN, decide_eq_false_iff_not] at h
  obtain ⟨h1, h2, h3, h4, h5, h6, h7⟩ := h
  exact ⟨h1, h2, h3, h4, h5, h6, h7⟩
def blkB (N : List Str) (sc scope : Scope) (own : List (Str × Nat)) : Bool := decide (scope.kind = .function) && ((scope.names.all fun y => eqN (scope.names.lookup y.1) (some y.2)) && ((own.all fun p => decide (N[p.2]? = some p.1)) &&
  ((scope.names.all fun y => !decide (y.2 = NameKind.free) || (eqN (sc.names.lookup y.1) (some .cell) || eqN (sc.names.lookup y.1) (some .free))) && scope.names.all fun y => !(decide (y.2 = NameKind.local) || decide (y.2 = NameKind.cell)) || (decide (y.1 ∈ own.map (·.1)) || !decide (y.1 ∈ N)))))
theorem blk_ok {N : List Str} {sc scope : Scope} {own : List (Str × Nat)} (h : blkB N sc scope own = true) : BlkOk N sc scope own := by
  unfold blkB at h
  simp only [Bool.and_eq_true, decide_eq_true_eq, Bool.not_eq_true', List.all_eq_true, Bool.or_eq_true, eqN, decide_eq_false_iff_not, Bool.or_eq_false_iff] at h
  obtain ⟨h1, h2, h3, h4, h5⟩ := h
  refine ⟨h1, h2, h3, fun y hy e => ?_, fun y hy e => ?_⟩
  · rcases h4 y hy with z | z
    · exact absurd e z
    · exact z
  · rcases h5 y hy with z | z
    · rcases e with e | e
      · exact absurd e z.1
      · exact absurd e z.2
    · exact z
def gnB (N : List Str) (sc scope : Scope) (own : List (Str × Nat)) : Bool := decide (scope.kind = .function) && (!scope.isCoroutine && ((scope.names.all fun y => !decide (y.2 = NameKind.cell)) && (eqN (scope.names.lookup (".0" : Str)) (some .local) && ((own.all fun p => decide (N[p.2]? = some p.1)) &&
  ((scope.names.all fun y => !decide (y.2 = NameKind.free) || (eqN (sc.names.lookup y.1) (some .cell) || eqN (sc.names.lookup y.1) (some .free))) && scope.names.all fun y => !decide (y.2 = NameKind.local) || (decide (y.1 ∈ own.map (·.1)) || !decide (y.1 ∈ N)))))))
theorem gn_ok {N : List Str} {sc scope : Scope} {own : List (Str × Nat)} (h : gnB N sc scope own = true) : GnOk N sc scope own := by
  unfold gnB at h
  simp only [Bool.and_eq_true, decide_eq_true_eq, Bool.not_eq_true', List.all_eq_true, Bool.or_eq_true, eqN, decide_eq_false_iff_not] at h
  obtain ⟨h1, h2, h3, h4, h5, h6, h7⟩ := h
  refine ⟨h1, h2, h3, h4, h5, fun y hy e => ?_, fun y hy e => ?_⟩
  · rcases h6 y hy with z | z
    · exact absurd e z
    · exact z
  · rcases h7 y hy with z | z
    · exact absurd e z
    · exact z
theorem fnAt_of {K : PySem.W.Frag} {h : Heap} {mg : Str → Option Value} {cs : List (Addr × Addr)} {tg : Addr → Option Str} {lt : Option Str} {d : He.DefD} {st : Stmt} {x : Str} (hd : ∃ fd, FunD K d.name d.qual d.params d.body d.scope (d.dvs K) (d.kws K) (He.fAd K d.at_) fd) (t : ∃ c P, TabAt h K d c P ∧ (c, P) ∈ cs ∧ tg P = lt)
    (g : mg x = some (.ref (He.ga K x))) (e1 : d.at_ = (x, none) := by rfl) (e2 : d.name = x := by rfl) (e3 : d.qual = x := by rfl) (e4 : d.params = defArgs st := by rfl) (e5 : d.body = defBody st := by rfl) (e6 : d.scope = defScope st := by rfl) (e7 : d.dfl = [] := by rfl) (e8 : d.kwd = [] := by rfl) :
    ∃ f fd c T, FnAt K mg cs tg lt x st f fd c T := by
  obtain ⟨fd, F⟩ := hd
  obtain ⟨c, P, T, m, tgE⟩ := t
  obtain ⟨at_, name, qual, params, body, scope, dfl, kwd⟩ := d
  dsimp only at e1 e2 e3 e4 e5 e6 e7 e8
  subst e1 e2 e3 e4 e5 e6 e7 e8
  refine ⟨_, fd, c, P, F, ?_, m, g, tgE⟩
  obtain ⟨oc, od, fd2, osl, lk, hc⟩ := T.fn
  obtain ⟨oc', od', dV, kV, doc, pm, an, cdv, ct, osl', e, lk', _⟩ := F.ex
  rw [lk] at lk'
  cases lk'
  exact hc
end Mp
end
section
set_option maxRecDepth 100000
set_option maxHeartbeats 1000000
namespace Mp
open PySem PySem.Spec PyProof.Rows L2 GxR
section
variable {X : Cx} {tb : Tbs} {Wx : WX} {e : Expr} {s1 : Stmt} {md : Md}
end
def tyN : PV → String
  | .non => "NoneType" | .bl _ => "bool" | .int _ => "int" | .str _ => "str" | .tup _ => "tuple" | .lst _ => "list" | .ref _ => "list" | .fn _ => "function" | .dct _ _ => "dict"
def isiB (T : String) (v : PV) : Bool := tyN v == T || (T == "int" && tyN v == "bool")
def isFn : PV → Bool | .fn _ => true | .dct _ _ => true | .ref _ => true | _ => false
def isiO (T : String) (v : PV) : Option PV := if isFn v then none else some (.bl (isiB T v))
def mIsi (T : String) (m : EM) : EM := fun env st => bindR (m env st) fun v s => optR (isiO T v) s
theorem kit_all {T : String} (hT : T ∈ ["int", "bool", "tuple", "list", "str"]) : ∀ a ∈ ["NoneType", "bool", "int", "str", "tuple", "list"], kitB a T = some (a == T || (T == "int" && a == "bool")) := by
  simp only [List.mem_cons, List.not_mem_nil, or_false] at hT
  rcases hT with rfl | rfl | rfl | rfl | rfl <;> decide +kernel
theorem tyX_of {K : PySem.W.Frag} {tb : Tbs} {Mx : Addr → Prop} {W : List Addr} {σ : L2.St} {H : Hp} {env : MEnv} {st : Sto} {v : PV} {w : V} (rel : Rel K tb Mx W σ H env st) (h : RV K (Mt Mx W env σ) W H v w) (nf : isFn v = false) : TyX K H w (.type (tyN v)) := by
  cases v with
  | fn x => cases nf
  | dct _ _ => cases nf
  | non => rw [h.non]; exact .base .non
  | bl b => rw [h.bl]; exact .base (.bl b)
  | int i => rw [h.int]; exact .base (.int i)
  | str s => rw [h.str]; exact .base (.str s)
  | tup xs =>
    obtain ⟨p, ws, rfl, h1, _⟩ := h.tup
    rcases h1 with (h1 | ⟨o, h1⟩) | ⟨o, its, n, h1, h2, _⟩
    · exact .base (.tup h1)
    · exact .fTuple h1
    · exact .kTuple h1 h2
  | lst xs =>
    obtain ⟨p, ws, rfl, h1, _⟩ := h.lst
    rcases h1 with (h1 | ⟨o, h1⟩) | ⟨o, its, n, h1, h2, _⟩
    · exact .base (.lst h1)
    · exact .base (.frz h1)
    · exact .kList h1 h2
  | ref n => cases nf
section
variable {X : Cx} {tb : Tbs} {Wx : WX} {a : Expr} {m : EM} {p p2 pos : Pos} {T : Str} {Ts : String}
theorem e_isi (hT : Ts ∈ ["int", "bool", "tuple", "list", "str"]) (hg : Gl X "isinstance") (hm : X.mg "isinstance" = none) (hb : bootBuiltins "isinstance" = some (.builtin "isinstance")) (hgT : Gl X T) (hmT : X.mg T = none) (hbT : bootBuiltins T = some (.type Ts)) (ha : EOk X tb Wx .R a m)
    (hn : T ≠ "__name__" := by decide) (hd : (T == ("__debug__" : Str)) = false := by decide)
    (he : starEach [a, .Name T p2] X.env = (false, eval a X.env) :: starEach [.Name T p2] X.env := by rfl) (he2 : starEach [.Name T p2] X.env = (false, eval (.Name T p2) X.env) :: starEach [] X.env := by rfl)
    (hpl : (backTo pos (starEach [.Name T p2] X.env)).any (·.1) = false := by rfl) :
    EOk X tb Wx .F (.Call (.Name "isinstance" p) [a, .Name T p2] [] pos) (mIsi Ts m) :=
  PE_mono (pe_callB call_isi hg hm hb (pa_cons ha (pa_cons (pe_bltn hgT hmT hbT (v := .ty Ts) rfl hn hd) pa_nil he2) he) (by decide) (by decide) he hpl) fun σ H Q ⟨Mx, W, env, st, rel, post⟩ => by
    refine ebindE rel post fun v s W1 H1 w1 a1 r1 post => ?_
    unfold isiO at post
    cases q : isFn v with
    | true => rw [q] at post; exact post.elim
    | false =>
      rw [q] at post
      refine ⟨w1, .ty Ts, _, _, isiB Ts v, rfl, .ty Ts, tyX_of a1.rel r1 q, ?_, post W1 H1 _ (.refl a1.rel) rm_bl⟩
      refine kit_ty ?_
      have := kit_all hT (tyN v) (by cases v <;> first | (cases q; done) | simp [tyN])
      exact this
end
mutual
def cnV (K : PySem.W.Frag) : PV → Value → Bool
  | .non, .none => true
  | .bl b, .bool c => b == c
  | .int i, .int j _ => decide (i = j)
  | .str x, .str y _ => decide (x = y)
  | .tup xs, .ref a => (match K.lookup a with
    | some ⟨.type c, _, .seq its _, _⟩ => decide (c = "tuple") && (decide (its.size ≤ 1000) && cnVs K xs its.toList)
    | _ => false)
  | _, _ => false
def cnVs (K : PySem.W.Frag) : List PV → List Value → Bool
  | [], [] => true
  | x :: xs, u :: us => cnV K x u && cnVs K xs us
  | _, _ => false
end
mutual
theorem cnV_ok {K : PySem.W.Frag} : ∀ (v : PV) (u : Value), cnV K v u = true → ∃ w, RelV w u ∧ ∀ M W H, RF K M W H v w
  | .non, u, h => by cases u <;> first | exact ⟨.non, rfl, fun _ _ _ => rf_non⟩ | (simp [cnV] at h)
  | .bl b, u, h => by
    cases u with
    | bool c => simp [cnV] at h; exact ⟨.bl c, rfl, fun _ _ _ => h ▸ rf_bl⟩
    | _ => simp [cnV] at h
  | .int i, u, h => by
    cases u with
    | int j t => simp [cnV] at h; exact ⟨.int j, ⟨t, rfl⟩, fun _ _ _ => h ▸ rf_int⟩
    | _ => simp [cnV] at h
  | .str x, u, h => by
    cases u with
    | str y t => simp [cnV] at h; exact ⟨.str y, ⟨t, rfl⟩, fun _ _ _ => h ▸ rf_str⟩
    | _ => simp [cnV] at h
  | .tup xs, u, h => by
    cases u with
    | ref a =>
      unfold cnV at h
      split at h
      · rename_i c od its n sl hk
        obtain ⟨h1, h2⟩ := Bool.and_eq_true_iff.mp h
        obtain ⟨h3, h4⟩ := Bool.and_eq_true_iff.mp h2
        have h1 := of_decide_eq_true h1
        subst h1
        obtain ⟨ws, r, q⟩ := cnVs_ok xs its.toList h4
        refine ⟨.ref a, rfl, fun M W H => rf_tup (.inr ⟨_, its, n, hk, rfl, rfl, small1000' (of_decide_eq_true h3), r⟩) (q M W H)⟩
      · cases h
    | _ => simp [cnV] at h
  | .lst xs, u, h => by simp [cnV] at h
  | .ref n, u, h => by simp [cnV] at h
  | .fn n, u, h => by simp [cnV] at h
  | .dct _ _, u, h => by simp [cnV] at h
theorem cnVs_ok {K : PySem.W.Frag} : ∀ (vs : List PV) (us : List Value), cnVs K vs us = true → ∃ ws, Vals ws us ∧ ∀ M W H, RFs K M W H vs ws
  | [], [], _ => ⟨[], .nil, fun _ _ _ => RFs.nil⟩
  | [], _ :: _, h => by simp [cnVs] at h
  | _ :: _, [], h => by simp [cnVs] at h
  | v :: vs, u :: us, h => by
    unfold cnVs at h
    obtain ⟨h1, h2⟩ := Bool.and_eq_true_iff.mp h
    obtain ⟨w, r, q⟩ := cnV_ok v u h1
    obtain ⟨ws, rs, qs⟩ := cnVs_ok vs us h2
    exact ⟨w :: ws, .cons r rs, fun M W H => RFs.cons (q M W H) (qs M W H)⟩
end
theorem e_glo {X : Cx} {tb : Tbs} {Wx : WX} {x : Str} {pos : Pos} {v : PV} (hg : Gl X x) (hm : ∃ u, X.mg x = some u ∧ cnV X.K v u = true) (hd : (x == ("__debug__" : Str)) = false := by decide) : EOk X tb Wx .F (.Name x pos) (mC v) := by
  obtain ⟨u, e, h⟩ := hm
  obtain ⟨w, r, q⟩ := cnV_ok v u h
  exact PE_mono (pe_glob hg e r hd) fun σ H Q ⟨Mx, W, env, st, rel, post⟩ => post W H w (.refl rel) (q _ _ _)
def cnB (K : PySem.W.Frag) (c : Str × PV) : Bool := match PySem.W.nsIn K mainGlobals c.1 with
  | some (some u) => cnV K c.2 u
  | _ => false
theorem con_ok {K : PySem.W.Frag} {h : Heap} {mg : Str → Option Value} {x : Str} {v : PV} (X : K.In h) (G : h.Ns mainGlobals mg) (c : cnB K (x, v) = true) : ∃ u, mg x = some u ∧ cnV K v u = true := by
  unfold cnB at c
  split at c
  · rename_i u e
    exact ⟨u, PySem.W.mg_of X G e, c⟩
  · cases c
section
variable {X : Cx} {tb : Tbs} {Wx : WX} {m : VM} {s1 : Stmt}
end
end Mp
end
section
set_option maxRecDepth 100000
set_option maxHeartbeats 1000000
namespace Mp
open PySem PySem.Spec PyProof.Rows L2
section
variable {K : PySem.W.Frag} {mg : Str → Option Value} {tb : Tbs} {Mx : Addr → Prop} {W W' W1 : List Addr} {σ : L2.St} {H H' H1 : Hp} {env : MEnv} {st st' : Sto} {D : Addr}
structure LcI (K : PySem.W.Frag) (tb : Tbs) (Mx : Addr → Prop) (D : Addr) (W1 : List Addr) (H1 : Hp) (σ : L2.St) (env : MEnv) (W' : List Addr) (H' : Hp) (st' : Sto) (acc : List PV) : Prop where
  rel : Rel K tb (fun b => Mx b ∨ b = D) W' σ H' env st'
  kb : KB W1 H1 No W' H' No
  acc : ∃ wacc, H' D = some (.lst wacc) ∧ RFs K (Mt (fun b => Mx b ∨ b = D) W' env σ) W' H' acc wacc
theorem LcI.stp {env1 : MEnv} {σ1 : L2.St} {W2 : List Addr} {H2 : Hp} {s2 : Sto} {acc : List PV} (l : LcI K tb Mx D W1 H1 σ env W' H' st' acc) (a : Stp K tb (fun b => Mx b ∨ b = D) env σ W' H' W2 H2 s2) : LcI K tb Mx D W1 H1 σ env W2 H2 s2 acc := by
  obtain ⟨wacc, h1, h2⟩ := l.acc
  have nD : D ∉ W' := fun z => (l.rel.wo D z).1 (.inr rfl)
  exact ⟨a.rel, l.kb.trans a.kb, wacc, a.kp D _ h1 nD noTbl_lst, RFs.grow a.grow _ h2⟩
theorem LcI.turn {env1 : MEnv} {σ1 : L2.St} {acc : List PV} (l : LcI K tb Mx D W1 H1 σ env W' H' st' acc) (r : Rel K tb (fun b => Mx b ∨ b = D) W' σ1 H' env1 st') (om : ∀ p, Om env1 σ1 p → Om env σ p) : LcI K tb Mx D W1 H1 σ1 env1 W' H' st' acc := by
  obtain ⟨wacc, h1, h2⟩ := l.acc
  refine ⟨r, l.kb, wacc, h1, RFs.grow (Grow.less fun b z => ?_) _ h2⟩
  rcases z with z | z | z
  · exact .inl z
  · exact .inr (.inl z)
  · exact .inr (.inr (om b z))
theorem LcI.push {acc : List PV} {v : PV} {w : V} (hD : H1 D = none) (l : LcI K tb Mx D W1 H1 σ env W' H' st' acc) (rf : RF K (Mt (fun b => Mx b ∨ b = D) W' env σ) W' H' v w) :
    ∃ wacc, H' D = some (.lst wacc) ∧ wacc.length = acc.length ∧ LcI K tb Mx D W1 H1 σ env W' (upd H' D (.lst (wacc ++ [w]))) st' (acc ++ [v]) := by
  obtain ⟨wacc, h1, h2⟩ := l.acc
  have gD : Grow (Mt (fun b => Mx b ∨ b = D) W' env σ) (Mt (fun b => Mx b ∨ b = D) W' env σ) W' W' H' (upd H' D (.lst (wacc ++ [w]))) :=
    ⟨fun b u h n _ => by rw [upd_ne (fun z => n (.inr (.inl (.inr z))))]; exact h, fun b _ n => n, List.prefix_refl _⟩
  refine ⟨wacc, h1, h2.len, l.rel.putMx (.inr rfl) h1, ⟨fun b o h n1 n2 t => by rw [upd_ne (fun z => by rw [z, hD] at h; cases h)]; exact l.kb.kp b o h n1 n2 t, fun b h => ?_, l.kb.pre, l.kb.fr, fun _ h => h.elim⟩, _, upd_same, RFs.grow gD _ (h2.append (RFs.cons rf RFs.nil))⟩
  by_cases q : b = D
  · rw [q, upd_same]; simp
  · rw [upd_ne q]; exact l.kb.nt b h
end
section
variable {K : PySem.W.Frag} {mg : Str → Option Value} {tb : Tbs} {Wx : WX} {mi mi1 : AM} {g g1 : PV → MEnv → Option MEnv} {tc tc1 : TM} {me : EM} {is is1 vs vs1 : List Nat}
theorem Om.wipe1 {env e1 : MEnv} {σ σ2 : L2.St} {is vs : List Nat} (hsub : ∀ j ∈ is, j ∈ vs) (c2 : Chg is (killE vs env) (wipe σ vs) e1 σ2) : ∀ p, Om (killE vs env) (wipe σ vs) p → Om e1 σ2 p := fun p ⟨j, o, h1, h2⟩ => by
  have hj : j ∉ is := fun z => absurd (killE_un vs env j _ (hsub j z) h1) (fun y => nomatch y)
  exact ⟨j, o, (c2.at_ j hj).1.trans h1, (c2.at_ j hj).2.trans h2⟩
end
section
variable {X : Cx} {tb : Tbs} {Wx : WX} {elt tg iter tg1 iter1 : Expr} {ifs ifs1 : List Expr} {scope : Scope} {own : List (Str × Nat)} {pos : Pos} {mi mi1 : AM} {g g1 : PV → MEnv → Option MEnv} {tc tc1 : TM} {me : EM} {is is1 vs1 : List Nat}
end
end Mp
end
section
set_option maxRecDepth 100000
set_option maxHeartbeats 1000000
namespace Mp
open PySem PySem.Spec PyProof.Rows L2 GxR
def VEs : List Value := [.type "ValueError", .type "Exception", .type "BaseException", .type "object"]
structure XcF (K : PySem.W.Frag) (mg : Str → Option Value) (x : Str) (C : Addr) : Prop where
  gl : mg x = some (.ref C)
  ex : PySem.W.excIn K C VEs "ValueError.__new__" = true
  kp : PySem.W.keepIn K (.ref C) = true
  sb : PySem.W.subIn K (.ref C) (.type "BaseException") = some true
  ty : PySem.W.typeIn K (.ref C) = some (.type "type")
def isTyp : Option Value → Bool
  | some (.type t) => decide (t = "type")
  | _ => false
def isTru : Option Bool → Bool
  | some true => true
  | _ => false
def isFls : Option Bool → Bool
  | some false => true
  | _ => false
theorem isTyp_ok {o : Option Value} (h : isTyp o = true) : o = some (.type "type") := by
  unfold isTyp at h
  split at h
  · rw [of_decide_eq_true h]
  · cases h
theorem isTru_ok {o : Option Bool} (h : isTru o = true) : o = some true := by
  unfold isTru at h; split at h
  · rfl
  · cases h
theorem isFls_ok {o : Option Bool} (h : isFls o = true) : o = some false := by
  unfold isFls at h; split at h
  · rfl
  · cases h
def clsAt (K : PySem.W.Frag) (x : Str) : Option Addr := match PySem.W.nsIn K mainGlobals x with
  | some (some (.ref C)) => some C
  | _ => none
theorem clsAt_ok {K : PySem.W.Frag} {h : Heap} {mg : Str → Option Value} {x : Str} {C : Addr} (X : K.In h) (G : h.Ns mainGlobals mg) (e : clsAt K x = some C) : mg x = some (.ref C) := by
  unfold clsAt at e
  split at e
  · rename_i C' q; cases e; exact PySem.W.mg_of X G q
  · cases e
def xcB (K : PySem.W.Frag) (x : Str) : Bool := match clsAt K x with
  | some C => PySem.W.excIn K C VEs "ValueError.__new__" && (PySem.W.keepIn K (.ref C) && (isTru (PySem.W.subIn K (.ref C) (.type "BaseException")) && isTyp (PySem.W.typeIn K (.ref C))))
  | none => false
theorem xc_ok {K : PySem.W.Frag} {h : Heap} {mg : Str → Option Value} {x : Str} (X : K.In h) (G : h.Ns mainGlobals mg) (c : xcB K x = true) : ∃ C, XcF K mg x C := by
  unfold xcB at c
  split at c
  · rename_i C e
    simp only [Bool.and_eq_true] at c
    exact ⟨C, clsAt_ok X G e, c.1, c.2.1, isTru_ok c.2.2.1, isTyp_ok c.2.2.2⟩
  · cases c
def xmB (K : PySem.W.Frag) (p : Str × Str) : Bool := match clsAt K p.1, clsAt K p.2 with
  | some C, some D => if p.1 = p.2 then isTru (PySem.W.exmOne K (.ref C) (.ref D)) else isFls (PySem.W.exmOne K (.ref C) (.ref D))
  | _, _ => false
def XmF (K : PySem.W.Frag) (mg : Str → Option Value) (x h : Str) : Prop := ∃ C D, mg x = some (.ref C) ∧ mg h = some (.ref D) ∧ PySem.W.exmOne K (.ref C) (.ref D) = some (decide (x = h))
theorem xm_ok {K : PySem.W.Frag} {h : Heap} {mg : Str → Option Value} {x y : Str} (X : K.In h) (G : h.Ns mainGlobals mg) (c : xmB K (x, y) = true) : XmF K mg x y := by
  unfold xmB at c
  split at c
  · rename_i C D e1 e2
    refine ⟨C, D, clsAt_ok X G e1, clsAt_ok X G e2, ?_⟩
    split at c
    · rename_i e; rw [isTru_ok c, decide_eq_true e]
    · rename_i e; rw [isFls_ok c, decide_eq_false e]
  · cases c
def sRaise (x : Str) : SM := fun _ st => .ex ⟨x, .non⟩ st
theorem s_raise {X : Cx} {tb : Tbs} {Wx : WX} {x m : Str} {j : Nat} {p p2 pos pos' : Pos} (F : ∃ C, XcF X.K X.mg x C) (cm : X.calm = true) (tk : Takes X Wx) (hg : Gl X x) (hdb : (x == ("__debug__" : Str)) = false := by decide) :
    SOk X tb Wx (.Raise (some (.Call (.Name x p) [.Constant (.str m) j p2] [] pos)) none pos') (sRaise x) := by
  obtain ⟨C, F⟩ := F
  refine PS_mono (ps_raise cm tk (pmk_own PySem.F.excBase_ValueError F.ex F.gl F.kp (raises_own F.sb F.ty) hg hdb)) fun D σ H ⟨Mx, W0, H0, O0, W, env, st, rel, kb, post⟩ => ?_
  exact post σ W H (.ref C) none rel.bare kb.none ⟨F.gl, .inl ⟨rfl, rfl⟩⟩
theorem Rel.tabd {K : PySem.W.Frag} {tb : Tbs} {Mx : Addr → Prop} {W : List Addr} {σ : L2.St} {H1 H2 : Hp} {env : MEnv} {st : Sto} {P : Addr} {ps ps' : Array Value} (r : Rel K tb Mx W σ H1 env st) (hp : H1 P = some (.tbl ps)) (hp' : H2 P = some (.tbl ps')) (hk : ∀ b, b ≠ P → H2 b = H1 b) (hT : TabOk tb.tg H2 P) : Stp K tb Mx env σ W H1 W H2 st := by
  have nP : ∀ b u, H1 b = some u → NoTbl u → b ≠ P := fun b u e n z => by rw [z, hp] at e; exact n ps (Option.some.inj e).symm
  have g : Grow (Mt Mx W env σ) (Mt Mx W env σ) W W H1 H2 := ⟨fun b u h _ n => by rw [hk b (nP b u h n)]; exact h, fun _ _ n => n, List.prefix_refl _⟩
  have ex : ∀ b, H1 b ≠ none → H2 b ≠ none := fun b h => by
    by_cases e : b = P
    · rw [e, hp']; simp
    · rw [hk b e]; exact h
  refine ⟨⟨fun Q hQ => ?_, fun b h => ex b (r.mx b h), r.nd, r.wo, r.om, r.inj, r.el, r.len, fun j q u h1 h2 => (r.sto j q u h1 h2).grow g fun x hx n => by rw [hk q (nP q x hx n)]; exact hx, fun j u h => ?_, fun j u h => ?_⟩,
    fun b u h _ n => by rw [hk b (nP b u h n)]; exact h, fun b h => ex b h, List.prefix_refl _, fun b h => .inl h⟩
  · by_cases e : Q = P
    · rw [e]; exact hT
    · obtain ⟨q, h1, h2, h3⟩ := r.tab Q hQ
      refine ⟨q, by rw [hk Q e]; exact h1, h2, fun n z pos cv hc => ?_⟩
      obtain ⟨c, e1, e2⟩ := h3 n z pos cv hc
      exact ⟨c, e1, by rw [hk c (nP c _ e2 (fun ps z => LamX.codeO_ne ps z))]; exact e2⟩
  · obtain ⟨x, e2, rf⟩ := r.pv j u h
    exact ⟨x, e2, RF.grow g _ rf⟩
  · obtain ⟨x, e2, rf⟩ := r.own j u h
    exact ⟨x, e2, rf.grow g fun y hy n => by rw [hk x (nP x y hy n)]; exact hy⟩
def LamSt (tg : Addr → Option Str) (P : Addr) (q : Str) (H H1 : Hp) : Prop := H1 = H ∨ ∃ (c' : Addr) (ps ps' : Array Value), H P = some (.tbl ps) ∧ H c' = none ∧ H1 = upd (upd H P (.tbl ps')) c' (LamX.CodeO c' q) ∧ TabOk tg H1 P
theorem LamSt.stp {K : PySem.W.Frag} {tb : Tbs} {Mx : Addr → Prop} {W : List Addr} {σ : L2.St} {H H1 : Hp} {env : MEnv} {st : Sto} {P : Addr} {q : Str} (l : LamSt tb.tg P q H H1) (r : Rel K tb Mx W σ H env st) : Stp K tb Mx env σ W H W H1 st := by
  rcases l with rfl | ⟨c', ps, ps', hP, hc, e, hT⟩
  · exact .refl r
  · have ne : P ≠ c' := fun z => by rw [z, hc] at hP; cases hP
    have s1 : Stp K tb Mx env σ W H W (upd H c' (LamX.CodeO c' q)) st := .new r hc fun ps z => LamX.codeO_ne ps z
    refine s1.trans (Rel.tabd (P := P) (ps := ps) (ps' := ps') s1.rel (by rw [upd_ne ne]; exact hP) (by rw [e, upd_ne ne, upd_same]) (fun b hb => ?_) hT)
    rw [e]
    by_cases z : b = c'
    · rw [z, upd_same, upd_same]
    · rw [upd_ne z, upd_ne z, upd_ne hb]
end Mp
end
section
set_option maxRecDepth 100000
set_option maxHeartbeats 2000000
namespace Mp
open PySem PySem.Spec PyProof.Rows L2 GxR LamX
section
variable {X : Cx} {pn : List (Addr × Obj)} {σ : L2.St} {H : Hp} {s : Shared}
end
end Mp
end
section
set_option maxRecDepth 100000
set_option maxHeartbeats 2000000
namespace Mp
open PySem PySem.Spec PyProof.Rows L2 GxR LamX
inductive HdT (mg : Str → Option Value) (sg : Scope) : List ExceptHandler → List (Value × V) → Prop
  | nil : HdT mg sg [] []
  | cons {x : Str} {c : Value} {v : V} {e : Expr} {np p pos' : Pos} {hds : List ExceptHandler} {l : List (Value × V)} (hg : sg.names.lookup x = some .globalImplicit) (hd : (x == ("__debug__" : Str)) = false) (hm : mg x = some c) (he : ∀ Y : Cx, PE Y e (tC v)) (r : HdT mg sg hds l) :
      HdT mg sg (.ExceptHandler (some (.Name x np)) none [.Return (some e) p] pos' :: hds) ((c, v) :: l)
def hdL (l : List (Value × V)) : List (Value × (Addr → Value → Option Addr → TS)) := l.map fun p => (p.1, fun _ _ _ => tRet (tC p.2))
theorem HdT.ok {Z : Cx} {hds : List ExceptHandler} {l : List (Value × V)} (h : HdT Z.mg Z.env.scope hds l) : HdsOk Z hds (hdL l) := by
  generalize e1 : Z.mg = mg at h
  generalize e2 : Z.env.scope = sg at h
  induction h with
  | nil => exact .nil
  | cons hg hd hm he r ih =>
    subst e1 e2
    exact .cons ⟨hg, hd, .inl hm⟩ (fun a oe cls d pn _ _ => pss_one (ps_ret (he _))) ih
def wT (K : PySem.W.Frag) (Q : VK) : List (Value × V) → Value → Hp → Prop
  | [], _, _ => False
  | (c, v) :: r, cls, H => ∃ b, PySem.W.exmOne K cls c = some b ∧ (b = true → Q v H) ∧ (b = false → wT K Q r cls H)
section
variable {X : Cx} {Ng : List Str} {x a q : Str} {sg : Scope} {g : Addr} {cdg : Value} {hd : ExceptHandler} {hds : List ExceptHandler} {l : List (Value × V)} {p1 p2 p3 p8 p9 : Pos}
end
def cV : PV → Option V
  | .non => some .non
  | .bl b => some (.bl b)
  | .int i => some (.int i)
  | .str s => some (.str s)
  | _ => none
structure HsT (mg : Str → Option Value) (hs : List (Str × PV)) (l : List (Value × V)) : Prop where
  len : hs.length = l.length
  at_ : ∀ (i : Nat) (p : Str × PV) (u : Value × V), hs[i]? = some p → l[i]? = some u → mg p.1 = some u.1 ∧ cV p.2 = some u.2
section
variable {X : Cx} {tb : Tbs} {Wx : WX} {x a : Str} {g c P : Addr} {k : Nat} {pg : Arguments} {bg : List Stmt} {sg : Scope} {fd : FuncData} {Ng : List Str} {params : Arguments} {body : Expr} {scope : Scope} {p lpos pos : Pos} {m : EM} {hs : List (Str × PV)} {l : List (Value × V)} {df : PV} {dfV : V} {cl : List Str} {rt : Bool}
end
end Mp
namespace Mp
open PySem PySem.Spec PyProof.Rows L2 GxR LamX
theorem HsT.nil {mg : Str → Option Value} : HsT mg [] [] := ⟨rfl, fun i p u h => by simp at h⟩
theorem HsT.cons {mg : Str → Option Value} {h : Str} {v : PV} {c : Value} {w : V} {hs : List (Str × PV)} {l : List (Value × V)} (e1 : mg h = some c) (e2 : cV v = some w) (r : HsT mg hs l) : HsT mg ((h, v) :: hs) ((c, w) :: l) :=
  ⟨by simp [r.len], fun i p u h1 h2 => by
    cases i with
    | zero => simp at h1 h2; subst h1 h2; exact ⟨e1, e2⟩
    | succ i => exact r.at_ i p u (by simpa using h1) (by simpa using h2)⟩
section
variable {X : Cx} {tb : Tbs} {Wx : WX} {x a : Str} {c P : Addr} {params : Arguments} {body : Expr} {scope : Scope} {p lpos pos : Pos} {m : EM} {hs : List (Str × PV)} {df : PV} {cl : List Str} {rt : Bool}
end
section
variable {X : Cx} {tb : Tbs} {Wx : WX} {hd : ExceptHandler} {hds : List ExceptHandler} {body : List Stmt} {mb : SM} {hs : List (Str × PV)} {l : List (Value × V)} {cl : List Str} {pos : Pos}
theorem DX.tr {k : Nat} {c P : Addr} {lt : Option Str} {W : WX} {pn : List (Addr × Obj)} {xe : Value → Shared → Prop} (D : DX X tb Wx k c P lt) (tk : Takes (X.tr pn xe) W) : DX (X.tr pn xe) tb W k c P lt := ⟨tk, D.cm, D.hr, D.cd, D.tab, D.mem⟩
end
end Mp
namespace Mp
open PySem PySem.Spec PyProof.Rows L2 GxR
end Mp
end
section
set_option maxRecDepth 100000
set_option maxHeartbeats 1000000
namespace Mp
open PySem PySem.Spec PyProof.Rows L2 GxR
def mRep (ma mb : EM) : EM := fun env st => bindR (ma env st) fun a s => bindR (mb env s) fun b s' => match a, b with
  | .lst xs, .int k => if xs.length * k.toNat ≤ 1000000 ∧ -1000000 ≤ k ∧ k ≤ 1000000 then .ok (.lst (List.replicate k.toNat xs).flatten) s' else .bad
  | _, _ => .bad
def mRepT (ma mb : EM) : EM := fun env st => bindR (ma env st) fun a s => bindR (mb env s) fun b s' => match a, b with
  | .tup xs, .int k => if xs ≠ [] ∧ xs.length ≤ 1000 ∧ 2 ≤ k ∧ k ≤ 1000 then .ok (.tup (List.replicate k.toNat xs).flatten) s' else .bad
  | _, _ => .bad
section
variable {X : Cx} {tb : Tbs} {Wx : WX} {a b : Expr} {ma mb : EM} {pos : Pos}
end
@[simp] theorem ev_rep {ma mb : EM} {env : MEnv} {st : Sto} : mRep ma mb env st = bindR (ma env st) fun a s => bindR (mb env s) fun b s' => match a, b with
  | .lst xs, .int k => if xs.length * k.toNat ≤ 1000000 ∧ -1000000 ≤ k ∧ k ≤ 1000000 then .ok (.lst (List.replicate k.toNat xs).flatten) s' else .bad
  | _, _ => .bad := rfl
@[simp] theorem ev_repT {ma mb : EM} {env : MEnv} {st : Sto} : mRepT ma mb env st = bindR (ma env st) fun a s => bindR (mb env s) fun b s' => match a, b with
  | .tup xs, .int k => if xs ≠ [] ∧ xs.length ≤ 1000 ∧ 2 ≤ k ∧ k ≤ 1000 then .ok (.tup (List.replicate k.toNat xs).flatten) s' else .bad
  | _, _ => .bad := rfl
end Mp
end
section
set_option maxRecDepth 100000
set_option maxHeartbeats 2000000
namespace Mp
open PySem PySem.Spec PyProof.Rows L2 GxR LamX
def isBI (o : Option (Option Value)) (s : String) : Bool := match o with
  | some (some (.builtin t)) => decide (t = s)
  | _ => false
def isNN (o : Option (Option Value)) : Bool := match o with
  | some none => true
  | _ => false
def excCB (K : PySem.W.Frag) (D : Addr) : Bool := isBI (PySem.W.findIn K (.ref D) "__getattribute__") "BaseException.__getattribute__" && (isNN (PySem.W.findIn K (.ref D) "__getattr__") && (isTru (PySem.W.subIn K (.ref D) (.type "BaseException")) && (PySem.W.hasDictIn K D &&
  (isBI (PySem.W.findIn K (.ref D) "__class__") "object.__class__" && (isBI (PySem.W.specialIn K (.builtin "object.__class__") "__get__") "getset_descriptor.__get__" && (isTru (PySem.W.takesIn K (.builtin "object.__class__")) && isTru (PySem.W.mroIn K D (.type "object"))))))))
def xaB (K : PySem.W.Frag) (x A : Str) (B : String) : Bool := match clsAt K x, clsAt K A with
  | some C, some D => excCB K C && (isTru (PySem.W.kitOne K (.ref C) (.ref D)) && (isTru (PySem.W.kitOne K (.ref C) (.type B)) && isTru (PySem.W.exmOne K (.ref C) (.ref C))))
  | _, _ => false
section
variable {X : Cx} {Ng : List Str} {x a q en hx A : Str} {B : Str} {Bt : String} {sg : Scope} {g C D : Addr} {cdg : Value} {p1 p2 p3 p4 p5 p6 p7 p8 p9 r1 r2 r3 r4 r5 r6 r7 r8 : Pos} {e : Expr} {df : V}
end
end Mp
namespace Mp
open PySem PySem.Spec PyProof.Rows L2 GxR LamX
section
variable {X : Cx} {tb : Tbs} {Wx : WX} {x a h : Str} {c P : Addr} {params : Arguments} {body : Expr} {scope : Scope} {p lpos pos : Pos} {m : EM} {df : PV} {cl : List Str}
end
end Mp
end
section
set_option maxRecDepth 100000
set_option maxHeartbeats 1000000
namespace Mp
open PySem PySem.Spec PyProof.Rows L2 GxR
def fgB (K : PySem.W.Frag) (x : Str) : Bool := (clsAt K x).isSome
def mCallF (i : Nat) (x : Str) (n : Nat) (m : FM) (ms : AM) : EM := fun env st => match env[i]? with
  | some (.pv (.fn y)) => if y = x then mCall n m ms env st else .bad
  | _ => .bad
section
variable {X : Cx} {tb : Tbs} {Wx : WX} {e : Expr} {es : List Expr} {ms : AM} {pos p : Pos} {k j n i : Nat} {x t : Str} {m : FM}
variable {CX : CXT} {f : Addr} {fd : FuncData} {ps : List Str} {sp : Sp} {E : L2.St → XK} {ta : TA}
end
@[simp] theorem ev_callF {i n : Nat} {x : Str} {m : FM} {ms : AM} {env : MEnv} {st : Sto} (h : env[i]? = some (.pv (.fn x))) : mCallF i x n m ms env st = mCall n m ms env st := by
  unfold mCallF; rw [h]; simp
end Mp
namespace Mp
open PySem PySem.Spec PyProof.Rows L2 GxR
section
variable {X : Cx}
end
end Mp
namespace Mp
open PySem PySem.Spec PyProof.Rows L2 GxR
end Mp
end
section
set_option maxRecDepth 100000
set_option maxHeartbeats 1000000
namespace Mp
open PySem PySem.Spec PyProof.Rows L2
section
variable {X : Cx}
end
end Mp
end
section
set_option maxRecDepth 100000
set_option maxHeartbeats 1000000
namespace Mp
open PySem PySem.Spec PyProof.Rows L2
def updW {α : Type} (k : List Int) (z : α) : List (List Int) → List α → List α
  | k' :: ks, w :: ws => (if k' = k then z else w) :: updW k z ks ws
  | _, ws => ws
theorem RFs.updW {K M W H} {k : List Int} {v : PV} {z : V} (hz : RF K M W H v z) : ∀ {ks : List (List Int)} {vs : List PV} {ws : List V}, RFs K M W H vs ws → RFs K M W H (updW k v ks vs) (updW k z ks ws)
  | [], _, _, h => by unfold Mp.updW; exact h
  | k' :: ks, [], _, h => by rw [h.nil_inv]; unfold Mp.updW; exact RFs.nil
  | k' :: ks, x :: vs, _, h => by
    obtain ⟨w, r, rfl, h1, h2⟩ := h.inv
    unfold Mp.updW
    refine RFs.cons ?_ (RFs.updW hz h2)
    split
    · exact hz
    · exact h1
theorem KsOk.snoc {K M H} {k : List Int} {b : Addr} (h : FzT K M H b (k.map V.int)) : ∀ {ks : List (List Int)} {as : List Addr}, KsOk K M H ks as → KsOk K M H (ks ++ [k]) (as ++ [b])
  | [], _, e => by cases (show _ = [] from e); exact ⟨b, [], rfl, h, rfl⟩
  | _ :: _, _, ⟨a, r, e, h1, h2⟩ => ⟨a, r ++ [b], by rw [e]; rfl, h1, KsOk.snoc h h2⟩
theorem noTbl_dct {p : Addr} {ks : List (List Int)} {as : List Addr} {ws : List V} : NoTbl (dctO p ks as ws) := fun ps e => nomatch e
section
variable {X : Cx} {tb : Tbs} {Wx : WX} {kx vx tg iter : Expr} {ifs : List Expr} {sc : Scope} {own : List (Str × Nat)} {pos : Pos} {mi : AM} {g : PV → MEnv → Option MEnv} {tc : TM} {mk mv : EM} {is vs : List Nat}
end
end Mp
end
section
set_option maxRecDepth 100000
set_option maxHeartbeats 1000000
namespace Mp
open PySem PySem.Spec PyProof.Rows L2 RZ
section
variable {K : PySem.W.Frag} {M : Addr → Prop} {W : List Addr} {H : Hp}
end
end Mp
end
section
set_option maxRecDepth 100000
set_option maxHeartbeats 1000000
namespace Mp
open PySem PySem.Spec PyProof.Rows L2
variable {X : Cx} {tb : Tbs} {pos : Pos} {Wx : WX}
end Mp
end
section
namespace Mp
open PySem PySem.Spec PyProof.Rows L2
section
variable {k : Nat} {A : Around}
theorem u1_of (r : Room k A) : A.units + 1 < cLine := by have := r.un; omega
end
end Mp
end
section
set_option maxRecDepth 100000
namespace Mp
open PySem L2
theorem compL_map {α : Type} {gt : PV → MEnv → Option MEnv} {tc : TM} {me : EM} {env : MEnv} {st : Sto} (f : α → PV) (p : α → Bool) (g : α → PV) :
    ∀ xs : List α, (∀ a ∈ xs, ∃ e1, gt (f a) env = some e1 ∧ tc e1 st = .ok (p a) st ∧ (p a = true → me e1 st = .ok (g a) st)) → compL gt tc me (xs.map f) env st = .ok ((xs.filter p).map g) st
  | [], _ => rfl
  | x :: xs, h => by
    obtain ⟨e1, h1, h2, h3⟩ := h x List.mem_cons_self
    have ih := compL_map f p g xs fun a ha => h a (List.mem_cons_of_mem _ ha)
    simp only [List.map_cons, compL, h1, h2, bindX]
    cases q : p x with
    | true => simp only [if_true, h3 q, ih, List.filter_cons_of_pos q, List.map_cons]
    | false => simp only [Bool.false_eq_true, if_false, ih, List.filter_cons_of_neg (show ¬ p x = true by rw [q]; exact Bool.false_ne_true)]
theorem isD_int {i : Int} : isD (.int i) = true := by unfold isD pd; rfl
theorem ordd_int {i j : Int} : ordd (.int i) (.int j) = true := by simp [ordd, isD_int, alk, isN]
@[simp] theorem cLt_int {i j : Int} : cLt (.int i) (.int j) = some (.bl (decide (i < j))) := by simp [cLt, ordd_int, pvLt]
@[simp] theorem cGt_int {i j : Int} : cGt (.int i) (.int j) = some (.bl (decide (j < i))) := by simp [cGt, ordd_int, pvLt]
@[simp] theorem cLe_int {i j : Int} : cLe (.int i) (.int j) = some (.bl (decide (i ≤ j))) := by
  simp only [cLe, ordd_int, pvLt, if_true]; congr 2; by_cases h : i ≤ j <;> simp [h] <;> omega
@[simp] theorem cGe_int {i j : Int} : cGe (.int i) (.int j) = some (.bl (decide (j ≤ i))) := by
  simp only [cGe, ordd_int, pvLt, if_true]; congr 2; by_cases h : j ≤ i <;> simp [h] <;> omega
@[simp] theorem cEq_int {i j : Int} : cEq (.int i) (.int j) = some (.bl (decide (i = j))) := by
  simp only [cEq, isD_int, pvEq, Bool.and_self, if_true]; congr 2
@[simp] theorem cNe_int {i j : Int} : cNe (.int i) (.int j) = some (.bl (!decide (i = j))) := by
  simp only [cNe, isD_int, pvEq, Bool.and_self, if_true]; congr 2
@[simp] theorem pAdd_int {i j : Int} : pAdd (.int i) (.int j) = some (.int (i + j)) := rfl
@[simp] theorem pSub_int {i j : Int} : pSub (.int i) (.int j) = some (.int (i - j)) := rfl
theorem pMod_int {i j : Int} (h : j ≠ 0) : pMod (.int i) (.int j) = some (.int (i.fmod j)) := by simp [pMod, h]
theorem pFdiv_int {i j : Int} (h : j ≠ 0) (h2 : j.natAbs < 1073741824) : pFdiv (.int i) (.int j) = some (.int (i.fdiv j)) := by simp [pFdiv, divOk, h, h2]
theorem pMul_int {i j : Int} (h : small j = true) : pMul (.int i) (.int j) = some (.int (i * j)) := by simp [pMul, mulOk, h]
def GD (st : Sto) (n : Nat) : Prop := ∃ a b c : Int, st[n]? = some (.lst [.int a, .int b, .int c])
theorem GD.set {st : Sto} {n j : Nat} {a b c : Int} (hn : n < st.length) (h : GD st j) : GD (st.set n (.lst [.int a, .int b, .int c])) j := by
  by_cases e : n = j
  · subst e; exact ⟨a, b, c, List.getElem?_set_self hn⟩
  · obtain ⟨a', b', c', h⟩ := h
    exact ⟨a', b', c', by rw [List.getElem?_set_ne e]; exact h⟩
def rollB : SM := (sSeq (sIf (tOrM (tBin cEq (mIx (mVar 0) (mC (.int 2))) (mC (.int 2))) (tAndM (tBin cEq (mIx (mVar 0) (mC (.int 2))) (mC (.int 1))) (tBin cGt (mIx (mVar 0) (mC (.int 0))) (mC (.int 0))))) (sSeq (sSet 2 (mBin pMod (mCallB bInt (aCons (mIx (mVar 0) (mC (.int 0))) aNil)) (mVar 1)))
  (sSeq (sSetIxS (mVar 0) (mC (.int 0)) (mBin pFdiv (mIx (mVar 0) (mC (.int 0))) (mVar 1)))
  (sRet (mVar 2)))) sNil)
  (sSeq (sSetIxS (mVar 0) (mC (.int 2)) (mC (.int 0)))
  (sSeq (sSetIxS (mVar 0) (mC (.int 0)) (mBin pMod (mCallB bInt (aCons (mBin pAdd (mBin pAdd (mBin pMul (mIx (mVar 0) (mC (.int 0))) (mC (.int 48271))) (mBin pMul (mIx (mVar 0) (mC (.int 1))) (mC (.int 69621)))) (mC (.int 11))) aNil)) (mC (.int 2147483647))))
  (sSeq (sSetIxS (mVar 0) (mC (.int 1)) (mBin pAdd (mIx (mVar 0) (mC (.int 1))) (mC (.int 1))))
  (sRet (mBin pMod (mCallB bInt (aCons (mBin pAdd (mBin pFdiv (mIx (mVar 0) (mC (.int 0))) (mC (.int 7))) (mIx (mVar 0) (mC (.int 0)))) aNil)) (mVar 1)))))))
theorem fmod_range {i m : Int} (h : 0 < m) : 0 ≤ i.fmod m ∧ i.fmod m < m := ⟨Int.fmod_nonneg_of_pos _ h, Int.fmod_lt_of_pos _ h⟩
theorem roll_spec {st : Sto} {n : Nat} {m : Int} (g : GD st n) (h0 : 0 < m) (h1 : m < 1000000000) :
    ∃ v a b c, fnM 3 rollB [.ref n, .int m] st = .ok (.int v) (st.set n (.lst [.int a, .int b, .int c])) ∧ 0 ≤ v ∧ v < m := by
  obtain ⟨a, b, c, hs⟩ := g
  have hn : n < st.length := (List.getElem?_eq_some_iff.mp hs).1
  have hset : ∀ x, (st.set n x)[n]? = some x := fun x => List.getElem?_set_self hn
  have hm : m ≠ 0 := by omega
  have hm2 : m.natAbs < 1073741824 := by omega
  have k1 : small 48271 = true := by decide
  have k2 : small 69621 = true := by decide
  have i0 : ixN 3 0 = some 0 := by decide
  have i1 : ixN 3 1 = some 1 := by decide
  have i2 : ixN 3 2 = some 2 := by decide
  by_cases hc : c = 2 ∨ (c = 1 ∧ 0 < a)
  · refine ⟨a.fmod m, a.fdiv m, b, c, ?_, (fmod_range h0).1, (fmod_range h0).2⟩
    by_cases h2 : c = 2
    · subst h2
      simp [fnM, rollB, env0, sSeq, sIf, sSet, sSetIxS, sRet, tOrM, tAndM, tBin, mIx, mVar, mC, mBin, mCallB, aCons, aNil, bInt, bindR, bindF, ixV, seqOf, optR, hs, atI, i0, i1, i2, pMod_int hm, pFdiv_int hm hm2]
    · obtain ⟨h3, h4⟩ := hc.resolve_left h2
      subst h3
      simp [fnM, rollB, env0, sSeq, sIf, sSet, sSetIxS, sRet, tOrM, tAndM, tBin, mIx, mVar, mC, mBin, mCallB, aCons, aNil, bInt, bindR, bindF, ixV, seqOf, optR, hs, atI, i0, i1, i2, pMod_int hm, pFdiv_int hm hm2, h4]
  · refine ⟨(((a * 48271 + b * 69621 + 11).fmod 2147483647).fdiv 7 + (a * 48271 + b * 69621 + 11).fmod 2147483647).fmod m, (a * 48271 + b * 69621 + 11).fmod 2147483647, b + 1, 0, ?_, (fmod_range h0).1, (fmod_range h0).2⟩
    by_cases h1 : c = 1
    · subst h1
      have h4 : ¬ 0 < a := fun z => hc (.inr ⟨rfl, z⟩)
      simp [fnM, rollB, env0, sSeq, sIf, sSet, sSetIxS, sRet, sNil, tOrM, tAndM, tBin, mIx, mVar, mC, mBin, mCallB, aCons, aNil, bInt, bindR, bindF, ixV, seqOf, optR, hs, hset, atI, i0, i1, i2, pMod_int hm, pFdiv_int hm hm2, pMul_int k1, pMul_int k2, h4, pMod_int (show (2147483647 : Int) ≠ 0 by decide), pFdiv_int (show (7 : Int) ≠ 0 by decide) (by decide)]
    · have h2 : ¬ c = 2 := fun z => hc (.inl z)
      simp [fnM, rollB, env0, sSeq, sIf, sSet, sSetIxS, sRet, sNil, tOrM, tAndM, tBin, mIx, mVar, mC, mBin, mCallB, aCons, aNil, bInt, bindR, bindF, ixV, seqOf, optR, hs, hset, atI, i0, i1, i2, pMod_int hm, pFdiv_int hm hm2, pMul_int k1, pMul_int k2, h1, h2, pMod_int (show (2147483647 : Int) ≠ 0 by decide), pFdiv_int (show (7 : Int) ≠ 0 by decide) (by decide)]
def diceB : SM := (sSeq (sIf (tChain2 cLt cLt (mBin pSub (mC (.int 0)) (mC (.int 10))) (mVar 0) (mC (.int 10))) (sRet (mLstS (aCons (mCallB bAbs (aCons (mVar 0) aNil)) (aCons (mC (.int 0)) (aCons (mC (.int 2)) aNil))))) sNil)
  (sRet (mLstS (aCons (mVar 0) (aCons (mBin pAdd (mC (.int 1)) (mBin pMod (mCallB bInt (aCons (mVar 0) aNil)) (mC (.int 1009)))) (aCons (mCallB bInt (aCons (mBin cGe (mVar 0) (mBin pPow (mC (.int 10)) (mC (.int 18)))) aNil)) aNil))))))
def diceO (c : Int) : PO := if -10 < c ∧ c < 10 then .lst [.int (if c < 0 then -c else c), .int 0, .int 2] else .lst [.int c, .int (1 + c.fmod 1009), .int (bi (decide (10 ^ 18 ≤ c)))]
theorem dice_spec (c : Int) (st : Sto) : fnM 1 diceB [.int c] st = .ok (.ref st.length) (st ++ [diceO c]) := by
  have p1 : pPow (.int 10) (.int 18) = some (.int (10 ^ 18)) := by rfl
  have p2 := @pMod_int c 1009 (by decide)
  unfold diceO
  by_cases h1 : -10 < c
  · by_cases h2 : c < 10
    · simp [fnM, diceB, env0, sSeq, sIf, sRet, mLstS, tChain2, mBin, mC, mVar, mCallB, aCons, aNil, bAbs, bindR, bindF, optR, h1, h2]
    · simp [fnM, diceB, env0, sSeq, sIf, sRet, sNil, mLstS, tChain2, mBin, mC, mVar, mCallB, aCons, aNil, bAbs, bInt, bindR, bindF, optR, h1, h2, p1, p2]
  · simp [fnM, diceB, env0, sSeq, sIf, sRet, sNil, mLstS, tChain2, mBin, mC, mVar, mCallB, aCons, aNil, bAbs, bInt, bindR, bindF, optR, h1, p1, p2]
theorem diceO_gd (c : Int) : ∃ x y z : Int, diceO c = .lst [.int x, .int y, .int z] := by
  unfold diceO
  split
  · exact ⟨_, _, _, rfl⟩
  · exact ⟨_, _, _, rfl⟩
def roundsB : SM := (sSeq (sSet 2 (mSlice (mVar 0) pN (pS (mVar 1))))
  (sSeq (sIf (tBin cEq (mVar 2) (mLst aNil)) (sSet 2 (mLst (aCons (mC (.int 0)) aNil))) sNil)
  (sRet (mComp (iSeq (mVar 2)) (gNm 3) tYesM (mCall 1 (fnM 1 diceB) (aCons (mVar 3) aNil)) [3]))))
theorem pds_ints : ∀ (n : Nat) (ns : List Int), pds n (ns.map PV.int) = true
  | n, [] => by unfold pds; rfl
  | n, x :: xs => by
    show pds n (.int x :: xs.map PV.int) = true
    unfold pds
    rw [pds_ints n xs]
    unfold pd; rfl
theorem isD_ints (ns : List Int) : isD (.lst (ns.map PV.int)) = true := by
  unfold isD pd; exact pds_ints 59 ns
theorem comp_dice : ∀ (cs : List Int) (env : MEnv) (st : Sto), 3 < env.length → compL (gNm 3) tYesM (mCall 1 (fnM 1 diceB) (aCons (mVar 3) aNil)) (cs.map PV.int) env st = .ok ((List.range cs.length).map fun i => .ref (st.length + i)) (st ++ cs.map diceO)
  | [], env, st, h => by simp [compL]
  | c :: cs, env, st, h => by
    have ih := comp_dice cs env (st ++ [diceO c]) h
    have e : (env.set 3 (.pv (.int c)))[3]? = some (.pv (.int c)) := List.getElem?_set_self h
    simp only [List.map_cons, compL, gNm, tYesM, bindX, if_true, mCall, aCons, aNil, bindR, mVar, e, List.length_cons, List.length_nil, dice_spec]
    rw [ih]
    simp only [List.append_assoc, List.singleton_append, List.length_append, List.length_singleton]
    rw [List.range_succ_eq_map, List.map_cons, List.map_map]
    simp only [Nat.add_zero]
    congr 2
    refine List.map_congr_left fun i _ => ?_
    simp only [Function.comp]
    congr 1; omega
end Mp
end
section
set_option maxRecDepth 100000
namespace Mp
open PySem L2
section
variable {env : MEnv} {st s : Sto} {i j : Nat} {m ma mb mc mv mo : EM} {ms : AM} {t ta tb : TM} {a b c : SM} {v : PV} {g g' : PV → PV → Option PV} {α β : Type} {x : α} {f : α → Sto → MRes β} {ff : α → Sto → MFlow}
@[simp] theorem ev_bindR : bindR (.ok x s) f = f x s := rfl
@[simp] theorem ev_bindR_bad : bindR .bad f = .bad := rfl
@[simp] theorem ev_bindX : bindX (.ok x s) f = f x s := rfl
@[simp] theorem ev_bindF : bindF (.ok x s) ff = ff x s := rfl
@[simp] theorem ev_optR : optR (some v) s = .ok v s := rfl
@[simp] theorem ev_optB {y : Bool} : optB (some y) s = .ok y s := rfl
@[simp] theorem ev_C : mC v env st = .ok v st := rfl
@[simp] theorem ev_aNil : aNil env st = .ok [] st := rfl
@[simp] theorem ev_aCons : aCons m ms env st = bindR (m env st) fun v s => bindR (ms env s) fun vs s' => .ok (v :: vs) s' := rfl
@[simp] theorem ev_bin : mBin g ma mb env st = bindR (ma env st) fun a s => bindR (mb env s) fun b s' => optR (g a b) s' := rfl
@[simp] theorem ev_un {h : PV → Option PV} : mUn h ma env st = bindR (ma env st) fun a s => optR (h a) s := rfl
@[simp] theorem ev_tbin : tBin g ma mb env st = bindR (ma env st) fun a s => bindR (mb env s) fun b s' => match g a b with | some (.bl c) => .ok c s' | _ => .bad := rfl
@[simp] theorem ev_chain : tChain2 g g' ma mb mc env st = bindR (ma env st) fun a s => bindR (mb env s) fun b s' => match g a b with
  | some (.bl true) => bindR (mc env s') fun d s2 => match g' b d with | some (.bl k) => .ok k s2 | _ => .bad
  | some (.bl false) => .ok false s'
  | _ => .bad := by
  unfold tChain2
  rfl
@[simp] theorem ev_and : tAndM ta tb env st = bindR (ta env st) fun c s => if c then tb env s else .ok false s := rfl
@[simp] theorem ev_or : tOrM ta tb env st = bindR (ta env st) fun c s => if c then .ok true s else tb env s := rfl
@[simp] theorem ev_not : tNotM ta env st = bindR (ta env st) fun c s => .ok (!c) s := rfl
@[simp] theorem ev_val : tVal m env st = bindR (m env st) fun a s => optB (tru s a) s := rfl
@[simp] theorem ev_tup : mTup ms env st = bindR (ms env st) fun vs s => if vs.length ≤ 1000 then .ok (.tup vs) s else .bad := rfl
@[simp] theorem ev_lst : mLst ms env st = bindR (ms env st) fun vs s => if vs.length ≤ 1000 then .ok (.lst vs) s else .bad := rfl
@[simp] theorem ev_ix : mIx ma mb env st = bindR (ma env st) fun a s => bindR (mb env s) fun b s' => optR (ixV s' a b) s' := rfl
@[simp] theorem ev_callB {h : Sto → List PV → Option PV} : mCallB h ms env st = bindR (ms env st) fun vs s => optR (h s vs) s := rfl
@[simp] theorem ev_callN {h : Sto → List PV → Option (List PV)} : mCallN h ms env st = bindR (ms env st) fun vs s => optR ((h s vs).map .lst) s := rfl
@[simp] theorem ev_call {n : Nat} {M : FM} : mCall n M ms env st = bindR (ms env st) fun vs s => if vs.length = n then M vs s else .bad := rfl
@[simp] theorem ev_isi {T : String} : mIsi T m env st = bindR (m env st) fun v s => optR (isiO T v) s := rfl
@[simp] theorem isiO_int {T : String} {n : Int} : isiO T (.int n) = some (.bl (isiB T (.int n))) := rfl
@[simp] theorem isiO_bl {T : String} {n : Bool} : isiO T (.bl n) = some (.bl (isiB T (.bl n))) := rfl
@[simp] theorem isiO_str {T : String} {n : Str} : isiO T (.str n) = some (.bl (isiB T (.str n))) := rfl
@[simp] theorem isiO_non {T : String} : isiO T .non = some (.bl (isiB T .non)) := rfl
@[simp] theorem isiO_tup {T : String} {n : List PV} : isiO T (.tup n) = some (.bl (isiB T (.tup n))) := rfl
@[simp] theorem isiO_lst {T : String} {n : List PV} : isiO T (.lst n) = some (.bl (isiB T (.lst n))) := rfl
@[simp] theorem ev_eif : eIf t ma mb env st = bindR (t env st) fun c s => if c then ma env s else mb env s := rfl
@[simp] theorem ev_seq : sSeq a b env st = match a env st with | .nx e s => b e s | r => r := rfl
@[simp] theorem ev_set : sSet i m env st = bindF (m env st) fun v s => .nx (env.set i (.pv v)) s := rfl
@[simp] theorem ev_ret : sRet m env st = bindF (m env st) fun v s => .rt v s := rfl
@[simp] theorem ev_par {is : List Nat} {m : VM} : sPar is m env st = bindF (m env st) fun evs s => if evs.length = is.length then .nx (setsE is evs env) s else .bad := rfl
@[simp] theorem ev_expr : sExpr m env st = bindF (m env st) fun _ s => .nx env s := rfl
@[simp] theorem ev_if : sIf t a b env st = bindF (t env st) fun c s => if c then a env s else b env s := rfl
@[simp] theorem ev_nil : sNil env st = .nx env st := rfl
@[simp] theorem ev_asg {h : PV → MEnv → Option MEnv} : sAsg h m env st = bindF (m env st) fun v s => match h v env with | some e => .nx e s | none => .bad := rfl
@[simp] theorem ev_seqI : iSeq m env st = bindR (m env st) fun v s => match v with | .lst xs => .ok xs s | .tup xs => .ok xs s | _ => .bad := rfl
@[simp] theorem ev_gNm {w : PV} : gNm i w env = some (env.set i (.pv w)) := rfl
@[simp] theorem ev_for {mi : AM} {gt : PV → MEnv → Option MEnv} {ks : List Nat} : sFor mi gt a ks env st = bindF (mi env st) fun xs s => forL gt a ks xs env s := rfl
@[simp] theorem ev_fnM {n : Nat} {args : List PV} : fnM n a args st = match a (env0 n args) st with | .nx _ s => .ok .non s | .rt v s => .ok v s | .ex x s => .exc x s | _ => .bad := rfl
@[simp] theorem ev_eAnd : eAnd ma mb env st = bindR (ma env st) fun a s => match tru s a with | some true => mb env s | some false => .ok a s | none => .bad := rfl
@[simp] theorem ev_eOr : eOr ma mb env st = bindR (ma env st) fun a s => match tru s a with | some true => .ok a s | some false => mb env s | none => .bad := rfl
@[simp] theorem ev_eNot : eNot ma env st = bindR (ma env st) fun a s => match tru s a with | some k => .ok (.bl (!k)) s | none => .bad := rfl
@[simp] theorem tru_bl {y : Bool} : tru s (.bl y) = some y := rfl
@[simp] theorem pNeg_int {n : Int} : pNeg (.int n) = some (.int (-n)) := rfl
@[simp] theorem bAbs_int {n : Int} : bAbs s [.int n] = some (.int (if n < 0 then -n else n)) := rfl
@[simp] theorem bMax_int {n k : Int} : bMax s [.int n, .int k] = some (.int (if k > n then k else n)) := rfl
@[simp] theorem bMin_int {n k : Int} : bMin s [.int n, .int k] = some (.int (if k < n then k else n)) := rfl
@[simp] theorem ix0 {p q : PV} : atI [p, q] 0 = some p := rfl
@[simp] theorem ix1 {p q : PV} : atI [p, q] 1 = some q := rfl
end
theorem seq_nx {a b : SM} {env e : MEnv} {st s : Sto} (h : a env st = .nx e s) : sSeq a b env st = b e s := by rw [ev_seq, h]
theorem seq_rt {a b : SM} {env : MEnv} {st s : Sto} {v : PV} (h : a env st = .rt v s) : sSeq a b env st = .rt v s := by rw [ev_seq, h]
theorem fnM_rt {n : Nat} {b : SM} {args : List PV} {st s : Sto} {v : PV} (h : b (env0 n args) st = .rt v s) : fnM n b args st = .ok v s := by rw [ev_fnM, h]
theorem fnM_nx {n : Nat} {b : SM} {args : List PV} {st s : Sto} {e : MEnv} (h : b (env0 n args) st = .nx e s) : fnM n b args st = .ok .non s := by rw [ev_fnM, h]
theorem mul_small {i j : Int} (h : -1000000 < j ∧ j < 1000000) : pMul (.int i) (.int j) = some (.int (i * j)) := pMul_int (by unfold small; simp; omega)
def Gs (k : Nat) (st : Sto) : Prop := ∀ i, i < k → GD st i
theorem forL_ex {α : Type} {gt : PV → MEnv → Option MEnv} {body : SM} {ks : List Nat} (f : α → PV) (Pd : List α → MEnv → Sto → Prop) :
    ∀ (xs : List α) (env : MEnv) (st : Sto), Pd xs env st → (∀ a r env st, a ∈ xs → Pd (a :: r) env st → ∃ e1 e st', gt (f a) env = some e1 ∧ body e1 st = .nx e st' ∧ Pd r (killE ks e) st') → ∃ e st', forL gt body ks (xs.map f) env st = .nx e st' ∧ Pd [] e st'
  | [], env, st, h, _ => ⟨env, st, rfl, h⟩
  | x :: xs, env, st, h, hs => by
    obtain ⟨e1, e, st', h1, h2, h3⟩ := hs x xs env st List.mem_cons_self h
    obtain ⟨e', st2, h4, h5⟩ := forL_ex f Pd xs _ _ h3 fun a r env st ha => hs a r env st (List.mem_cons_of_mem _ ha)
    refine ⟨e', st2, ?_, h5⟩
    simp only [List.map_cons, forL, h1, h2]
    exact h4
theorem forL_id {α : Type} {gt : PV → MEnv → Option MEnv} {body : SM} {ks : List Nat} {env : MEnv} {st : Sto} (f : α → PV) : ∀ (xs : List α), (∀ a ∈ xs, ∃ e1 e, gt (f a) env = some e1 ∧ body e1 st = .nx e st ∧ killE ks e = env) → forL gt body ks (xs.map f) env st = .nx env st
  | [], _ => rfl
  | x :: xs, h => by
    obtain ⟨e1, e, h1, h2, h3⟩ := h x List.mem_cons_self
    simp only [List.map_cons, forL, h1, h2, h3]
    exact forL_id f xs fun a ha => h a (List.mem_cons_of_mem _ ha)
@[simp] theorem ev_rng1 {ms : AM} {env : MEnv} {st : Sto} : iRng1M ms env st = bindR (ms env st) fun vs s => match vs with | [.int j] => if rgOk j then .ok (rangeL 0 j.toNat) s else .bad | _ => .bad := rfl
@[simp] theorem ev_rng2 {ms : AM} {env : MEnv} {st : Sto} : iRng2M ms env st = bindR (ms env st) fun vs s => match vs with | [.int i, .int j] => if rgOk i && rgOk j then .ok (rangeL i (j - i).toNat) s else .bad | _ => .bad := rfl
end Mp
end
section
set_option maxRecDepth 100000
set_option maxHeartbeats 1000000
namespace Mp
open PySem PySem.Spec PyProof.Rows L2
def CmpH (prog : Program) (w : World) (A : Around) (op : CmpOp) (h0 : Heap) (P : Nat → Value → Prop) (bt : Nat → Nat → Bool) : Prop :=
  ∀ i j vi vj (s : Shared) (Q : Value → Shared → Prop) (E : Value → Shared → Prop), (∀ b o, h0.get? b = some o → s.heap.get? b = some o) → P i vi → P j vj → Q (.bool (bt i j)) s → wpAny (model prog w) A (richCompare op vi vj) Q E s
section
variable {prog : Program} {w : World} {A : Around} {R : Result → Shared → Prop} {I : Addr} {fp wr : List Addr} {n : Nat} {P : Nat → Value → Prop} {St : Nat → Heap → Prop} {h0 : Heap}
theorem min_loopH (W : Walks prog w A.in1 I fp wr n P St) (bt : Nat → Nat → Bool) (hcmp : CmpH prog w A.in1 .Lt h0 P bt) (S : Addr) (hSf : S ∉ fp) (hw0 : ∀ b ∈ wr, h0.get? b = none) (hS0 : h0.get? S = none) :
    ∀ (k j : Nat) (s : Shared) (vb : Value) (c : Nat), n - (j + 1) = k → j + 1 ≤ n → St (j + 1) s.heap → P (argBest bt j) vb → (∀ b o, h0.get? b = some o → s.heap.get? b = some o) →
    s.heap.get? S = some { cls := .type "list", dict := none, data := .seq #[vb, vb] c, slots := #[] } →
    (∀ v h' tk, P (argBest bt (n - 1)) v → (∀ b o, h0.get? b = some o → h'.get? b = some o) → R (.ok (.ret v)) { s with heap := h', toks := tk }) →
    codeAny (model prog w) A (.builtin "min.loop" ⟨[.ref I, .none, .ref S], []⟩) R s := by
  have hSw : S ∉ wr := fun h => hSf (W.sub _ h)
  have hname : (toString "min" ++ toString ".loop" : String) = "min.loop" := by decide
  have old : ∀ {b : Addr} {o : Obj}, h0.get? b = some o → b ∉ wr ∧ b ≠ S := fun {b o} e => ⟨fun z => (by rw [hw0 b z] at e; cases e), fun z => (by rw [z, hS0] at e; cases e)⟩
  intro k
  induction k with
  | zero =>
    intro j s vb c hk hj hst hPb kp hS hR
    have hin : j + 1 = n := by omega
    refine codeAny_builtin F.entry_min_loop ?_
    rw [Around.under_plainId F.plain_min_loop _]
    show wpAny _ A.in1 (seqItems? (.ref S) >>= _) _ _ s
    refine wpAny_bind (wpAny_seqItems hS rfl ?_)
    show wpAny _ A.in1 (tryCatch (pyNext (.ref I)) _ >>= _) _ _ s
    refine wpAny_bind (wpAny_tryCatch (W.done s _ _ (hin ▸ hst) fun h' tk hk' => ?_))
    have hS' := hk' S _ hSw hS
    show wpAny _ A.in1 (updateSeq S (fun _ => #[]) >>= _) _ _ _
    refine wpAny_bind ?_
    refine wpAny_updateSeq hS' rfl (wpAny_bind (wpAny_letGo (wpAny_pure ?_)))
    refine hR vb _ tk (by rw [← hin]; exact hPb) fun b o e => (Heap.get?_update_other _ _ (Ne.symm (old e).2)).trans (hk' b o (old e).1 (kp b o e))
  | succ k ih =>
    intro j s vb c hk hj hst hPb kp hS hR
    have hlt : j + 1 < n := by omega
    refine codeAny_builtin F.entry_min_loop ?_
    rw [Around.under_plainId F.plain_min_loop _]
    show wpAny _ A.in1 (seqItems? (.ref S) >>= _) _ _ s
    refine wpAny_bind (wpAny_seqItems hS rfl ?_)
    show wpAny _ A.in1 (tryCatch (pyNext (.ref I)) _ >>= _) _ _ s
    refine wpAny_bind (wpAny_tryCatch (W.item (j + 1) s _ _ hlt hst fun v h' tk hP hst' hk' => ?_))
    have hS' := hk' S _ hSw hS
    have kp' : ∀ b o, h0.get? b = some o → h'.get? b = some o := fun b o e => hk' b o (old e).1 (kp b o e)
    show wpAny _ A.in1 (tryCatch (holding [v, v] (richCompare .Lt v vb >>= _)) _ >>= _) _ _ _
    refine wpAny_bind (wpAny_tryCatch (wpAny_holding (wpAny_bind (hcmp (j + 1) (argBest bt j) v vb _ _ _ kp' hP hPb ?_))))
    refine wpAny_bind (wpAny_holding (wpAny_truthy_bool ?_))
    refine wpAny_bind (wpAny_letGo (wpAny_pure ?_))
    cases hb : bt (j + 1) (argBest bt j) with
    | true =>
      simp only [if_true]
      refine wpAny_bind ?_
      refine wpAny_updateSeq hS' rfl (wpAny_bind (wpAny_letGo ?_))
      rw [hname]
      refine wpAny_pure ⟨plainId_quiet F.plain_min_loop _, ih (j + 1) _ v _ (by omega) hlt (W.frame _ _ _ hst' fun b hbf o e => ?_) (by simp only [argBest, hb, if_true]; exact hP) (fun b o e => ?_) (Heap.get?_update_self _ hS' rfl)
        fun v' h'' tk'' hP' hk'' => ?_⟩
      · exact (Heap.get?_update_other _ _ (fun h : S = b => hSf (by rw [h]; exact hbf))).trans e
      · exact (Heap.get?_update_other _ _ (Ne.symm (old e).2)).trans (kp' b o e)
      · exact hR v' h'' tk'' hP' hk''
    | false =>
      simp only [Bool.false_eq_true, if_false]
      refine wpAny_bind (wpAny_letGo ?_)
      rw [hname]
      refine wpAny_pure ⟨plainId_quiet F.plain_min_loop _, ih (j + 1) _ vb c (by omega) hlt hst' (by simp only [argBest, hb, Bool.false_eq_true, if_false]; exact hPb) kp' hS' fun v' h'' tk'' hP' hk'' => ?_⟩
      exact hR v' h'' tk'' hP' hk''
theorem min_firstH (W : Walks prog w A.in1 I fp wr n P St) (bt : Nat → Nat → Bool) (hcmp : CmpH prog w A.in1 .Lt h0 P bt) (S : Addr) (hSf : S ∉ fp) (hw0 : ∀ b ∈ wr, h0.get? b = none) (hS0 : h0.get? S = none) (hn : 0 < n) {s : Shared} {c : Nat} (hst : St 0 s.heap)
    (kp : ∀ b o, h0.get? b = some o → s.heap.get? b = some o) (hS : s.heap.get? S = some { cls := .type "list", dict := none, data := .seq #[] c, slots := #[] })
    (hR : ∀ v h' tk, P (argBest bt (n - 1)) v → (∀ b o, h0.get? b = some o → h'.get? b = some o) → R (.ok (.ret v)) { s with heap := h', toks := tk }) :
    codeAny (model prog w) A (.builtin "min.loop" ⟨[.ref I, .none, .ref S], []⟩) R s := by
  have hSw : S ∉ wr := fun h => hSf (W.sub _ h)
  have hname : (toString "min" ++ toString ".loop" : String) = "min.loop" := by decide
  have old : ∀ {b : Addr} {o : Obj}, h0.get? b = some o → b ∉ wr ∧ b ≠ S := fun {b o} e => ⟨fun z => (by rw [hw0 b z] at e; cases e), fun z => (by rw [z, hS0] at e; cases e)⟩
  refine codeAny_builtin F.entry_min_loop ?_
  rw [Around.under_plainId F.plain_min_loop _]
  show wpAny _ A.in1 (seqItems? (.ref S) >>= _) _ _ s
  refine wpAny_bind (wpAny_seqItems hS rfl ?_)
  show wpAny _ A.in1 (tryCatch (pyNext (.ref I)) _ >>= _) _ _ s
  refine wpAny_bind (wpAny_tryCatch (W.item 0 s _ _ hn hst fun v h' tk hP hst' hk' => ?_))
  have hS' := hk' S _ hSw hS
  show wpAny _ A.in1 (updateSeq S (fun _ => #[v, v]) >>= _) _ _ _
  refine wpAny_bind ?_
  refine wpAny_updateSeq hS' rfl ?_
  rw [hname]
  refine wpAny_pure ⟨plainId_quiet F.plain_min_loop _, min_loopH W bt hcmp S hSf hw0 hS0 _ 0 _ v _ rfl hn (W.frame _ _ _ hst' fun b hbf o e => ?_) hP (fun b o e => ?_) (Heap.get?_update_self _ hS' rfl) fun v' h'' tk'' hP' hk'' => ?_⟩
  · exact (Heap.get?_update_other _ _ (fun h : S = b => hSf (by rw [h]; exact hbf))).trans e
  · exact (Heap.get?_update_other _ _ (Ne.symm (old e).2)).trans (hk' b o (old e).1 (kp b o e))
  · exact hR v' h'' tk'' hP' hk''
end
section
variable {prog : Program} {w : World} {A : Around} {E : Value → Shared → Prop} {s : Shared} {h0 : Heap}
theorem call_minH {x : Value} {Q : Value → Shared → Prop} (k0 : ∀ b o, h0.get? b = some o → s.heap.get? b = some o)
    (h : wpAny (model prog w) A.in1 (pyIter x) (fun it s₂ => ∃ I fp wr n P St bt, it = .ref I ∧ Walks prog w A.in1 I fp wr n P St ∧ St 0 s₂.heap ∧ (∀ b ∈ fp, b < s₂.heap.objs.size) ∧ 0 < n ∧ CmpH prog w A.in1 .Lt h0 P bt ∧ (∀ b ∈ wr, h0.get? b = none) ∧ (∀ b o, h0.get? b = some o → s₂.heap.get? b = some o) ∧
      ∀ v h' tk, P (argBest bt (n - 1)) v → (∀ b o, h0.get? b = some o → h'.get? b = some o) → Q v { s₂ with heap := h', toks := tk }) E s) :
    wpAny (model prog w) A (call (.builtin "min") [x]) Q E s := by
  have hname : (toString "min" ++ toString ".loop" : String) = "min.loop" := by decide
  refine call_function_tree F.kind_min F.plain_min F.entry_min (F.args_min1 _) ?_
  show wpAny _ A.in1 (Builtin.Builtins.bindParams "min" ["key", "default"] 0 ⟨[], []⟩ >>= _) _ _ s
  refine wpAny_bind (wpAny_of_eq (show Builtin.Builtins.bindParams "min" ["key", "default"] 0 ⟨[], []⟩ = pure [none, none] from rfl) ?_)
  refine wpAny_bind (wpAny_pure ?_)
  refine wpAny_bind (wpAny_mono h (fun it s₂ h₂ => ?_) fun _ _ e => e)
  obtain ⟨I, fp, wr, n, P, St, bt, rfl, W, hst, hfp, hn, hcmp, hw0, kp, hQ⟩ := h₂
  refine wpAny_bind (wpAny_newObj_type ?_)
  have hSf : s₂.heap.objs.size ∉ fp := fun hm => Nat.lt_irrefl _ (hfp _ hm)
  have hS0 : h0.get? s₂.heap.objs.size = none := by
    cases q : h0.get? s₂.heap.objs.size with
    | none => rfl
    | some o => exact absurd (Heap.lt_size (kp _ _ q)) (Nat.lt_irrefl _)
  rw [hname]
  exact wpAny_pure ⟨plainId_quiet F.plain_min_loop _, min_firstH W bt hcmp s₂.heap.objs.size hSf hw0 hS0 hn (W.frame _ _ _ hst fun b _ o e => Heap.get?_push_of_some _ e) (fun b o e => Heap.get?_push_of_some _ (kp b o e)) (Heap.get?_push_size _ rfl) fun v h' tk hP hk => hQ v h' tk hP hk⟩
theorem call_min2H {a b : Value} {Q : Value → Shared → Prop} (k0 : ∀ b o, h0.get? b = some o → s.heap.get? b = some o)
    (h : wpAny (model prog w) A.in1 (pyIter (.ref s.heap.objs.size)) (fun it s₂ => ∃ I fp wr n P St bt, it = .ref I ∧ Walks prog w A.in1 I fp wr n P St ∧ St 0 s₂.heap ∧ (∀ b ∈ fp, b < s₂.heap.objs.size) ∧ 0 < n ∧ CmpH prog w A.in1 .Lt h0 P bt ∧ (∀ b ∈ wr, h0.get? b = none) ∧ (∀ b o, h0.get? b = some o → s₂.heap.get? b = some o) ∧
      ∀ v h' tk, P (argBest bt (n - 1)) v → (∀ b o, h0.get? b = some o → h'.get? b = some o) → Q v { s₂ with heap := h', toks := tk }) E
      { s with heap := s.heap.push { cls := .type "tuple", data := .seq #[a, b] } }) :
    wpAny (model prog w) A (call (.builtin "min") [a, b]) Q E s := by
  have hname : (toString "min" ++ toString ".loop" : String) = "min.loop" := by decide
  refine call_function_tree F.kind_min F.plain_min F.entry_min (F.args_min2 _ _) ?_
  show wpAny _ A.in1 (Builtin.Builtins.bindParams "min" ["key", "default"] 0 ⟨[], []⟩ >>= _) _ _ s
  refine wpAny_bind (wpAny_of_eq (show Builtin.Builtins.bindParams "min" ["key", "default"] 0 ⟨[], []⟩ = pure [none, none] from rfl) ?_)
  show wpAny _ A.in1 (newTuple [a, b] >>= _) _ _ s
  refine wpAny_bind (wpAny_newObj_type ?_)
  refine wpAny_bind (wpAny_mono h (fun it s₂ h₂ => ?_) fun _ _ e => e)
  obtain ⟨I, fp, wr, n, P, St, bt, rfl, W, hst, hfp, hn, hcmp, hw0, kp, hQ⟩ := h₂
  refine wpAny_bind (wpAny_newObj_type ?_)
  have hSf : s₂.heap.objs.size ∉ fp := fun hm => Nat.lt_irrefl _ (hfp _ hm)
  have hS0 : h0.get? s₂.heap.objs.size = none := by
    cases q : h0.get? s₂.heap.objs.size with
    | none => rfl
    | some o => exact absurd (Heap.lt_size (kp _ _ q)) (Nat.lt_irrefl _)
  rw [hname]
  exact wpAny_pure ⟨plainId_quiet F.plain_min_loop _, min_firstH W bt hcmp s₂.heap.objs.size hSf hw0 hS0 hn (W.frame _ _ _ hst fun b _ o e => Heap.get?_push_of_some _ e) (fun b o e => Heap.get?_push_of_some _ (kp b o e)) (Heap.get?_push_size _ rfl) fun v h' tk hP hk => hQ v h' tk hP hk⟩
end
section
variable {prog : Program} {w : World} {A : Around} {R : Result → Shared → Prop} {I : Addr} {fp wr : List Addr} {n : Nat} {P : Nat → Value → Prop} {St : Nat → Heap → Prop} {h0 : Heap}
end
section
variable {prog : Program} {w : World} {A : Around} {E : Value → Shared → Prop} {s : Shared} {h0 : Heap}
end
end Mp
end
section
set_option maxRecDepth 100000
set_option maxHeartbeats 1000000
namespace Mp
open PySem PySem.Spec PyProof.Rows L2
def mmOk (xs : List PV) : Bool := xs.all fun a => xs.all fun b => ordd a b
def mnF (m y : PV) : PV := if pvLt y m then y else m
def pvMin : List PV → Option PV
  | [] => none
  | x :: xs => if mmOk (x :: xs) then some (xs.foldl mnF x) else none
def isL : PV → Bool | .lst _ => true | _ => false
theorem RV.rf {K : PySem.W.Frag} {M : Addr → Prop} {W : List Addr} {H : Hp} {v : PV} {w : V} (h : RV K M W H v w) (n : isL v = false) : RF K M W H v w := by
  rcases h with h | ⟨xs, p, ws, rfl, _⟩
  · exact h
  · cases n
def bMinD (_ : Sto) : List PV → Option PV
  | [.lst xs] => pvMin xs
  | [.tup xs] => pvMin xs
  | [a, b] => if isL a || isL b then none else pvMin [a, b]
  | _ => none
theorem best_fold {f : PV → PV → PV} {bt : Nat → Nat → Bool} {xs : List PV} (hf : ∀ i j a b, xs[i]? = some a → xs[j]? = some b → f b a = if bt i j then a else b) {x : PV} (hx : xs[0]? = some x) :
    ∀ k, k < xs.length → argBest bt k < xs.length ∧ xs[argBest bt k]? = some (((xs.drop 1).take k).foldl f x)
  | 0, h => ⟨h, by simpa [argBest] using hx⟩
  | k + 1, h => by
    obtain ⟨h1, h2⟩ := best_fold hf hx k (by omega)
    have e : ((xs.drop 1).take (k + 1)) = (xs.drop 1).take k ++ [xs[k + 1]] := by
      rw [List.take_succ_eq_append_getElem (by simp; omega)]
      simp [Nat.add_comm]
    have hk : xs[k + 1]? = some xs[k + 1] := List.getElem?_eq_getElem h
    rw [e, List.foldl_append, List.foldl_cons, List.foldl_nil, hf (k + 1) (argBest bt k) _ _ hk h2]
    simp only [argBest]
    split
    · exact ⟨h, hk⟩
    · exact ⟨h1, h2⟩
theorem best_all {f : PV → PV → PV} {bt : Nat → Nat → Bool} {x : PV} {xs : List PV} (hf : ∀ i j a b, (x :: xs)[i]? = some a → (x :: xs)[j]? = some b → f b a = if bt i j then a else b) : (x :: xs)[argBest bt ((x :: xs).length - 1)]? = some (xs.foldl f x) := by
  have := (best_fold (f := f) (bt := bt) (xs := x :: xs) hf rfl ((x :: xs).length - 1) (by simp)).2
  simpa using this
section
variable {X : Cx} {pins : List (Addr × Obj)} {σ : L2.St} {H : Hp} {s : Shared} {M : Addr → Prop} {W : List Addr}
theorem cmp_lt (I : Inv X pins σ H s) {xs : List PV} {ws : List V} {its : List Value} (rs : RFs X.K M W H xs ws) (rv : Vals ws its) (hm : mmOk xs = true) (hu : X.A.units + 100 < cLine) :
    CmpH X.prog X.w X.A.in1 .Lt s.heap (fun i v => its.toArray[i]? = some v) (fun i j => match xs[i]?, xs[j]? with | some a, some b => pvLt a b | _, _ => false) := by
  intro i j vi vj s' Q E kp hi hj hq
  have get : ∀ (i : Nat) (v : Value), its.toArray[i]? = some v → ∃ x, xs[i]? = some x ∧ ∀ y ∈ xs, ordd x y = true → ∃ as, Reads s.heap v (toD x) as := fun i v h => by
    have h : its[i]? = some v := by simpa using h
    have hl1 := rs.len; have hl2 := rv.length
    obtain ⟨hi, _⟩ := List.getElem?_eq_some_iff.mp h
    have hw : ws[i]? = some (ws[i]'(by omega)) := List.getElem?_eq_getElem _
    obtain ⟨u, e, ru⟩ := rv.get hw
    rw [h] at e; cases e
    obtain ⟨x, ex, rx⟩ := rs.getr hw
    exact ⟨x, ex, fun y hy ho => Dp.reads I (toD x) _ v (RF.dp 60 x (ordd_ok (K := X.K) (M := M) (W := W) (H := H) ho).1 rx) ru⟩
  obtain ⟨x, ex, rx⟩ := get i vi hi
  obtain ⟨y, ey, ry⟩ := get j vj hj
  have hxy : ordd x y = true := List.all_eq_true.mp (List.all_eq_true.mp hm x (List.mem_of_getElem? ex)) y (List.mem_of_getElem? ey)
  have hyy : ordd y y = true := List.all_eq_true.mp (List.all_eq_true.mp hm y (List.mem_of_getElem? ey)) y (List.mem_of_getElem? ey)
  obtain ⟨as, r1⟩ := rx y (List.mem_of_getElem? ey) hxy
  obtain ⟨bs, r2⟩ := ry y (List.mem_of_getElem? ey) hyy
  obtain ⟨h1, h2, h3, h4⟩ := ordd_ok (K := X.K) (M := M) (W := W) (H := H) hxy
  refine PySem.W.lt_data (A := X.A.in1) (PyProof.Rows.Reads.keeps kp r1) (PyProof.Rows.Reads.keeps kp r2) (by rw [alk_toD 60 60 x y h1 h2]; exact h3) h4 (depth_ok (A := X.A.in1) (show X.A.units + 1 + 64 < cLine by omega) h1) ?_
  rw [lt_toD 60 60 x y h1 h2 h3]
  dsimp only at hq
  rw [ex, ey] at hq
  exact hq
theorem row_end (I : Inv X pins σ H s) {xs : List PV} {ws : List V} {its : List Value} {Q : VK} {v : PV} {i : Nat} {u : Value} {h' : Heap} {tk : Nat} {gens : Array GenState} (rs : RFs X.K M W H xs ws) (rv : Vals ws its) (hv : xs[i]? = some v) (hu : its.toArray[i]? = some u) (kp : ∀ b o, s.heap.get? b = some o → h'.get? b = some o)
    (q : ∀ w, RF X.K M W H v w → Q w H) : EP X pins σ Q u { s with heap := h', toks := tk } := by
  obtain ⟨w, ew, rw⟩ := rs.get hv
  obtain ⟨u', eu, ru⟩ := rv.get ew
  have hu : its[i]? = some u := by simpa using hu
  rw [hu] at eu; cases eu
  exact ⟨w, H, I.kept kp, ru, q w rw⟩
end
section
variable {X : Cx}
theorem cv_minD (hc : X.calm = true) (hu : X.A.units + 100 < cLine) : CallV X (.builtin "min") bMinD := by
  intro pins s σ H xs us Q I r h
  obtain ⟨M, W, st, args, v, hm, so, ra, hg, q⟩ := h
  have hh : X.A.in1.handled = none := I.ok.hd hc
  have fin : ∀ (ys : List PV), pvMin ys = some v → mmOk ys = true ∧ 0 < ys.length ∧ ys[argBest (fun i j => match ys[i]?, ys[j]? with | some a, some b => pvLt a b | _, _ => false) (ys.length - 1)]? = some v := fun ys hp => by
    cases ys with
    | nil => cases hp
    | cons y ys =>
      simp only [pvMin] at hp
      by_cases hk : mmOk (y :: ys) = true
      · rw [if_pos hk] at hp
        cases hp
        refine ⟨hk, by simp, best_all fun i j a b ha hb => ?_⟩
        rw [ha, hb]; rfl
      · rw [if_neg hk] at hp; cases hp
  unfold bMinD at hg
  split at hg
  · rename_i ys
    obtain ⟨hk, hn, hv⟩ := fin ys hg
    obtain ⟨w, rfl, r1⟩ := RVs1 ra
    obtain ⟨p, ws, rfl, h1, h2⟩ := r1.lst
    obtain ⟨its, rv, hl, hz⟩ := I.list h1
    rw [Vals.ref1 r]
    have hlen : its.length = ys.length := by rw [← rv.length, h2.len]
    refine call_minH (h0 := s.heap) (fun b o e => e) (wpAny_pyIter_list hl.isList ?_)
    have hlt : p < s.heap.objs.size := by obtain ⟨o, ho, _⟩ := hl.isList; exact Heap.lt_size ho
    refine ⟨_, _, _, _, _, _, _, rfl, Walks.list hh s.heap.objs.size p (Nat.ne_of_lt hlt) its.toArray, ⟨⟨_, Heap.get?_push_size _ rfl, rfl, rfl⟩, hl.isList.push _⟩, fun b hb => ?_, by simpa [hlen] using hn, cmp_lt I h2 rv hk hu, fun b hb => ?_, fun b o e => Heap.get?_push_of_some _ e, fun u h' tk hP kp => ?_⟩
    · rcases List.mem_cons.mp hb with rfl | hb
      · rw [size_push']; exact Nat.lt_succ_self _
      · rw [List.mem_singleton.mp hb, size_push']; exact Nat.lt_succ_of_lt hlt
    · rw [List.mem_singleton.mp hb]; exact Heap.get?_none_of_le (Nat.le_refl _)
    · rw [show its.toArray.size = ys.length by simpa using hlen] at hP
      exact row_end (gens := #[]) I h2 rv hv hP kp fun w rw => q H w (.inl rfl) rw
  · rename_i ys
    obtain ⟨hk, hn, hv⟩ := fin ys hg
    obtain ⟨w, rfl, r1⟩ := RVs1 ra
    obtain ⟨p, ws, rfl, h1, h2⟩ := r1.tup
    obtain ⟨its, rv, hl, hz⟩ := I.tuple h1
    rw [Vals.ref1 r]
    have hlen : its.length = ys.length := by rw [← rv.length, h2.len]
    have hl' : s.heap.IsTuple p its.toArray := hl
    refine call_minH (h0 := s.heap) (fun b o e => e) (wpAny_pyIter_tuple hl' ?_)
    have hlt : p < s.heap.objs.size := by obtain ⟨o, ho, _⟩ := hl; exact Heap.lt_size ho
    refine ⟨_, _, _, _, _, _, _, rfl, Walks.tuple hh s.heap.objs.size p (Nat.ne_of_lt hlt) its.toArray, ⟨⟨_, Heap.get?_push_size _ rfl, rfl, rfl⟩, hl'.at fun o e => Heap.get?_push_of_some _ e⟩, fun b hb => ?_, by simpa [hlen] using hn, cmp_lt I h2 rv hk hu, fun b hb => ?_, fun b o e => Heap.get?_push_of_some _ e, fun u h' tk hP kp => ?_⟩
    · rcases List.mem_cons.mp hb with rfl | hb
      · rw [size_push']; exact Nat.lt_succ_self _
      · rw [List.mem_singleton.mp hb, size_push']; exact Nat.lt_succ_of_lt hlt
    · rw [List.mem_singleton.mp hb]; exact Heap.get?_none_of_le (Nat.le_refl _)
    · rw [show its.toArray.size = ys.length by simpa using hlen] at hP
      exact row_end (gens := #[]) I h2 rv hv hP kp fun w rw => q H w (.inl rfl) rw
  · rename_i a b
    split at hg
    · cases hg
    · rename_i hL
      rw [Bool.or_eq_true, not_or, Bool.not_eq_true, Bool.not_eq_true] at hL
      obtain ⟨hk, hn, hv⟩ := fin [a, b] hg
      obtain ⟨w, y, rfl, r1, r2⟩ := RVs2 ra
      have h2 : RFs X.K M W H [a, b] [w, y] := RFs.cons (r1.rf hL.1) (RFs.cons (r2.rf hL.2) RFs.nil)
      cases r with
      | cons q1 r => cases r with
        | cons q2 r =>
          cases r
          rename_i u1 u2
          have rv : Vals [w, y] [u1, u2] := .cons q1 (.cons q2 .nil)
          have ht : (s.heap.push { cls := .type "tuple", data := .seq #[u1, u2] }).IsTuple s.heap.objs.size #[u1, u2] := IsTup.new s.heap #[u1, u2]
          refine call_min2H (h0 := s.heap) (fun b o e => e) (wpAny_pyIter_tuple ht ?_)
          have sz : (s.heap.push { cls := .type "tuple", data := .seq #[u1, u2] }).objs.size = s.heap.objs.size + 1 := size_push' _ _
          refine ⟨_, _, _, _, _, _, _, rfl, Walks.tuple hh (s.heap.push { cls := .type "tuple", data := .seq #[u1, u2] }).objs.size s.heap.objs.size (by rw [sz]; exact Nat.ne_of_lt (Nat.lt_succ_self _)) #[u1, u2], ⟨⟨_, Heap.get?_push_size _ rfl, rfl, rfl⟩, ht.at fun o e => Heap.get?_push_of_some _ e⟩, fun b hb => ?_, by simp, cmp_lt I h2 rv hk hu, fun b hb => ?_, fun b o e => Heap.get?_push_of_some _ (Heap.get?_push_of_some _ e), fun u h' tk hP kp => ?_⟩
          · rcases List.mem_cons.mp hb with rfl | hb
            · exact Nat.lt_of_lt_of_eq (Nat.lt_succ_self _) (size_push' _ _).symm
            · rw [List.mem_singleton.mp hb]
              exact Nat.lt_of_lt_of_eq (by rw [sz]; exact Nat.lt_succ_of_lt (Nat.lt_succ_self _)) (size_push' _ _).symm
          · rw [List.mem_singleton.mp hb, sz]; exact Heap.get?_none_of_le (Nat.le_succ _)
          · exact row_end (gens := #[]) I h2 rv hv hP kp fun w rw => q H w (.inl rfl) rw
  · cases hg
end
end Mp
end
section
set_option maxRecDepth 100000
set_option maxHeartbeats 2000000
namespace Mp
open PySem PySem.Spec PyProof.Rows L2 GxR LamX
structure LamS1 (N : List Str) (sc scope : Scope) (x : Str) (i : Nat) : Prop where
  kind : scope.kind = .function
  co : scope.isCoroutine = false
  gen : scope.isGenerator = false
  own : ∀ y ∈ scope.names, y.2 = .local → y.1 = x
  nocell : ∀ y ∈ scope.names, y.2 ≠ .cell
  free : ∀ y ∈ scope.names, y.2 = .free → sc.names.lookup y.1 = some .cell ∨ sc.names.lookup y.1 = some .free
  par : scope.names.lookup x = some .local
  ix : N[i]? = some x
section
variable {X : Cx} {pins : List (Addr × Obj)} {σ : L2.St} {H HZ : Hp} {s s1 : Shared}
theorem LamS1.has {scope : Scope} {x : Str} {i : Nat} (L : LamS1 X.N X.env.scope scope x i) (ok : X.Ok) : ∀ y ∈ scope.names, y.2 = .free → ∃ c, X.env.cells.lookup y.1 = some c := fun y hy e => by
  rcases L.free y hy e with k | k
  · exact ok.has _ (.inl k)
  · exact ok.has _ (.inr k)
end
end Mp
end
section
set_option maxRecDepth 100000
set_option maxHeartbeats 4000000
namespace Mp
open PySem PySem.Spec PyProof.Rows L2 GxR LamX
section
variable {X : Cx} {pins : List (Addr × Obj)} {σ : L2.St} {H : Hp} {s : Shared}
end
section
variable {X : Cx} {tb : Tbs} {Wx : WX} {params : Arguments} {body : Expr} {scope : Scope} {x : Str} {i k : Nat} {mk : EM}
variable {σ : L2.St} {env : MEnv} {Mx : Addr → Prop} {W1 : List Addr} {H1 : Hp} {st1 : Sto} {p f c' : Addr} {pm ctv : Value} {xs : List PV} {pins : List (Addr × Obj)}
structure KSt (X : Cx) (tb : Tbs) (σ : L2.St) (env : MEnv) (Mx : Addr → Prop) (W1 : List Addr) (H1 : Hp) (i : Nat) (c' : Addr) (W : List Addr) (H : Hp) (st : Sto) : Prop where
  rel : Rel X.K tb Mx W (wipe σ [i]) H (killE [i] env) st
  kb : KB W1 H1 No W H No
theorem KSt.stp (r1 : Rel X.K tb Mx W1 σ H1 env st1) (hno : noOwn [i] env = true) {W : List Addr} {H : Hp} {st : Sto} (k : KSt X tb σ env Mx W1 H1 i c' W H st) : Stp X.K tb Mx env σ W1 H1 W H st :=
  r1.back (k.rel.toCall.less fun b z => z.elim .inl fun z => .inr ((om_wipe hno).mpr z)) k.kb
end
end Mp
end
section
set_option maxRecDepth 100000
set_option maxHeartbeats 4000000
namespace Mp
open PySem PySem.Spec PyProof.Rows L2 GxR LamX
section
variable {X : Cx} {pins pins' : List (Addr × Obj)} {σ : L2.St} {H : Hp} {s : Shared}
end
section
variable {i : Nat} {mk : EM} {env : MEnv} {st st' : Sto} {y : PV} {ys ks : List PV}
end
section
variable {X : Cx} {tb : Tbs} {params : Arguments} {body : Expr} {scope : Scope} {x : Str} {i k : Nat} {mk : EM} {σ : L2.St} {env : MEnv} {Mx : Addr → Prop} {W1 : List Addr} {H1 : Hp} {st1 : Sto} {l f c' It S : Addr} {pm ctv : Value} {xs : List PV} {pins : List (Addr × Obj)}
end
end Mp
end
section
set_option maxRecDepth 100000
set_option maxHeartbeats 4000000
namespace Mp
open PySem PySem.Spec PyProof.Rows L2 GxR LamX
section
variable {X : Cx} {tb : Tbs} {Wx : WX} {params : Arguments} {body e : Expr} {scope : Scope} {x : Str} {i k : Nat} {mk me : EM} {p lpos kpos pos : Pos} {c P : Addr}
end
end Mp
end
section
set_option maxRecDepth 100000
set_option maxHeartbeats 1000000
namespace Mp
open PySem PySem.Spec PyProof.Rows L2
section
variable {K : PySem.W.Frag} {tb : Tbs} {Mx : Addr → Prop} {W W' : List Addr} {σ : L2.St} {H H' : Hp} {env : MEnv} {st st' : Sto}
end
end Mp
end
section
set_option maxRecDepth 100000
set_option maxHeartbeats 4000000
namespace Mp
open PySem PySem.Spec PyProof.Rows L2 GxR LamX
theorem sortOk_data {ks : List PV} (h : sortOk ks = true) : (∀ k ∈ ks, pd 59 k = true) ∧ PySem.W.AllAlike (ks.map toD) ∧ PySem.W.Sortable (ks.map toD) ∧ (∀ a ∈ ks, ∀ b ∈ ks, alk a b = true) := by
  unfold sortOk at h
  rw [Bool.and_eq_true, Bool.and_eq_true] at h
  obtain ⟨⟨hd, hal⟩, hso⟩ := h
  have hd : ∀ k ∈ ks, pd 59 k = true := fun k hk => List.all_eq_true.mp hd k hk
  have halk : ∀ a ∈ ks, ∀ b ∈ ks, alk a b = true := fun a ha b hb => List.all_eq_true.mp (List.all_eq_true.mp hal a ha) b hb
  refine ⟨hd, ?_, ?_, halk⟩
  · intro d hd' d' hd''
    obtain ⟨b, hb, rfl⟩ := List.mem_map.mp hd'
    obtain ⟨c, hc, rfl⟩ := List.mem_map.mp hd''
    rw [alk_toD 59 59 _ _ (hd b hb) (hd c hc)]
    exact halk b hb c hc
  · rw [Bool.or_eq_true] at hso
    rcases hso with hso | hso
    · left
      intro d hd'
      obtain ⟨b, hb, rfl⟩ := List.mem_map.mp hd'
      have := List.all_eq_true.mp hso b hb
      revert this
      cases b with
      | tup zs => cases zs with
        | nil => intro z; cases z
        | cons z zs => intro _; exact ⟨toD z, toDs zs, rfl⟩
      | _ => intro z; cases z
    · right
      intro d hd'
      obtain ⟨b, hb, rfl⟩ := List.mem_map.mp hd'
      have h3 := List.all_eq_true.mp hso b hb
      have h4 := hd b hb
      revert h3 h4
      cases b <;> (intro h3 h4; first | (cases h3; done) | (unfold pd at h4; cases h4; done) | (refine ⟨fun z => ?_, fun xs z => ?_⟩ <;> simp [toD] at z))
section
variable {X : Cx} {tb : Tbs} {Wx : WX} {params : Arguments} {body : Expr} {scope : Scope} {x : Str} {i k : Nat} {mk : EM}
variable {σ : L2.St} {env : MEnv} {Mx : Addr → Prop} {W1 : List Addr} {H1 : Hp} {st1 stF : Sto} {f c' : Addr} {pm ctv : Value} {pins : List (Addr × Obj)}
end
end Mp
end
section
set_option maxRecDepth 100000
set_option maxHeartbeats 4000000
namespace Mp
open PySem PySem.Spec PyProof.Rows L2 GxR LamX
section
variable {X : Cx} {tb : Tbs} {Wx : WX} {params : Arguments} {body e : Expr} {scope : Scope} {x : Str} {i k : Nat} {mk me : EM} {p lpos kpos pos p2 pos2 : Pos} {c P : Addr}
variable {σ : L2.St} {env : MEnv} {Mx : Addr → Prop} {W1 : List Addr} {H1 : Hp} {st1 stF : Sto} {f c' : Addr} {pm ctv : Value} {pins : List (Addr × Obj)}
end
end Mp
end
section
set_option maxRecDepth 100000
set_option maxHeartbeats 4000000
namespace Mp
open PySem PySem.Spec PyProof.Rows
section
open PySem.W PySem.Calls
variable {prog : Program} {w : World} {A : Around} {s : Shared} {K : Frag} {R : Result → Shared → Prop} {C fI e cc cda t0 : Addr} {u : Value} {mg mb : Str → Option Value}
  {name qual txt fld self par : Str} {params : Arguments} {scope : Scope} {dV kV doc pm ct oc : Value} {an od : Option Addr} {osl : Array (Option Value)} {j : Nat} {p0 p1 p2 p3 p4 p5 p6 p7 p8 p9 : Pos}
  {ar : Arg} {ccl cl : Value} {cdd cld : Option Addr} {vs : Array Value} {ccs csl : Array (Option Value)} {file : Str} {tf : Tok} {cd : ClassData}
  {nm q : Str} {N : Addr} {bs bm : List Value} {sn : List Str} {sub : List Value} {ab : Bool} {col : Option Bool} {dd : Option Addr} {k0 k1 k2 k3 k5 : Option Value}
end
end Mp
end
section
set_option maxRecDepth 100000
set_option maxHeartbeats 4000000
namespace Mp
open PySem PySem.Spec PyProof.Rows L2
section
variable {X : Cx} {e : Expr} {ta : TA} {p pos : Pos} {x fld : Str} {C fI : Addr}
end
end Mp
end
section
set_option maxRecDepth 100000
set_option maxHeartbeats 4000000
namespace Mp
open PySem PySem.Spec PyProof.Rows L2
end Mp
end
section
set_option maxRecDepth 100000
set_option maxHeartbeats 1000000
namespace PySem
open Sem (wp)
open AutoSeq1 (wpAny_loadPart')
theorem meets_enumerate_newT (l : Addr) (items : Array Value) (n : Nat) (dct : Option Addr) (sl : Array (Option Value)) :
    Meets (Builtin.«enumerate.__new__» ⟨[.type "enumerate", .ref l], []⟩) (fun _ R s => s.heap.get? l = some { cls := .type "tuple", dict := dct, data := .seq items n, slots := sl } ∧
      R (.ok (.ret (.ref (s.heap.push { cls := .type "tuple_iterator", data := .fields #[.ref l, .int 0 0] }).objs.size)))
        { s with heap := (s.heap.push { cls := .type "tuple_iterator", data := .fields #[.ref l, .int 0 0] }).push { cls := .type "enumerate", data := .fields #[.none, .bool false, .ref s.heap.objs.size, rawInt 0, .none, .none] } }) :=
  .of_wp fun prog w A R s h => by
    obtain ⟨hp, g, d, tk, os⟩ := s; obtain ⟨hl, h⟩ := h
    have hsub := sub_enumerate
    have hL : Heap.IsTuple (Shared.heap ⟨hp, g, d, tk, os⟩) l items := ⟨_, hl, rfl, n, rfl⟩
    wp_walk using wpAny_loadPart' hl
    refine wpAny_stack_any fun st => wpAny_pure ?_
    split
    · rename_i c _ _ _ _ _
      cases (c == Value.type "enumerate")
      · wp_walk using wpAny_loadPart' hl, wpAny_pyIter_tuple hL
        exact ⟨_, rfl, h⟩
      · wp_walk using wpAny_loadPart' hl, wpAny_pyIter_tuple hL
        exact ⟨_, rfl, h⟩
    · wp_walk using wpAny_loadPart' hl, wpAny_pyIter_tuple hL
      exact ⟨_, rfl, h⟩
section
variable {prog : Program} {w : World} {A : Around} {E : Value → Shared → Prop} {s : Shared}
theorem call_enumerate_tuple {l : Addr} {items : Array Value} {Q : Value → Shared → Prop} (hL : s.heap.IsTuple l items)
    (h : ∀ h', IsEnum h' (s.heap.objs.size + 1) s.heap.objs.size 0 .none → h'.IsTupleIter s.heap.objs.size l 0 → h'.objs.size = s.heap.objs.size + 2 →
      (∀ b o, s.heap.get? b = some o → h'.get? b = some o) → Q (.ref (s.heap.objs.size + 1)) { s with heap := h' }) :
    wpAny (model prog w) A (call (.type "enumerate") [.ref l]) Q E s := by
  obtain ⟨⟨c, dct, dt, sl⟩, hl, hc, n, hd⟩ := hL
  replace hc : c = .type "tuple" := hc
  replace hd : dt = .seq items n := hd
  subst hc hd
  refine callType_new F.called_enumerate (by decide) (F.typeCall_enumerate_1 _) (F.newCall_enumerate_1 _) (fun obj => F.args_object_init_2 obj _) F.entry_enumerate_new
    (meets_enumerate_newT l items n dct sl) ⟨hl, ?_⟩
  have hz : (s.heap.push { cls := .type "tuple_iterator", data := .fields #[.ref l, .int 0 0] }).objs.size = s.heap.objs.size + 1 := Heap.size_push ..
  show _ ∧ _
  rw [hz]
  have he : IsEnum ((s.heap.push { cls := .type "tuple_iterator", data := .fields #[.ref l, .int 0 0] }).push
      { cls := .type "enumerate", data := .fields #[.none, .bool false, .ref s.heap.objs.size, rawInt 0, .none, .none] }) (s.heap.objs.size + 1) s.heap.objs.size 0 .none := by
    have := Heap.get?_push_size (s.heap.push { cls := .type "tuple_iterator", data := .fields #[.ref l, .int 0 0] })
      (o := { cls := .type "enumerate", data := .fields #[.none, .bool false, .ref s.heap.objs.size, rawInt 0, .none, .none] }) rfl
    rw [hz] at this; exact this
  refine ⟨⟨_, he, rfl⟩, h _ he ⟨_, Heap.get?_push_of_some _ (Heap.get?_push_size _ rfl), rfl, rfl⟩ (by rw [Heap.size_push, hz]) fun b o x => Heap.get?_push_of_some _ (Heap.get?_push_of_some _ x)⟩
end
theorem draws_tuple {prog : Program} {w : World} {A : Around} (hh : A.handled = none) (it l : Addr) (hne : l ≠ it) (items : Array Value) :
    Draws prog w A it [it, l] items.size (fun i v => items[i]? = some v) (fun i h => h.IsTupleIter it l i ∧ h.IsTuple l items) where
  live := fun _ _ st => let ⟨o, ho, _⟩ := st.1; ⟨o, ho⟩
  frame := fun _ _ _ st hk => ⟨st.1.at fun o e => hk it (by simp) o e, st.2.at fun o e => hk l (by simp) o e⟩
  item := fun i s Q E hi st hQ => by
    refine wpAny_nextOf_tuple_item st.1 st.2 (x := items[i]) (by simp [hi]) fun h' hit' hs' => ?_
    exact hQ _ h' s.toks (by simp [hi]) ⟨hit', st.2.at fun o e => (hs'.2 l hne).trans e⟩ hs'
  done := fun s Q E st hE => wpAny_nextOf_tuple_end hh st.1 st.2 (by simp) hE
end PySem
namespace Mp
open PySem PySem.Spec PyProof.Rows L2
def IteT (K : PySem.W.Frag) (a : Addr) : It :=
  ⟨fun i H => ∃ (xs : List V) (x : V), SqT K H a xs ∧ xs[i]? = some x, fun i H v H' => ∃ T x, v = .ref T ∧ H T = none ∧ H' = upd H T (.tup [.int (i : Nat), x]) ∧ ∀ xs, SqT K H a xs → xs[i]? = some x, fun i H => ∃ xs : List V, SqT K H a xs ∧ xs.length ≤ i⟩
theorem turn_enumT {P : Program} {w : World} {K : PySem.W.Frag} {elts : List Expr} {kk : Nat} {tpos : Pos} (a e it : Addr) :
    Turn P w K (.Tuple elts kk tpos) (IteT K a) [e, it] e (fun i h => (∃ old, IsEnum h e it ((i : Nat) : Int) old) ∧ h.IsTupleIter it a i ∧ e ≠ it) where
  mem := by simp
  obj := fun i h st b hb => by
    obtain ⟨⟨old, he⟩, ⟨o, ho, hc, hd⟩, _⟩ := st
    have e' : b = e ∨ b = it := by simpa using hb
    rcases e' with z | z
    · rw [z]; exact ⟨_, he, fun v q => nomatch q⟩
    · rw [z]; exact ⟨o, ho, fun v q => by rw [hd] at q; cases q⟩
  keep := fun i h h' st k => let ⟨⟨old, he⟩, hi, hne⟩ := st; ⟨⟨old, k e (by simp) _ he⟩, hi.at fun o q => k it (by simp) o q, hne⟩
  item := by
    intro X hP hw hK hc i pins s σ H E I hf st hg
    subst hP hw hK
    obtain ⟨⟨old, he⟩, hit, hne⟩ := st
    obtain ⟨xs, x, hq, hx⟩ := hg
    obtain ⟨its, rv, p, hz⟩ := I.tuple hq
    obtain ⟨u, hu, ru⟩ := rv.get hx
    have pt : s.heap.IsTuple a its.toArray := p
    have hel : e < s.heap.objs.size := Heap.lt_size he
    have hil : it < s.heap.objs.size := by obtain ⟨_, q, _⟩ := hit; exact Heap.lt_size q
    have nea : e ≠ a := fun z => by
      obtain ⟨o, ho, hc, _⟩ := pt
      rw [← z] at ho
      have he' : s.heap.get? e = _ := he
      rw [he'] at ho; cases ho; injection hc with z; exact absurd z (by decide)
    have nia : a ≠ it := fun z => by
      obtain ⟨o, ho, hc, _⟩ := pt
      obtain ⟨o', ho', hc', _⟩ := hit
      rw [z, ho'] at ho; cases ho; rw [hc'] at hc; injection hc with z; exact absurd z (by decide)
    have hi : i < its.toArray.size := by
      have := (List.getElem?_eq_some_iff.mp hu).1
      simpa using this
    refine wpAny_pyNext_enum_itemD (draws_tuple (A := X.A.in1) (show X.A.handled = none from I.ok.hd hc) it a nia its.toArray) he ⟨hit, pt⟩ hi hne (by simp [hne, nea]) fun x' h' tk hP ho hst hT hsz hk => ?_
    have ex : x' = u := by
      have h1 : its.toArray[i]? = some u := by simpa using hu
      rw [h1] at hP; cases hP; rfl
    subst ex
    refine ⟨_, rfl, wpAny_letOwnedTupleGo_enum (s := { s with heap := h', toks := tk + 1 }) ho fun h'' he' sb => ?_⟩
    have hT2 : h''.get? s.heap.objs.size = some { cls := .type "tuple", data := .seq #[.int i tk, x'] } := (sb.2 _ (Nat.ne_of_gt hel)).trans hT
    have new : ObjOk X.prog X.w (upd H s.heap.objs.size (.tup [.int (i : Nat), x])) h'' s.heap.objs.size (.tup [.int (i : Nat), x]) :=
      ⟨by show 2 ≤ sizeLine; decide, [.int i tk, x'], .cons ⟨_, rfl⟩ (.cons ru .nil), ⟨_, hT2, rfl, _, rfl⟩⟩
    have I1 : Inv X pins σ (upd H s.heap.objs.size (.tup [.int (i : Nat), x])) { s with heap := h'', toks := tk + 1 } :=
      I.turnedNew (ch := [e, it]) (fun b ob hb q => (sb.2 b (fun z => hb (by simp [z]))).trans (hk b ob (fun z => hb (by simp [z])) (fun z => hb (by simp [z])) q)) hf (Nat.le_refl _) new
    refine ⟨.ref s.heap.objs.size, _, I1, rfl, ⟨_, x, rfl, I.hok.fresh (Nat.le_refl _), rfl, fun ys hy => by rw [I.tuple_inj hy hq]; exact hx⟩, ⟨⟨x', ?_⟩, hst.1.at fun o q => (sb.2 it (Ne.symm hne)).trans q, hne⟩, fun b hb => ?_⟩
    · have e1 : ((i + 1 : Nat) : Int) = (i : Int) + 1 := by omega
      rw [e1]; exact he'
    · have hb' : b < s.heap.objs.size := by
        have e' : b = e ∨ b = it := by simpa using hb
        rcases e' with z | z
        · rw [z]; exact hel
        · rw [z]; exact hil
      rw [upd_ne (Nat.ne_of_lt hb')]
      exact (hf b hb).1
  done := by
    intro X hP hw hK hc i pins s σ H E I hf st hg
    subst hP hw hK
    obtain ⟨⟨old, he⟩, hit, hne⟩ := st
    obtain ⟨xs, hq, hx⟩ := hg
    obtain ⟨its, rv, p, hz⟩ := I.tuple hq
    have pt : s.heap.IsTuple a its.toArray := p
    obtain ⟨f0, f1, f2, f3, f4, f5⟩ := hf it (by simp)
    have hl := rv.length
    have nia : a ≠ it := fun z => by
      obtain ⟨o, ho, hc, _⟩ := pt
      obtain ⟨o', ho', hc', _⟩ := hit
      rw [z, ho'] at ho; cases ho; rw [hc'] at hc; injection hc with z; exact absurd z (by decide)
    have hT : s.TypeIs (.ref e) "enumerate" := ⟨_, he, rfl⟩
    unfold pyNext
    refine wpAny_bind (wpAny_attempt (wpAny_callSpecial?_slot (name := Str.ofString "__next__") hT F.slot_enumerate_next
      (wpAny_call_entry F.slot_enumerate_next hT F.entry_enumerate_next ?_ (F.args_enumerate_next_1 _))))
    show wpAny _ _ (field (.ref e) 2 >>= _) _ _ _
    refine wpAny_bind (wpAny_field he rfl (x := .ref it) rfl ?_)
    refine wpAny_bind (wpAny_nextOf_tuple_end (show X.A.handled = none from I.ok.hd hc) hit pt (by simp; omega) fun h' x he' hx' => ?_)
    obtain ⟨o, ho, hc⟩ := hx'
    refine wpAny_bind (wpAny_isInstance (T := "StopIteration") (b := true) ⟨o, ho, hc⟩ isSubtype_stop ?_)
    exact wpAny_pure ⟨rfl, I.turned (t' := s.toks) (fun b o hb q => he' b o hb q) f0 f1 f3 f4 f5⟩
  self := fun A i s Q E st h => let ⟨⟨_, he⟩, _⟩ := st; wpAny_pyIter_enum he h
def iEnumA (K : PySem.W.Frag) (ta : TA) : TI := fun σ H R => ta σ H fun vs H1 => ∃ a xs, vs = [.ref a] ∧ ((SqL K H1 a xs ∧ R (Ite K a) H1) ∨ (SqT K H1 a xs ∧ R (IteT K a) H1))
theorem pi_enumA {X : Cx} {e : Expr} {ta : TA} {p pos tpos : Pos} {elts : List Expr} {kk : Nat} (hg : Gl X "enumerate") (hm : X.mg "enumerate" = none) (ha : PA X [e] ta) (hs : starEach [e] X.env = [(false, eval e X.env)] := by rfl) :
    PI X (.Tuple elts kk tpos) (.Call (.Name "enumerate" p) [e] [] pos) (iEnumA X.K ta) := by
  refine ⟨fun pins s σ H R I h => ?_⟩
  refine Call_ (ld_blt I hg hm boot_enumerate (PyProof.Rows.callWith_type1 (thn (ha.run pos pins s σ H _ I h) fun us s1 ⟨vs, H1, I1, r1, q1⟩ => ?_) hs rfl))
  obtain ⟨a, xs, ex, hq⟩ := q1
  subst ex
  cases r1 with
  | cons r rr =>
    cases rr
    cases r
    have fpo : ∀ b ∈ [s1.heap.objs.size + 1, s1.heap.objs.size], s1.heap.objs.size ≤ b := fun b hb => by
      have e' : b = s1.heap.objs.size + 1 ∨ b = s1.heap.objs.size := by simpa using hb
      rcases e' with z | z
      · rw [z]; exact Nat.le_add_right _ _
      · rw [z]; exact Nat.le_refl _
    rcases hq with ⟨hq, q⟩ | ⟨hq, q⟩
    · obtain ⟨its, rv, p', hz⟩ := I1.list hq
      refine call_enumerate_list p'.isList fun h' he hit hsz hk => wpAny_pyIter_enum he ?_
      have I2 : Inv X pins σ H1 { s1 with heap := h' } := I1.kept (t' := s1.toks) hk
      exact ⟨s1.heap.objs.size + 1, [s1.heap.objs.size + 1, s1.heap.objs.size], _, _, H1, rfl, I2, turn_enum a (s1.heap.objs.size + 1) s1.heap.objs.size, ⟨⟨.none, he⟩, hit, Nat.succ_ne_self _⟩, fun b hb => I1.fpOk (fpo b hb) (I1.hok.fresh (fpo b hb)), q⟩
    · obtain ⟨its, rv, p', hz⟩ := I1.tuple hq
      refine call_enumerate_tuple (show s1.heap.IsTuple a its.toArray from p') fun h' he hit hsz hk => wpAny_pyIter_enum he ?_
      have I2 : Inv X pins σ H1 { s1 with heap := h' } := I1.kept (t' := s1.toks) hk
      exact ⟨s1.heap.objs.size + 1, [s1.heap.objs.size + 1, s1.heap.objs.size], _, _, H1, rfl, I2, turn_enumT a (s1.heap.objs.size + 1) s1.heap.objs.size, ⟨⟨.none, he⟩, hit, Nat.succ_ne_self _⟩, fun b hb => I1.fpOk (fpo b hb) (I1.hok.fresh (fpo b hb)), q⟩
def enumP (xs : List PV) : List PV := xs.zipIdx.map fun p => .tup [.int (p.2 : Nat), p.1]
theorem enumP_at {xs : List PV} {i : Nat} {v : PV} (h : (enumP xs)[i]? = some v) : ∃ x, xs[i]? = some x ∧ v = .tup [.int (i : Nat), x] := by
  unfold enumP at h
  rw [List.getElem?_map, List.getElem?_zipIdx] at h
  cases q : xs[i]? with
  | none => rw [q] at h; simp at h
  | some x => rw [q] at h; simp at h; exact ⟨x, rfl, h.symm⟩
theorem enumP_len (xs : List PV) : (enumP xs).length = xs.length := by unfold enumP; simp
section
variable {K : PySem.W.Frag} {M : Addr → Prop} {W : List Addr} {H : Hp}
theorem wlk_enumL {a : Addr} {xs : List PV} {ws : List V} (h : FzL K M H a ws) (r : RFs K M W H xs ws) : WlkI K (Ite K a) (enumP xs) M W H where
  go := fun i M' W' H' g hi => by
    have l1 := r.len
    rw [enumP_len] at hi
    exact ⟨ws, ws[i]'(by omega), (g.fzL h).sq, List.getElem?_eq_getElem _⟩
  yl := fun i M' W' H' x H2 y g hm hy ⟨T, w, e, hT, e2, f1⟩ => by
    subst e; subst e2
    obtain ⟨p, e1, rfl⟩ := enumP_at hy
    obtain ⟨p', k1, rp⟩ := (RFs.grow g _ r).getr (f1 ws (g.fzL h).sq)
    rw [e1] at k1; cases k1
    exact ⟨.inr ⟨T, .tup [.int (i : Nat), w], hT, (fun ps z => nomatch z), rfl⟩, rf_newT hm hT (RFs.cons (by unfold RF; rfl) (RFs.cons rp RFs.nil))⟩
  st := fun M' W' H' g => ⟨ws, (g.fzL h).sq, by
    have l1 := r.len
    rw [enumP_len]; omega⟩
theorem wlk_enumT {a : Addr} {xs : List PV} {ws : List V} (h : FzT K M H a ws) (r : RFs K M W H xs ws) : WlkI K (IteT K a) (enumP xs) M W H where
  go := fun i M' W' H' g hi => by
    have l1 := r.len
    rw [enumP_len] at hi
    exact ⟨ws, ws[i]'(by omega), (g.fzT h).sq, List.getElem?_eq_getElem _⟩
  yl := fun i M' W' H' x H2 y g hm hy ⟨T, w, e, hT, e2, f1⟩ => by
    subst e; subst e2
    obtain ⟨p, e1, rfl⟩ := enumP_at hy
    obtain ⟨p', k1, rp⟩ := (RFs.grow g _ r).getr (f1 ws (g.fzT h).sq)
    rw [e1] at k1; cases k1
    exact ⟨.inr ⟨T, .tup [.int (i : Nat), w], hT, (fun ps z => nomatch z), rfl⟩, rf_newT hm hT (RFs.cons (by unfold RF; rfl) (RFs.cons rp RFs.nil))⟩
  st := fun M' W' H' g => ⟨ws, (g.fzT h).sq, by
    have l1 := r.len
    rw [enumP_len]; omega⟩
end
def iEnumM (ms : AM) : AM := fun env st => bindR (ms env st) fun vs s => match vs with
  | [.lst xs] => .ok (enumP xs) s
  | [.tup xs] => .ok (enumP xs) s
  | _ => .bad
theorem i_enum {X : Cx} {tb : Tbs} {Wx : WX} {a : Expr} {ms : AM} {p pos tpos : Pos} {elts : List Expr} {kk : Nat} (hg : Gl X "enumerate") (hm : X.mg "enumerate" = none) (ha : AOk X tb Wx true [a] ms)
    (hs : starEach [a] X.env = [(false, eval a X.env)] := by rfl) : IOk X tb Wx (.Tuple elts kk tpos) (.Call (.Name "enumerate" p) [a] [] pos) (iEnumM ms) :=
  PI_mono (pi_enumA hg hm ha hs) fun σ H R ⟨Mx, W, env, st, rel, post⟩ => by
    refine ⟨Mx, W, env, st, rel, ?_⟩
    unfold iEnumM at post
    cases q : ms env st with
    | bad => rw [q] at post; exact post.elim
    | exc x s => rw [q] at post; exact post
    | ok vs s =>
      rw [q] at post
      intro W' H' ws a1 rm
      have rm : RFs X.K (Mt Mx W' env σ) W' H' vs ws := rm
      simp only [bindR] at post
      split at post
      · rename_i xs
        obtain ⟨w1, r1, rfl, h1, h4⟩ := rm.inv
        cases h4.nil_inv
        unfold RF at h1
        obtain ⟨pa, wa, rfl, fa, ra⟩ := h1
        exact ⟨pa, wa, rfl, .inl ⟨fa.sq, post W' H' _ a1 (wlk_enumL fa ra)⟩⟩
      · rename_i xs
        obtain ⟨w1, r1, rfl, h1, h4⟩ := rm.inv
        cases h4.nil_inv
        unfold RF at h1
        obtain ⟨pa, wa, rfl, fa, ra⟩ := h1
        exact ⟨pa, wa, rfl, .inr ⟨fa.sq, post W' H' _ a1 (wlk_enumT fa ra)⟩⟩
      · exact post.elim
end Mp
end
section
set_option maxRecDepth 100000
set_option maxHeartbeats 4000000
namespace Mp
open PySem PySem.Spec PyProof.Rows L2
def isNoneV : Value → Bool | .none => true | _ => false
def papCls (K : PySem.W.Frag) (C : Addr) : Bool := match K.lookup C with
  | some ⟨.type ty, _, .cls cd, ⟨[_, _, _, _, some (.builtin n), _]⟩⟩ => (match cd.mro with
    | .ref C' :: bm => decide (C' = C) && (decide (n = "ValueError.__new__") && (decide (ty = "type") && (!cd.hasDel && (cd.hasDict && PySem.HandSPX.refsVE bm))))
    | _ => false)
  | _ => false
def bmOf (K : PySem.W.Frag) (C : Addr) : List Value := match PySem.W.clsIn K C with | some cd => cd.mro.drop 1 | none => []
def isBlt (o : Option (Option Value)) (n : String) : Bool := match o with | some (some (.builtin m)) => decide (m = n) | _ => false
def isNoF (o : Option (Option Value)) : Bool := match o with | some none => true | _ => false
def isFnT : Option Value → Bool
  | some (.type t) => decide (t = "function")
  | _ => false
def papCode (file : Str) (K : PySem.W.Frag) (cda : Addr) : Bool := match K.lookup cda with
  | some ⟨_, _, .fields vs, _⟩ => (match (vs[2]? : Option Value) with | some (.str f _) => file == f | _ => false)
  | _ => false
def papCell (K : PySem.W.Frag) (cc C : Addr) : Bool := match K.lookup cc with
  | some ⟨_, _, .cell (some (.ref D)), _⟩ => decide (D = C)
  | _ => false
def papScope (sc : Scope) (self par : Str) : Bool :=
  decide (sc.names.lookup ("super" : Str) = some .globalImplicit) && (decide (sc.names.lookup ("__class__" : Str) = some .free) && (decide (sc.names.lookup self = some .local) && (decide (sc.names.lookup par = some .local) && (decide (sc.kind = .function) && ((sc.names.all fun y => !decide (y.2 = NameKind.cell)) && (!sc.isCoroutine && !sc.isGenerator))))))
def papFn (file : Str) (K : PySem.W.Frag) (C : Addr) (fld : Str) (fd : FuncData) : Bool := match fd.body, fd.params, fd.closure, fd.code with
  | .stmts [.Expr (.Call (.Attribute (.Call (.Name n0 p0) [] [] p1) n1 p2) [.Constant (.str txt) j p3] [] p4) p5, .Assign [.Attribute (.Name n2 p6) n3 p7] (.Name n4 p8) p9], ⟨[], [a0, a1], none, [], kd, none, df⟩, [(cn, cc)], .ref cda =>
    (decide (n0 = "super") && (decide (n1 = "__init__") && (decide (n3 = fld) && (decide (n2 = a0.arg) && (decide (n4 = a1.arg) && decide (cn = "__class__")))))) &&
    ((!(a1.arg == a0.arg) && ((p2.endLine == p4.line) && (PySem.W.codeIn K (.ref cda) fd.qualname && (isNoneV fd.defaults && (decide (fd.globals = mainGlobals) && decide (fd.builtins = builtinsNs)))))) &&
    (papScope fd.scope a0.arg a1.arg && (papCode file K cda && (papCell K cc C && (!(a0.arg == ("__debug__" : Str)) && !(a1.arg == ("__debug__" : Str)))))))
  | _, _, _, _ => false
def papB (file : Str) (K : PySem.W.Frag) (x fld : Str) : Bool := match clsAt K x with
  | some C => (match PySem.W.findIn K (.ref C) "__init__" with
    | some (some (.ref fI)) => (match K.lookup fI with
      | some ⟨_, _, .func fd, _⟩ => papFn file K C fld fd && (papCls K C && (isFnT (PySem.W.typeIn K (.ref fI)) && (isBlt (PySem.W.findIn K (.ref C) "__setattr__") "object.__setattr__" &&
          (isTru (PySem.W.subIn K (.ref C) (.type "BaseException")) && (isTyp (PySem.W.typeIn K (.ref C)) && (PySem.W.keepIn K (.ref C) && (isNoF (PySem.W.findIn K (.ref C) fld) && (isTru (PySem.W.mroIn K C (.ref C)) &&
          (isBlt (PySem.W.alongIn K "__init__" (bmOf K C)) "ValueError.__init__" && (isTru (PySem.W.subIn K (.ref C) (.type "ValueError")) && isNoF (PySem.W.nsIn K cStatics "thirdparty.any")))))))))))
      | _ => false)
    | _ => false)
  | none => false
end Mp
end
section
set_option maxRecDepth 100000
set_option maxHeartbeats 1000000
namespace Mp
open PySem PySem.Spec PyProof.Rows L2
end Mp
end
section
set_option maxRecDepth 100000
set_option maxHeartbeats 4000000
namespace PySem.W
open PySem PySem.Calls PyProof.Rows
section
variable {prog : Program} {w : World} {A : Around} {E : Value → Shared → Prop} {s : Shared} {β : Type} {bs : List β} {R : Value → β → Prop} {enc : β → PyData}
theorem sorted_coll {src : Value} {Q : Value → Shared → Prop} (hal : AllAlike (bs.map enc)) (hk : Sortable (bs.map enc)) (hL : bs.length ≤ sizeLine) (hu : ∀ b, b ∈ bs → A.units + 2 + (enc b).depth < cLine)
    (hcol : ∀ Q' : List Value → Shared → Prop, (∀ (h' : Heap) (tk : Nat) (vs : List Value), (∀ b o, s.heap.get? b = some o → h'.get? b = some o) → EachIs R vs bs → EachIs (fun v b => ∃ as, Reads h' v (enc b) as) vs bs → Q' vs { s with heap := h', toks := tk }) → wpAny (model prog w) A.in1 (collect src) Q' E s)
    (h : ∀ (out : List Value) (h' hF : Heap) (tk c : Nat), (∀ b o, s.heap.get? b = some o → h'.get? b = some o) → (∀ b o, h'.get? b = some o → hF.get? b = some o) → hF.get? h'.objs.size = some (seqObj "list" (List.toArray out) c) → out.length = bs.length → EachIs R out (bs.mergeSort (dataLe false enc)) →
      Q (.ref h'.objs.size) { s with heap := hF, toks := tk }) :
    wpAny (model prog w) A (call (.builtin "sorted") [src]) Q E s := by
  refine Calls.call_function_entry kind_sorted plain_sorted entry_sorted (args_sorted1 _) ?_
  unfold Builtin.«sorted»
  refine wpAny_bind (m := checkCount "sorted" 1 1 _) (wpAny_pure ?_)
  refine wpAny_bind (hcol _ fun h' tk vs kp e er => ?_)
  refine wpAny_bind (wpAny_newList ?_ (by rw [e.length]; exact hL))
  have ho : (h'.push (seqObj "list" vs.toArray 0)).get? h'.objs.size = some (seqObj "list" vs.toArray 0) := Heap.get?_push_size _ rfl
  have hold : ∀ b o, h'.get? b = some o → (sortingHeap (h'.push (seqObj "list" vs.toArray 0)) h'.objs.size vs).get? b = some o := fun b o q => sortingHeap_old (Nat.ne_of_lt (Heap.lt_size q)) (Heap.get?_push_of_some _ q)
  have er' : EachIs (fun v b => ∃ as, Reads (sortingHeap (h'.push (seqObj "list" vs.toArray 0)) h'.objs.size vs) v (enc b) as) vs bs := er.mono fun _ _ ⟨as, r⟩ => ⟨as, PyProof.Rows.Reads.keeps hold r⟩
  obtain ⟨c, hc⟩ := PyProof.Rows.sortedHeap_at (out := (sortVals (dataKind (sortingHeap (h'.push (seqObj "list" vs.toArray 0)) h'.objs.size vs) (bs.map enc)) false vs vs).toArray) ho
  refine wpAny_bind (wpAny_holding (wpAny_call_entry slot_list_sort ⟨_, ho, rfl⟩ entry_list_sort (list_sort_vals (A := A.in1.in1) (s := { s with heap := h'.push (seqObj "list" vs.toArray 0), toks := tk }) (κ := dataKind (sortingHeap (h'.push (seqObj "list" vs.toArray 0)) h'.objs.size vs) (bs.map enc)) ho
    (SortsAt.data (s := { s with heap := sortingHeap (h'.push (seqObj "list" vs.toArray 0)) h'.objs.size vs, toks := tk }) (each_map (R := fun v d => ∃ as, Reads (sortingHeap (h'.push (seqObj "list" vs.toArray 0)) h'.objs.size vs) v d as) enc er') hal hk (bound_map (A := A.in1.in1) hu)) (by rw [e.length]; exact hL) ⟨_, rfl, wpAny_pure ⟨_, rfl, ?_⟩⟩) (args_list_sort _)))
  refine h _ h' _ tk c kp (fun b o q => ?_) hc (by rw [sortVals_length false rfl]; exact e.length) (sortVals_data false e er' hal)
  rw [PyProof.Rows.sortedHeap_old (Nat.ne_of_lt (Heap.lt_size q)) (by rw [size_push']; exact Nat.lt_succ_of_lt (Heap.lt_size q))]
  exact Heap.get?_push_of_some _ q
end
end PySem.W
namespace Mp
open PySem PySem.Spec PyProof.Rows L2
def bSortedA (s : Sto) : List PV → Option (List PV)
  | [.tup xs] => if sortOk xs then some (pvSort xs) else none
  | xs => bSorted s xs
theorem cn_sortedA {X : Cx} (hu : X.A.units + 100 < cLine) : CallN X (.builtin "sorted") bSortedA := by
  intro pins s σ H xs us Q I r h
  obtain ⟨M, W, st, args, v, hm, so, ra, hg, q⟩ := h
  unfold bSortedA at hg
  split at hg
  · rename_i ys
    split at hg
    · rename_i hk
      cases hg
      obtain ⟨hd59, hal, hsk, halk⟩ := sortOk_data hk
      obtain ⟨w, rfl, r1⟩ := RVs1 ra
      obtain ⟨p, ws, rfl, h1, h2⟩ := r1.tup
      obtain ⟨its, rv, ⟨o, ho, hcl, n, hdt⟩, hz⟩ := I.tuple h1
      rw [Vals.ref1 r]
      have hlen : ws.length = ys.length := h2.len
      have hvl := rv.length
      have hmem : ∀ b ∈ ws.zip ys, RF X.K M W H b.2 b.1 ∧ pd 59 b.2 = true := pairs_each (P := fun w x => RF X.K M W H x w ∧ pd 59 x = true) hlen fun i w x e1 e2 => by
        obtain ⟨w', e3, rf⟩ := h2.get e2
        rw [e1] at e3; cases e3
        exact ⟨rf, hd59 x (List.mem_of_getElem? e2)⟩
      have hsnd : (ws.zip ys).map (·.2) = ys := by rw [← List.unzip_snd, List.unzip_zip_right (by omega)]
      have hmem2 : ∀ b ∈ ws.zip ys, b.2 ∈ ys := fun b hb => (List.of_mem_zip hb).2
      have hbk : (ws.zip ys).map (fun b => toD b.2) = ys.map toD := by
        conv => rhs; rw [← hsnd]
        rw [List.map_map]; rfl
      refine PySem.W.sorted_coll (R := fun v (b : V × PV) => RelV b.1 v) (enc := fun b => toD b.2) (bs := ws.zip ys) (by rw [hbk]; exact hal) (by rw [hbk]; exact hsk) (by rw [List.length_zip]; omega) (fun b hb => ?_)
        (fun Q' hq => wpAny_collect_seq p (.inr rfl) ho hcl hdt (fun h' kp => ?_) (by rw [List.size_toArray]; omega)) fun out h' hF tk c k1 k2 ha hol ho => ?_
      · have := (pd_lay 59 b.2 (hmem b hb).2).2
        show X.A.units + 2 + (toD b.2).depth < cLine
        omega
      · have hq' := hq h' s.toks its kp (each_zip (its := its) hlen rv) ?_
        · rw [List.toList_toArray]; exact hq'
        · have I2 : Inv X pins σ H { s with heap := h', toks := s.toks } := I.kept (t' := s.toks) kp
          refine each_of (by rw [List.length_zip, ← rv.length]; omega) fun i a b e1 e2 => ?_
          have hb := List.mem_of_getElem? e2
          have e3 : ws[i]? = some b.1 := by
            have := congrArg (Option.map Prod.fst) e2
            rw [← List.getElem?_map, ← List.unzip_fst, List.unzip_zip_left (by omega)] at this
            exact this
          obtain ⟨u, e4, ru⟩ := rv.get e3
          rw [e1] at e4; cases e4
          exact Dp.reads I2 (toD b.2) b.1 a (RF.dp 59 b.2 (hmem b hb).2 (hmem b hb).1) ru
      · have hfin : ((ws.zip ys).mergeSort (PySem.W.dataLe false fun b => toD b.2)).map (·.2) = pvSort ys := by
          have e := List.map_mergeSort (r := PySem.W.dataLe false fun b => toD b.2) (s := fun a b => !pvLt b a) (f := fun (b : V × PV) => b.2) (l := ws.zip ys) ?_
          · rw [e, hsnd]; rfl
          intro a ha b hb
          show (!PySem.W.dataLt (toD b.2) (toD a.2)) = !pvLt b.2 a.2
          rw [lt_toD 59 59 b.2 a.2 (hmem b hb).2 (hmem a ha).2 (halk _ (hmem2 b hb) _ (hmem2 a ha))]
        have hv := each_vals ho
        have hrf : RFs X.K M W H (pvSort ys) (((ws.zip ys).mergeSort (PySem.W.dataLe false fun b => toD b.2)).map (·.1)) := by
          rw [← hfin]
          exact rfs_of_mem fun b hb => (hmem b (List.mem_mergeSort.mp hb)).1
        have I2 : Inv X pins σ H { s with heap := h', toks := tk } := I.kept (t' := tk) k1
        refine ⟨.ref _, upd H h'.objs.size (.lst (((ws.zip ys).mergeSort (PySem.W.dataLe false fun b => toD b.2)).map (·.1))), I2.laid (t' := tk) k2 (Nat.le_refl _) ⟨?_, out, c, hv, ha⟩, rfl, q _ _ (I2.hok.fresh (Nat.le_refl _)) hrf⟩
        rw [List.length_map, List.length_mergeSort, List.length_zip]
        omega
    · cases hg
  · exact cn_sorted hu pins s σ H xs us Q I r ⟨M, W, st, args, v, hm, so, ra, hg, q⟩
end Mp
end
section
set_option maxRecDepth 100000
set_option maxHeartbeats 4000000
namespace Mp
open PySem PySem.Spec PyProof.Rows L2 GxR LamX
section
variable {X : Cx} {tb : Tbs} {Wx : WX} {params : Arguments} {body a : Expr} {scope : Scope} {x : Str} {i k : Nat} {mk ma : EM} {p lpos kpos pos p2 pos2 : Pos} {c P : Addr}
end
end Mp
end
section
set_option maxRecDepth 100000
set_option maxHeartbeats 1000000
namespace Mp
open PySem PySem.Spec PyProof.Rows L2
mutual
def noL : PV → Bool
  | .tup xs => noLs xs
  | .lst _ => false
  | .dct _ _ => false
  | _ => true
def noLs : List PV → Bool
  | [] => true
  | x :: xs => noL x && noLs xs
end
def okO : PO → Bool
  | .lst xs => noLs xs
  | .dct _ vs => noLs vs
  | .dci _ vs => noLs vs
section
variable {K : PySem.W.Frag} {M M2 : Addr → Prop} {W : List Addr} {H : Hp} {p : Addr} {ws0 : List V}
theorem FzT.more {q : Addr} {ws : List V} (hp : H p = some (.lst ws0)) (hM : ∀ b, M2 b → M b ∨ b = p) (h : FzT K M H q ws) : FzT K M2 H q ws := by
  rcases h with ⟨h, n⟩ | h
  · refine .inl ⟨h, fun z => ?_⟩
    rcases hM q z with z | rfl
    · exact n z
    · rcases h with h | ⟨o, h⟩ <;> (rw [hp] at h; cases h)
  · exact .inr h
theorem KsOk.more (hp : H p = some (.lst ws0)) (hM : ∀ b, M2 b → M b ∨ b = p) : ∀ {ks : List (List Int)} {as : List Addr}, KsOk K M H ks as → KsOk K M2 H ks as
  | [], _, h => h
  | _ :: _, _, ⟨a, r, e, h1, h2⟩ => ⟨a, r, e, h1.more hp hM, KsOk.more hp hM h2⟩
mutual
theorem RF.more (hp : H p = some (.lst ws0)) (hM : ∀ b, M2 b → M b ∨ b = p) : ∀ (v : PV) {w : V}, noL v = true → RF K M W H v w → RF K M2 W H v w
  | .non, _, _, h => by unfold RF at h ⊢; exact h
  | .bl b, _, _, h => by unfold RF at h ⊢; exact h
  | .int i, _, _, h => by unfold RF at h ⊢; exact h
  | .str s, _, _, h => by unfold RF at h ⊢; exact h
  | .tup xs, _, n, h => by
    unfold RF at h ⊢
    unfold noL at n
    obtain ⟨q, ws, e, h1, h2⟩ := h
    exact ⟨q, ws, e, h1.more hp hM, RFs.more hp hM xs n h2⟩
  | .lst xs, _, n, h => by unfold noL at n; cases n
  | .ref n, _, _, h => by unfold RF at h ⊢; exact h
  | .fn x, _, _, h => by unfold RF at h ⊢; exact h
  | .dct ks vs, _, n, h => by unfold noL at n; cases n
theorem RFs.more (hp : H p = some (.lst ws0)) (hM : ∀ b, M2 b → M b ∨ b = p) : ∀ (xs : List PV) {ws : List V}, noLs xs = true → RFs K M W H xs ws → RFs K M2 W H xs ws
  | [], _, _, h => by unfold RFs at h ⊢; exact h
  | x :: xs, _, n, h => by
    unfold noLs at n
    rw [Bool.and_eq_true] at n
    unfold RFs at h ⊢
    obtain ⟨w, r, e, h1, h2⟩ := h
    exact ⟨w, r, e, RF.more hp hM x n.1 h1, RFs.more hp hM xs n.2 h2⟩
end
end
section
variable {K : PySem.W.Frag} {tb : Tbs} {Mx Mx2 : Addr → Prop} {W W' : List Addr} {σ : L2.St} {H H' : Hp} {env : MEnv} {st st' : Sto} {i : Nat} {xs : List PV}
end
end Mp
end
section
set_option maxRecDepth 100000
set_option maxHeartbeats 1000000
namespace Mp
open PySem PySem.Spec PyProof.Rows L2
end Mp
end
section
set_option maxRecDepth 100000
set_option maxHeartbeats 1000000
namespace Mp
open PySem PySem.Spec PyProof.Rows L2
section
variable {X : Cx} {tb : Tbs} {Wx : WX} {e o : Expr} {m mo me : EM} {lo hi : Option Expr} {ml mh : PM} {pos p2 apos : Pos}
end
theorem RFs.dropLast {K : PySem.W.Frag} {M : Addr → Prop} {W : List Addr} {H : Hp} {xs : List PV} {ws : List V} (r : RFs K M W H xs ws) : RFs K M W H xs.dropLast ws.dropLast := by
  rw [List.dropLast_eq_take, List.dropLast_eq_take, r.len]
  exact r.take _
end Mp
end
section
set_option maxRecDepth 100000
set_option maxHeartbeats 1000000
namespace Mp
open PySem PySem.Spec PyProof.Rows L2
end Mp
end
section
set_option maxRecDepth 100000
set_option maxHeartbeats 1000000
namespace Mp
open PySem PySem.Spec PyProof.Rows L2
abbrev PsT := Addr → V → Hp → (Hp → Prop) → Prop
def PsOk (Y : Cx) (Pt : PsT) : Prop := ∀ (pins : List (Addr × Obj)) (σ : L2.St) (H : Hp) (s : Shared) (D : Addr) (y : V) (u : Value) (N : Hp → Prop) (Q : Value → Shared → Prop) (E : Value → Shared → Prop),
  Inv Y pins σ H s → Pt D y H N → RelV y u → (∀ H' s', Inv Y pins σ H' s' → N H' → Q .none s') → wpAny (model Y.prog Y.w) Y.A (call (.builtin "set.add") [.ref D, u]) Q E s
section
variable {X : Cx}
end
end Mp
end
section
set_option maxRecDepth 100000
set_option maxHeartbeats 1000000
namespace Mp
open PySem PySem.Spec PyProof.Rows L2
def PsS (K : PySem.W.Frag) (P : Program) (w : World) : PsT := fun D y H N => ∃ (M : Addr → Prop) (L : List (Addr × List Int)) (k : List Int) (b : Addr), y = .ref b ∧ FzT K M H b (k.map V.int) ∧ H D = some (SetTO P w D L) ∧ (∀ p ∈ L, FzT K M H p.1 (p.2.map V.int)) ∧ L.length + 1 < 64 ∧
  ∀ L', (k ∈ L.map (·.2) → L' = L) → (k ∉ L.map (·.2) → L'.Perm ((b, k) :: L)) → N (upd H D (SetTO P w D L'))
theorem set_of {X : Cx} {pins : List (Addr × Obj)} {σ : L2.St} {H : Hp} {s : Shared} {D : Addr} {L : List (Addr × List Int)} {M : Addr → Prop} (I : Inv X pins σ H s) (e : H D = some (SetTO X.prog X.w D L)) (fL : ∀ p ∈ L, FzT X.K M H p.1 (p.2.map V.int)) : ∃ es ep t, SetTR X.prog X.w s.heap D L es ep t := by
  have R0 : SetT0 X.prog X.w s.heap D L := (I.hok D _ e).1
  exact R0.full fun p hp => Inv.isT I (fL p hp).sq
theorem ps_set {Y : Cx} (hu : Y.A.units + 8 < cLine) : PsOk Y (PsS Y.K Y.prog Y.w) := by
  rintro pins σ H s D y u N Q E I ⟨M, L, k, b, rfl, fz, e, fL, hl, n⟩ ry fin
  cases (show u = Value.ref b from ry)
  have hb := Inv.isT I fz.sq
  obtain ⟨es, ep, t, R⟩ := set_of I e fL
  have hT : s.TypeIs (.ref D) "set" := by
    obtain ⟨o, ho, hx, _⟩ := R.ob
    exact ⟨o, ho, hx.1⟩
  refine wpAny_call_entry PySem.F.slot_set_add hT PySem.F.entry_set_add ?_ (PySem.F.args_set_add_2 _ _)
  unfold Builtin.«set.add» Builtin.Frozenset.oneOther
  simp only [List.isEmpty_nil, bind_assoc]
  unfold Builtin.Frozenset.addrOf setAdd
  refine wpAny_bind (wpAny_pure ?_)
  try dsimp only
  refine wpAny_bind (wpAny_pure ?_)
  try dsimp only
  refine wpAny_bind ?_
  refine wpAny_holding ?_
  refine wpAny_bind (wpAny_pyHash_tuple (show Y.A.units + 1 < cLine by omega) hb ?_)
  refine add_at (s := { s with toks := s.toks + (k.length + 1) }) R hb (show Y.A.units + 1 < cLine by omega) hl fun b' h' L' es' ep' t' sb R' c1 c2 => ?_
  show wpAny _ _ (ret Value.none) _ _ _
  have he : ∃ u, h'.get? D = some u := by
    obtain ⟨o, ho, _⟩ := R'.ob
    exact ⟨o, ho⟩
  exact wpAny_pure ⟨_, rfl, fin _ _ (I.write (e := D) (t' := s.toks + (k.length + 1)) (by rw [e]; trivial) (.inl rfl) (fun b u hb hu => (sb.2 b hb).trans hu) he (setTO_new R'.t0)) (n L' c1 c2)⟩
end Mp
end
section
set_option maxRecDepth 100000
set_option maxHeartbeats 4000000
namespace PySem.W
open PySem PySem.Calls PyProof.Rows
section
variable {prog : Program} {w : World} {A : Around} {E : Value → Shared → Prop} {s : Shared} {β : Type} {bs : List β} {R : Value → β → Prop} {enc : β → PyData}
end
end PySem.W
end
section
set_option maxRecDepth 100000
set_option maxHeartbeats 1000000
namespace Mp
open PySem PySem.Spec PyProof.Rows L2
def kP (k : List Int) : PV := .tup (k.map .int)
theorem rfs_ints {K : PySem.W.Frag} {M : Addr → Prop} {W : List Addr} {H : Hp} : ∀ k : List Int, RFs K M W H (k.map PV.int) (k.map V.int)
  | [] => RFs.nil
  | x :: k => RFs.cons rf_int (rfs_ints k)
theorem rf_kP {K : PySem.W.Frag} {M : Addr → Prop} {W : List Addr} {H : Hp} {b : Addr} {k : List Int} (h : FzT K M H b (k.map V.int)) : RF K M W H (kP k) (.ref b) := by
  unfold kP RF
  exact ⟨b, _, rfl, h, rfs_ints k⟩
end Mp
end
section
set_option maxRecDepth 100000
set_option maxHeartbeats 4000000
namespace Mp
open PySem PySem.Spec PyProof.Rows L2
theorem Rel.putMxS {K : PySem.W.Frag} {tb : Tbs} {Mx : Addr → Prop} {W : List Addr} {σ : L2.St} {H : Hp} {env : MEnv} {st : Sto} {D : Addr} {o0 o1 : HO} (r : Rel K tb Mx W σ H env st) (hm : Mx D) (h0 : H D = some o0) (hn : ¬ TabLike o0) : Rel K tb Mx W σ (upd H D o1) env st := by
  have g : Grow (Mt Mx W env σ) (Mt Mx W env σ) W W H (upd H D o1) := ⟨fun b u h n _ => by rw [upd_ne (fun z => n (.inr (.inl (by rw [z]; exact hm))))]; exact h, fun b _ n => n, List.prefix_refl _⟩
  refine ⟨fun P hP => (r.tab P hP).keep fun b o h t => ?_, fun b h => ?_, r.nd, r.wo, r.om, r.inj, r.el, r.len, fun j q u h1 h2 => (r.sto j q u h1 h2).grow g fun x hx _ => ?_, fun j u h => ?_, fun j u h => ?_⟩
  · rw [upd_ne (fun z => by rw [z, h0] at h; cases h; exact hn t)]; exact h
  · by_cases q : b = D
    · rw [q, upd_same]; simp
    · rw [upd_ne q]; exact r.mx b h
  · rw [upd_ne (fun z => (r.wo q (List.mem_of_getElem? h1)).1 (by rw [z]; exact hm))]; exact hx
  · obtain ⟨x, e2, rf⟩ := r.pv j u h
    exact ⟨x, e2, RF.grow g _ rf⟩
  · obtain ⟨x, e2, rf⟩ := r.own j u h
    exact ⟨x, e2, rf.grow g fun y hy _ => by rw [upd_ne (fun z => r.om x ⟨j, u, h, e2⟩ (by rw [z]; exact hm))]; exact hy⟩
section
variable {X : Cx} {tb : Tbs} {Wx : WX} {kx tg iter : Expr} {ifs : List Expr} {sc : Scope} {own : List (Str × Nat)} {pos : Pos} {mi : AM} {g : PV → MEnv → Option MEnv} {tc : TM} {mk : EM} {is vs : List Nat}
end
end Mp
end
section
set_option maxRecDepth 100000
set_option maxHeartbeats 4000000
namespace L2
open PySem PySem.Spec PyProof.Rows
section
variable {P : Program} {w : World} {h : Heap} {a : Addr} {L : List (Addr × List Int)}
end
section
variable {P : Program} {w : World} {A : Around} {E : Value → Shared → Prop} {s : Shared} {a : Addr} {L : List (Addr × List Int)} {es : Array (Int × Value)} {ep : Nat} {t : SetTable}
end
end L2
namespace Mp
open PySem PySem.Spec PyProof.Rows L2
section
variable {X : Cx} {tb : Tbs} {Wx : WX} {kx tg iter : Expr} {ifs : List Expr} {sc : Scope} {own : List (Str × Nat)} {pos : Pos} {mi : AM} {g : PV → MEnv → Option MEnv} {tc : TM} {mk : EM} {is vs : List Nat}
end
end Mp
end
section
set_option maxRecDepth 100000
set_option maxHeartbeats 1000000
namespace Mp
open PySem PySem.Spec PyProof.Rows L2
section
variable {prog : Program} {w : World} {A : Around} {R : Result → Shared → Prop} {s : Shared} {elt t0 i0 t1 i1 : Expr} {ifs0 ifs1 : List Expr} {scope : Scope} {pos : Pos} {it acc : Value} {env : Env}
end
section
variable {X : Cx}
end
end Mp
end
section
set_option maxRecDepth 100000
set_option maxHeartbeats 1000000
namespace Mp
open PySem PySem.Spec PyProof.Rows L2
def SetIO (w : World) (a : Addr) (S : Int → Bool) (n : Nat) : HO := .ext fun h => SetR w h a S n
theorem setI_code {w : World} {p : Addr} {S : Int → Bool} {n : Nat} {c : Addr} {q : Str} (e : SetIO w p S n = LamX.CodeO c q) : False := by
  have e' : (fun h => SetR w h p S n) = fun h => ∃ (oc : Obj) (vs : Array Value) (t : Tok), h.get? c = some oc ∧ oc.data = .fields vs ∧ vs[1]? = some (.str q t) := HO.ext.inj e
  have hp : ∀ b : Nat, b < max c p + 1 → ({ objs := Array.replicate (max c p + 1) { cls := .none, data := .fields #[.none, .str q 0] } } : Heap).get? b = some { cls := .none, data := .fields #[.none, .str q 0] } := fun b hb => by
    unfold Heap.get?; simp [hb]
  have y := congrFun e' ({ objs := Array.replicate (max c p + 1) { cls := .none, data := .fields #[.none, .str q 0] } } : Heap)
  have y2 : SetR w ({ objs := Array.replicate (max c p + 1) { cls := .none, data := .fields #[.none, .str q 0] } } : Heap) p S n := by
    rw [y]; exact ⟨_, _, 0, hp c (by omega), rfl, rfl⟩
  obtain ⟨o, es, ep, t, h1, _, h2, _⟩ := y2
  rw [hp p (by omega)] at h1
  cases h1
  exact nomatch h2
theorem noTbl_setI {w : World} {p : Addr} {S : Int → Bool} {n : Nat} : NoTbl (SetIO w p S n) := fun ps e => nomatch e
theorem setI_noTab {w : World} {p : Addr} {S : Int → Bool} {n : Nat} : ¬ TabLike (SetIO w p S n) := by
  rintro (⟨_, t⟩ | ⟨_, _, t⟩)
  · unfold SetIO at t; cases t
  · exact setI_code t
theorem rev_ind {α : Type} {P : List α → Prop} (h0 : P []) (h1 : ∀ l x, P l → P (l ++ [x])) (l : List α) : P l := by
  rw [← List.reverse_reverse l]
  generalize l.reverse = r
  induction r with
  | nil => exact h0
  | cons x r ih => rw [List.reverse_cons]; exact h1 _ _ ih
def dI (ks : List Int) : List Int := ks.foldl (fun acc x => if x ∈ acc then acc else acc ++ [x]) []
theorem dI_snoc (ks : List Int) (k : Int) : dI (ks ++ [k]) = if k ∈ dI ks then dI ks else dI ks ++ [k] := by
  unfold dI; rw [List.foldl_append]; rfl
theorem dI_mem (ks : List Int) (j : Int) : j ∈ dI ks ↔ j ∈ ks := by
  induction ks using rev_ind with
  | h0 => simp [dI]
  | h1 ks k ih =>
    rw [dI_snoc]
    split
    · rename_i h; rw [ih, List.mem_append, List.mem_singleton]
      constructor
      · exact .inl
      · rintro (z | z)
        · exact z
        · subst z; exact ih.mp h
    · rw [List.mem_append, List.mem_append, ih]
def iSort (ks : List Int) : List Int := (dI ks).mergeSort fun a b => decide (a ≤ b)
section
variable {w : World} {K : PySem.W.Frag} {mg : Str → Option Value} {tb : Tbs} {Mx : Addr → Prop} {W W' W1 : List Addr} {σ : L2.St} {H H' H1 : Hp} {env : MEnv} {st st' : Sto} {D : Addr}
structure SiI (w : World) (K : PySem.W.Frag) (tb : Tbs) (Mx : Addr → Prop) (D : Addr) (W1 : List Addr) (H1 : Hp) (σ : L2.St) (env : MEnv) (W' : List Addr) (H' : Hp) (st' : Sto) (acc : List Int) : Prop where
  rel : Rel K tb (fun b => Mx b ∨ b = D) W' σ H' env st'
  kb : KB W1 H1 No W' H' No
  acc : H' D = some (SetIO w D (fun j => decide (j ∈ acc)) (dI acc).length)
theorem SiI.stp {env1 : MEnv} {σ1 : L2.St} {W2 : List Addr} {H2 : Hp} {s2 : Sto} {acc : List Int} (l : SiI w K tb Mx D W1 H1 σ env W' H' st' acc) (a : Stp K tb (fun b => Mx b ∨ b = D) env σ W' H' W2 H2 s2) : SiI w K tb Mx D W1 H1 σ env W2 H2 s2 acc := by
  have nD : D ∉ W' := fun z => (l.rel.wo D z).1 (.inr rfl)
  exact ⟨a.rel, l.kb.trans a.kb, a.kp D _ l.acc nD noTbl_setI⟩
theorem SiI.turn {env1 : MEnv} {σ1 : L2.St} {acc : List Int} (l : SiI w K tb Mx D W1 H1 σ env W' H' st' acc) (r : Rel K tb (fun b => Mx b ∨ b = D) W' σ1 H' env1 st') (om : ∀ p, Om env1 σ1 p → Om env σ p) : SiI w K tb Mx D W1 H1 σ1 env1 W' H' st' acc :=
  ⟨r, l.kb, l.acc⟩
theorem setI_step (acc : List Int) (k : Int) : SetIO w D (fun j => decide (j ∈ acc) || decide (j = k)) (if decide (k ∈ acc) = true then (dI acc).length else (dI acc).length + 1) = SetIO w D (fun j => decide (j ∈ acc ++ [k])) (dI (acc ++ [k])).length := by
  have e1 : (fun j => decide (j ∈ acc) || decide (j = k)) = fun j => decide (j ∈ acc ++ [k]) := by
    funext j; simp [List.mem_append]
  have e2 : (if decide (k ∈ acc) = true then (dI acc).length else (dI acc).length + 1) = (dI (acc ++ [k])).length := by
    rw [dI_snoc]
    by_cases h : k ∈ acc
    · rw [if_pos (decide_eq_true h), if_pos ((dI_mem acc k).mpr h)]
    · rw [if_neg (by simpa using h), if_neg (fun z => h ((dI_mem acc k).mp z)), List.length_append]; rfl
  rw [e1, e2]
theorem SiI.push {acc : List Int} {k : Int} (hD : H1 D = none) (l : SiI w K tb Mx D W1 H1 σ env W' H' st' acc) :
    SiI w K tb Mx D W1 H1 σ env W' (upd H' D (SetIO w D (fun j => decide (j ∈ acc) || decide (j = k)) (if decide (k ∈ acc) = true then (dI acc).length else (dI acc).length + 1))) st' (acc ++ [k]) := by
  refine ⟨l.rel.putMxS (.inr rfl) l.acc setI_noTab, ⟨fun b o h n1 n2 t => by rw [upd_ne (fun z => by rw [z, hD] at h; cases h)]; exact l.kb.kp b o h n1 n2 t, fun b h => ?_, l.kb.pre, l.kb.fr, fun _ h => h.elim⟩, by rw [upd_same, setI_step]⟩
  by_cases q : b = D
  · rw [q, upd_same]; simp
  · rw [upd_ne q]; exact l.kb.nt b h
end
section
variable {K : PySem.W.Frag} {mg : Str → Option Value} {tb : Tbs} {Wx : WX} {mi mi1 : AM} {g g1 : PV → MEnv → Option MEnv} {tc tc1 : TM} {me : EM} {is is1 vs vs1 : List Nat}
end
section
variable {X : Cx} {tb : Tbs} {Wx : WX} {elt tg iter tg1 iter1 : Expr} {ifs ifs1 : List Expr} {scope : Scope} {own : List (Str × Nat)} {pos : Pos} {mi mi1 : AM} {g g1 : PV → MEnv → Option MEnv} {tc tc1 : TM} {me : EM} {is is1 vs1 : List Nat}
end
end Mp
end
section
set_option maxRecDepth 100000
set_option maxHeartbeats 1000000
namespace Mp
open PySem PySem.Spec PyProof.Rows L2
section
variable {X : Cx} {tb : Tbs} {Wx : WX} {a b : Expr} {ma mb m : EM} {pos : Pos} {i : Nat}
end
end Mp
end
section
set_option maxRecDepth 100000
set_option maxHeartbeats 1000000
namespace Mp
open PySem PySem.Spec PyProof.Rows L2
section
variable {K : PySem.W.Frag} {tb : Tbs} {Mx : Addr → Prop} {W W' : List Addr} {σ : L2.St} {H H' : Hp} {env : MEnv} {st st' : Sto}
theorem Rel.toStoO {p : Addr} {o : PO} (nm : ¬ Mx p) (r : Rel K tb (fun b => Mx b ∨ b = p) W' σ H' env st') (ro : RO K (Mt (fun b => Mx b ∨ b = p) W' env σ) W' H' o p) :
    Rel K tb Mx (W' ++ [p]) σ H' env (st' ++ [o]) := by
  have nw : p ∉ W' := fun z => (r.wo p z).1 (.inr rfl)
  have g : Grow (Mt (fun b => Mx b ∨ b = p) W' env σ) (Mt Mx (W' ++ [p]) env σ) W' (W' ++ [p]) H' H' := ⟨fun b o h _ _ => h, fun b _ n z => by
    rcases z with z | z | z
    · rcases List.mem_append.mp z with z | z
      · exact n (.inl z)
      · exact n (.inr (.inl (.inr (List.mem_singleton.mp z))))
    · exact n (.inr (.inl (.inl z)))
    · exact n (.inr (.inr z)), List.prefix_append _ _⟩
  refine ⟨r.tab, fun b h => r.mx b (.inl h), ?_, fun q hq => ?_, fun q hq z => r.om q hq (.inl z), r.inj, r.el, by simp [r.len], fun i q o h1 h2 => ?_, fun i v h => ?_, fun i o h => ?_⟩
  · rw [List.nodup_append]
    exact ⟨r.nd, by simp, fun a ha b hb => by rw [List.mem_singleton.mp hb]; exact fun z => nw (z ▸ ha)⟩
  · rcases List.mem_append.mp hq with z | z
    · exact ⟨fun y => (r.wo q z).1 (.inl y), (r.wo q z).2⟩
    · rw [List.mem_singleton.mp z]
      exact ⟨nm, fun y => r.om p y (.inr rfl)⟩
  · by_cases hi : i < W'.length
    · rw [List.getElem?_append_left hi] at h1
      rw [List.getElem?_append_left (by rw [← r.len]; exact hi)] at h2
      exact (r.sto i q o h1 h2).grow g (fun _ e _ => e)
    · have hi : W'.length ≤ i := Nat.not_lt.mp hi
      rw [List.getElem?_append_right hi] at h1
      rw [List.getElem?_append_right (by rw [← r.len]; exact hi), ← r.len] at h2
      obtain ⟨n, hn⟩ : ∃ n, i - W'.length = n := ⟨_, rfl⟩
      rw [hn] at h1 h2
      cases n with
      | zero =>
        simp at h1 h2
        subst h1 h2
        exact ro.grow g (fun _ e _ => e)
      | succ n => simp at h1
  · obtain ⟨w, e1, e2⟩ := r.pv i v h
    exact ⟨w, e1, RF.grow g _ e2⟩
  · obtain ⟨q, e1, e2⟩ := r.own i o h
    exact ⟨q, e1, e2.grow g (fun _ e _ => e)⟩
end
section
variable {X : Cx} {tb : Tbs} {Wx : WX} {kx vx tg iter : Expr} {ifs : List Expr} {sc : Scope} {own : List (Str × Nat)} {pos : Pos} {mi : AM} {g : PV → MEnv → Option MEnv} {tc : TM} {mk mv : EM} {is vs : List Nat}
end
end Mp
end
section
set_option maxRecDepth 100000
set_option maxHeartbeats 1000000
namespace Mp
open PySem PySem.Spec PyProof.Rows L2
section
variable {X : Cx} {tb : Tbs} {Wx : WX} {a b : Expr} {mk md m : EM} {pos : Pos} {i : Nat}
end
def dropP {α : Type} (k : List Int) : List (List Int) → List α → List α
  | q :: ks, v :: vs => if q = k then dropP k ks vs else v :: dropP k ks vs
  | _, _ => []
def dropK1 (k : List Int) (ks : List (List Int)) : List (List Int) := ks.filter fun q => decide (q ≠ k)
end Mp
end
section
set_option maxRecDepth 100000
set_option maxHeartbeats 1000000
namespace Mp
open PySem PySem.Spec PyProof.Rows L2
section
variable {X : Cx} {o e : Expr} {es : List Expr} {to : TE} {t : TA} {name : Str} {apos cpos : Pos} {id : String} {r : V → List V → Hp → VK → Prop}
end
theorem KsOk.drop {K : PySem.W.Frag} {M : Addr → Prop} {H : Hp} {k : List Int} : ∀ {ks : List (List Int)} {as : List Addr}, KsOk K M H ks as → KsOk K M H (dropK1 k ks) (dropP k ks as)
  | [], as, h => rfl
  | q :: ks, as, ⟨a, r, e, h1, h2⟩ => by
    subst e
    have ih := KsOk.drop (k := k) h2
    unfold dropK1 at *
    by_cases c : q = k
    · simpa [c, dropP] using ih
    · have : KsOk K M H (q :: ks.filter fun q => decide (q ≠ k)) (a :: dropP k ks r) := ⟨a, _, rfl, h1, ih⟩
      simpa [c, dropP] using this
section
variable {X : Cx} {tb : Tbs} {Wx : WX} {mk : EM} {i : Nat}
end
end Mp
end
section
set_option maxRecDepth 100000
set_option maxHeartbeats 1000000
namespace Mp
open PySem PySem.Spec PyProof.Rows L2
section
variable {X : Cx} {tb : Tbs} {Wx : WX} {mo : EM} {e : Expr}
end
end Mp
end
section
set_option maxRecDepth 100000
set_option maxHeartbeats 1000000
namespace Mp
open PySem PySem.Spec PyProof.Rows L2
section
variable {prog : Program} {w : World} {A : Around} {E : Value → Shared → Prop} {s : Shared}
end
end Mp
end
section
set_option maxRecDepth 100000
set_option maxHeartbeats 1000000
namespace Mp
open PySem PySem.Spec PyProof.Rows L2
theorem rfs_keys {K : PySem.W.Frag} {M : Addr → Prop} {W : List Addr} {H : Hp} : ∀ {ks : List (List Int)} {as : List Addr}, KsOk K M H ks as → RFs K M W H (ks.map kP) (as.map V.ref)
  | [], as, h => by cases (show as = [] from h); exact RFs.nil
  | k :: ks, as, ⟨a, r, e, h1, h2⟩ => by subst e; exact RFs.cons (rf_kP h1) (rfs_keys h2)
theorem vals_refs : ∀ as : List Addr, Vals (as.map V.ref) (as.map Value.ref)
  | [] => .nil
  | _ :: as => .cons rfl (vals_refs as)
end Mp
end
section
set_option maxRecDepth 100000
set_option maxHeartbeats 1000000
namespace Mp
open PySem PySem.Spec PyProof.Rows L2
end Mp
end
section
set_option maxRecDepth 100000
set_option maxHeartbeats 4000000
namespace Mp
open PySem PySem.Calls PyProof.Rows
section
variable {prog : Program} {w : World} {A : Around} {z TI TO i1 i2 l1 l2 S : Addr} {xs ys : Array Value}
def ZSt (z TI TO i1 i2 l1 l2 S : Addr) (xs ys : Array Value) (i : Nat) (h : Heap) : Prop :=
  (∃ oO, h.get? TO = some oO) ∧ IsPair h TI (.ref i1) (.ref i2) ∧ h.IsListIter i1 l1 i ∧ h.IsListIter i2 l2 i ∧ h.IsList l1 xs ∧ h.IsList l2 ys ∧
    ((IsZip h z TI TO .none ∧ ∃ a b, IsPair h TO a b) ∨ ∃ T f oT, IsZipHeld h z TI TO T f ∧ h.get? T = some oT ∧ T ≠ z ∧ T ≠ i1 ∧ T ≠ i2 ∧ T ≠ S)
structure ZOff (z TI TO i1 i2 l1 l2 S : Addr) : Prop where
  z : S ≠ z
  TI : S ≠ TI
  TO : S ≠ TO
  i1 : S ≠ i1
  i2 : S ≠ i2
  l1 : S ≠ l1
  l2 : S ≠ l2
theorem ZSt.frame {i : Nat} {h h' : Heap} (O : ZOff z TI TO i1 i2 l1 l2 S) (st : ZSt z TI TO i1 i2 l1 l2 S xs ys i h) (hk : ∀ b o, b ≠ S → h.get? b = some o → h'.get? b = some o) : ZSt z TI TO i1 i2 l1 l2 S xs ys i h' := by
  obtain ⟨⟨oO, hO⟩, hTI, h1, h2, hl1, hl2, hz⟩ := st
  refine ⟨⟨oO, hk _ _ (Ne.symm O.TO) hO⟩, hk _ _ (Ne.symm O.TI) hTI, h1.at fun o e => hk _ o (Ne.symm O.i1) e, h2.at fun o e => hk _ o (Ne.symm O.i2) e, hl1.at fun o e => hk _ o (Ne.symm O.l1) e, hl2.at fun o e => hk _ o (Ne.symm O.l2) e, ?_⟩
  rcases hz with ⟨hz, a, b, hTO⟩ | ⟨T, f, oT, hz, hT, r1, r2, r3, r4⟩
  · exact .inl ⟨hk _ _ (Ne.symm O.z) hz, a, b, hk _ _ (Ne.symm O.TO) hTO⟩
  · exact .inr ⟨T, f, oT, hk _ _ (Ne.symm O.z) hz, hk _ _ r4 hT, r1, r2, r3, r4⟩
theorem ZSt.item {i : Nat} {s₁ : Shared} {Q₁ : Option Value → Shared → Prop} {E₁ : Value → Shared → Prop} (D : ZipApart z TI TO i1 i2 l1 l2) (hi : i < min xs.size ys.size) (st : ZSt z TI TO i1 i2 l1 l2 S xs ys i s₁.heap) (hds : S < s₁.heap.objs.size)
    (hQ : ∀ x y h', xs[i]? = some x → ys[i]? = some y → IsPair h' s₁.heap.objs.size x y → ZSt z TI TO i1 i2 l1 l2 S xs ys (i + 1) h' → (∀ b o, b ≠ z → b ≠ TO → b ≠ i1 → b ≠ i2 → s₁.heap.get? b = some o → h'.get? b = some o) → Q₁ (some (.ref s₁.heap.objs.size)) { s₁ with heap := h' }) :
    wpAny (model prog w) A (pyNext (.ref z)) Q₁ E₁ s₁ := by
  obtain ⟨⟨oO, hO⟩, hTI, h1, h2, hl1, hl2, hz⟩ := st
  have hix : i < xs.size := Nat.lt_of_lt_of_le hi (Nat.min_le_left ..)
  have hiy : i < ys.size := Nat.lt_of_lt_of_le hi (Nat.min_le_right ..)
  have ex := Array.getElem?_eq_getElem hix
  have ey := Array.getElem?_eq_getElem hiy
  have lt : ∀ {c o}, s₁.heap.get? c = some o → s₁.heap.objs.size ≠ c := fun e => Nat.ne_of_gt (Heap.lt_size e)
  have n1 : s₁.heap.objs.size ≠ i1 := let ⟨_, e, _⟩ := h1; lt e
  have n2 : s₁.heap.objs.size ≠ i2 := let ⟨_, e, _⟩ := h2; lt e
  rcases hz with ⟨hz, a, b, hTO⟩ | ⟨T, f, oT, hz, hT, r1, r2, r3, r4⟩
  · refine wpAny_pyNext_zip_item D hz hTI hTO h1 h2 hl1 hl2 ex ey fun h' a1 a2 a3 a4 a5 a6 hk => ?_
    exact hQ _ _ h' ex ey a5
      ⟨⟨_, a2⟩, hk _ _ D.TIz D.TITO D.TIi1 D.TIi2 hTI, a3, a4, hl1.at fun o e => hk _ o D.l1z D.l1TO D.l1i1 D.l1i2 e, hl2.at fun o e => hk _ o D.l2z D.l2TO D.l2i1 D.l2i2 e,
        .inr ⟨s₁.heap.objs.size, false, _, a1, a5, lt hz, n1, n2, Nat.ne_of_gt hds⟩⟩
      hk
  · refine wpAny_pyNext_zip_item_held D hz hT hTI h1 h2 hl1 hl2 ex ey fun h' a1 a3 a4 a5 a6 hk => ?_
    exact hQ _ _ h' ex ey a5
      ⟨⟨oO, hk _ _ D.TOz D.TOi1 D.TOi2 hO⟩, hk _ _ D.TIz D.TIi1 D.TIi2 hTI, a3, a4, hl1.at fun o e => hk _ o D.l1z D.l1i1 D.l1i2 e, hl2.at fun o e => hk _ o D.l2z D.l2i1 D.l2i2 e,
        .inr ⟨T, true, oT, a1, hk _ _ r1 r2 r3 hT, r1, r2, r3, r4⟩⟩
      fun b o b1 _ b3 b4 e => hk b o b1 b3 b4 e
theorem ZSt.done {s₁ : Shared} {Q₁ : Option Value → Shared → Prop} {E₁ : Value → Shared → Prop} (hA : A.handled = none) (D : ZipApart z TI TO i1 i2 l1 l2) (st : ZSt z TI TO i1 i2 l1 l2 S xs ys (min xs.size ys.size) s₁.heap)
    (hQ : ∀ h', (∀ b o, b ≠ z → b ≠ TO → b ≠ i1 → b ≠ i2 → s₁.heap.get? b = some o → h'.get? b = some o) → Q₁ none { s₁ with heap := h' }) : wpAny (model prog w) A (pyNext (.ref z)) Q₁ E₁ s₁ := by
  obtain ⟨⟨oO, hO⟩, hTI, h1, h2, hl1, hl2, hz⟩ := st
  have hend : xs[min xs.size ys.size]? = none ∨ ys[min xs.size ys.size]? = none := by
    rcases Nat.le_total xs.size ys.size with h | h
    · exact .inl (Array.getElem?_eq_none (by rw [Nat.min_eq_left h]; exact Nat.le_refl _))
    · exact .inr (Array.getElem?_eq_none (by rw [Nat.min_eq_right h]; exact Nat.le_refl _))
  rcases hz with ⟨hz, a, b, hTO⟩ | ⟨T, f, oT, hz, hT, r1, r2, r3, r4⟩
  · exact wpAny_pyNext_zip_end hA D hz hTI hTO h1 h2 hl1 hl2 hend fun h' hk => hQ h' hk
  · exact wpAny_pyNext_zip_end_held hA D hz hT hTI h1 h2 hl1 hl2 hend fun h' hk => hQ h' fun b o b1 _ b3 b4 e => hk b o b1 b3 b4 e
end
end Mp
namespace PySem.W
open PySem PySem.Calls PyProof.Rows
section
variable {prog : Program} {w : World} {A : Around} {E : Value → Shared → Prop} {s : Shared} {β : Type} {R : Value → β → Prop} {enc : β → PyData}
end
end PySem.W
namespace Mp
open PySem PySem.Spec PyProof.Rows L2
section
variable {X : Cx}
end
end Mp
end
section
set_option maxRecDepth 100000
set_option maxHeartbeats 1000000
namespace Mp
open PySem PySem.Spec PyProof.Rows L2
section
variable {X : Cx}
end
end Mp
end
section
set_option maxRecDepth 100000
set_option maxHeartbeats 1000000
namespace Mp
open PySem PySem.Spec PyProof.Rows L2
def findI {α : Type} (k : Int) : List Int → List α → Option α
  | q :: ks, v :: vs => if q = k then some v else findI k ks vs
  | _, _ => none
theorem kz_cons {k : Int} {ks : List Int} {w : V} {ws : List V} : kz (k :: ks) (w :: ws) = (Sum.inl k, w) :: kz ks ws := rfl
theorem kz_val (k : Int) : ∀ (ks : List Int) (ws : List V), ks.length = ws.length → valV (kz ks ws) (.inl k) = findI k ks ws
  | [], [], _ => rfl
  | [], _ :: _, h => by simp at h
  | _ :: _, [], h => by simp at h
  | q :: ks, w :: ws, h => by
    rw [kz_cons]
    by_cases e : q = k
    · rw [valV_pos (by show Sum.inl q = _; rw [e])]
      simp [findI, e]
    · rw [valV_neg (by show ¬ Sum.inl q = _; exact fun z => e (Sum.inl.inj z)), kz_val k ks ws (by simpa using h)]
      simp [findI, e]
theorem findI_some {α : Type} (k : Int) : ∀ (ks : List Int) (ws : List α), ks.length = ws.length → (findI k ks ws).isSome = decide (k ∈ ks)
  | [], [], _ => rfl
  | [], _ :: _, h => by simp at h
  | _ :: _, [], h => by simp at h
  | q :: ks, w :: ws, h => by
    by_cases e : q = k
    · simp [findI, e]
    · simp [findI, e, findI_some k ks ws (by simpa using h)]
      exact fun z => absurd z.symm e
section
variable {K : PySem.W.Frag} {M : Addr → Prop} {W : List Addr} {H : Hp}
theorem rfs_findI {k : Int} {v : PV} : ∀ {ks : List Int} {vs : List PV} {ws : List V}, RFs K M W H vs ws → findI k ks vs = some v → ∃ w, findI k ks ws = some w ∧ RF K M W H v w
  | [], _, _, _, e => by unfold findI at e; cases e
  | q :: ks, [], _, h, e => by unfold findI at e; cases e
  | q :: ks, v0 :: vs, _, h, e => by
    obtain ⟨w1, r, rfl, h1, h2⟩ := h.inv
    unfold findI at e ⊢
    split at e
    · rename_i c
      cases e
      exact ⟨w1, by rw [if_pos c], h1⟩
    · rename_i c
      obtain ⟨w, e1, e2⟩ := rfs_findI h2 e
      exact ⟨w, by rw [if_neg c]; exact e1, e2⟩
end
section
variable {X : Cx} {tb : Tbs} {Wx : WX} {a b e o i v : Expr} {mk md mo mi mv : EM} {pos pos' : Pos}
theorem sto_dci {K : PySem.W.Frag} {Mx : Addr → Prop} {W : List Addr} {σ : L2.St} {H : Hp} {env : MEnv} {st : Sto} {n : Nat} {p : Addr} {ks : List Int} {vs : List PV} (rel : Rel K tb Mx W σ H env st) (hp : W[n]? = some p) (hs : st[n]? = some (.dci ks vs)) :
    ∃ ws, H p = some (.dK (kz ks ws)) ∧ ks.length = ws.length ∧ RFs K (Mt Mx W env σ) W H vs ws := rel.sto n p _ hp hs
end
end Mp
end
section
set_option maxRecDepth 100000
set_option maxHeartbeats 1000000
namespace Mp
open PySem PySem.Spec PyProof.Rows L2
section
variable {X : Cx} {tb : Tbs} {Wx : WX} {a b e o i v : Expr} {mk md mo mi mv : EM} {pos pos' : Pos}
end
end Mp
end
section
set_option maxRecDepth 100000
set_option maxHeartbeats 1000000
namespace Mp
open PySem PySem.Spec PyProof.Rows L2
section
variable {X : Cx} {tb : Tbs} {Wx : WX} {m : EM} {i : Nat}
end
end Mp
end
section
set_option maxRecDepth 100000
set_option maxHeartbeats 1000000
namespace Mp
open PySem PySem.Spec PyProof.Rows L2
section
variable {X : Cx} {tb : Tbs} {Wx : WX} {e : Expr} {md : EM} {pos p : Pos} {x : Str}
end
end Mp
end
section
set_option maxRecDepth 100000
set_option maxHeartbeats 1000000
namespace Mp
open PySem PySem.Spec PyProof.Rows L2
end Mp
end
section
set_option maxRecDepth 100000
set_option maxHeartbeats 1000000
namespace Mp
open PySem PySem.Spec PyProof.Rows L2
mutual
def noR : PV → Bool
  | .tup xs => noRs xs
  | .lst xs => noRs xs
  | .dct _ _ => false
  | .ref _ => false
  | _ => true
def noRs : List PV → Bool
  | [] => true
  | x :: xs => noR x && noRs xs
end
section
variable {K : PySem.W.Frag} {M M2 : Addr → Prop} {W W2 : List Addr} {H : Hp}
theorem FzT.less {q : Addr} {ws : List V} (hM : ∀ b, M2 b → M b) (h : FzT K M H q ws) : FzT K M2 H q ws := h.imp (fun h => ⟨h.1, fun z => h.2 (hM _ z)⟩) id
theorem FzL.less {q : Addr} {ws : List V} (hM : ∀ b, M2 b → M b) (h : FzL K M H q ws) : FzL K M2 H q ws := h.imp (fun h => ⟨h.1, fun z => h.2 (hM _ z)⟩) id
mutual
theorem RF.less (hM : ∀ b, M2 b → M b) : ∀ (v : PV) {w : V}, noR v = true → RF K M W H v w → RF K M2 W2 H v w
  | .non, _, _, h => by unfold RF at h ⊢; exact h
  | .bl b, _, _, h => by unfold RF at h ⊢; exact h
  | .int i, _, _, h => by unfold RF at h ⊢; exact h
  | .str s, _, _, h => by unfold RF at h ⊢; exact h
  | .tup xs, _, n, h => by
    unfold RF at h ⊢
    unfold noR at n
    obtain ⟨q, ws, e, h1, h2⟩ := h
    exact ⟨q, ws, e, h1.less hM, RFs.less hM xs n h2⟩
  | .lst xs, _, n, h => by
    unfold RF at h ⊢
    unfold noR at n
    obtain ⟨q, ws, e, h1, h2⟩ := h
    exact ⟨q, ws, e, h1.less hM, RFs.less hM xs n h2⟩
  | .ref n, _, z, h => by unfold noR at z; cases z
  | .fn x, _, _, h => by unfold RF at h ⊢; exact h
  | .dct ks vs, _, n, h => by unfold noR at n; cases n
theorem RFs.less (hM : ∀ b, M2 b → M b) : ∀ (xs : List PV) {ws : List V}, noRs xs = true → RFs K M W H xs ws → RFs K M2 W2 H xs ws
  | [], _, _, h => by unfold RFs at h ⊢; exact h
  | x :: xs, _, n, h => by
    unfold noRs at n
    rw [Bool.and_eq_true] at n
    unfold RFs at h ⊢
    obtain ⟨w, r, e, h1, h2⟩ := h
    exact ⟨w, r, e, RF.less hM x n.1 h1, RFs.less hM xs n.2 h2⟩
end
end
section
variable {K : PySem.W.Frag} {tb : Tbs} {Mx : Addr → Prop} {W : List Addr} {σ : L2.St} {H : Hp} {env : MEnv} {st : Sto} {i : Nat} {xs : List PV}
end
end Mp
end
section
set_option maxRecDepth 100000
set_option maxHeartbeats 4000000
namespace Mp
open PySem PySem.Spec PyProof.Rows L2
def bSorted1 (s : Sto) : List PV → Option (List PV)
  | [.lst [x]] => some [x]
  | xs => bSortedA s xs
theorem cn_sorted1 {X : Cx} (hu : X.A.units + 100 < cLine) : CallN X (.builtin "sorted") bSorted1 := by
  intro pins s σ H xs us Q I r h
  obtain ⟨M, W, st, args, v, hm, so, ra, hg, q⟩ := h
  unfold bSorted1 at hg
  split at hg
  · rename_i y
    cases hg
    obtain ⟨w, rfl, r1⟩ := RVs1 ra
    obtain ⟨p, ws, rfl, h1, h2⟩ := r1.lst
    obtain ⟨its, rv, hl, hz⟩ := I.list h1
    rw [Vals.ref1 r]
    obtain ⟨w1, r', rfl, rf, h3⟩ := h2.inv
    obtain rfl := h3.nil_inv
    obtain ⟨u, rfl, ru⟩ := Vals.one rv
    refine Srt.sorted_any (vs := [u]) hl.isList hz (fun h2 => absurd h2 (by simp)) fun out hp => ?_
    obtain rfl : out = [u] := List.perm_singleton.mp hp
    obtain ⟨ep, he'⟩ := PyProof.Rows.sortedAll_at s.heap [u] [u].toArray
    refine ⟨.ref _, upd H (s.heap.objs.size + 1) (.lst [w1]), I.laid (t' := s.toks) (fun _ _ => PyProof.Rows.sortedAll_old) (Nat.le_succ _) ⟨by simpa using hz, [u], ep, rv, he'⟩, rfl, q _ _ (I.hok.fresh (Nat.le_succ _)) h2⟩
  · exact cn_sortedA hu pins s σ H xs us Q I r ⟨M, W, st, args, v, hm, so, ra, hg, q⟩
end Mp
end
section
set_option maxRecDepth 100000
set_option maxHeartbeats 1000000
namespace Mp
open PySem PySem.Spec PyProof.Rows L2 GenW
section
variable {X Y : Cx} {Lp : Addr → Prop} {a : Nat} {gi : Nat} {Pn : Nat → List (Addr × Obj) → Prop} {sp : Nat → Bool} {Yd : Nat → V → Hp → Prop} {Fin : Hp → Prop} {r : Nat} {s : Shared}
end
end Mp
end
section
set_option maxRecDepth 100000
set_option maxHeartbeats 1000000
namespace Mp
open PySem PySem.Spec PyProof.Rows L2 GenW
section
variable {X : Cx} {s0 : Shared} {H0 : Hp} {scope : Scope} {C : Addr} {code : Value} {fp fp1 : List Addr} {elt tg iter tg1 iter1 : Expr} {ifs ifs1 : List Expr} {pos : Pos} {it it1 : Addr} {tn tn1 : Nat → Heap → Prop} {J J1 : It} {g g1 : TG} {tt tt1 : TT} {wi1 : TI} {te : TE} {vs vs1 : List Nat} {σ : L2.St}
  {Lp : Addr → Prop} {Pn : Nat → List (Addr × Obj) → Prop} {sp : Nat → Bool} {Yd : Nat → V → Hp → Prop} {Fin : Hp → Prop} {Nx : Nat → Hp → Prop} {W W1 : Nat → Nat → Nat → Hp → Prop} {cenv : Env}
end
end Mp
end
section
set_option maxRecDepth 100000
set_option maxHeartbeats 1000000
namespace Mp
open PySem PySem.Spec PyProof.Rows L2 GenW GxR
section
variable {M : Model} {A : Around} {E : Value → Shared → Prop} {s : Shared}
end
section
variable {X : Cx} {s0 : Shared} {H0 : Hp} {scope : Scope} {C : Addr} {code : Value} {fp fp1 : List Addr} {elt tg iter tg1 iter1 : Expr} {ifs ifs1 : List Expr} {pos : Pos} {it it1 : Addr} {tn tn1 : Nat → Heap → Prop} {J J1 : It} {g g1 : TG} {tt tt1 : TT} {wi1 : TI} {te : TE} {vs vs1 : List Nat} {σ : L2.St}
  {Lp : Addr → Prop} {Pn : Nat → List (Addr × Obj) → Prop} {sp : Nat → Bool} {Yd : Nat → V → Hp → Prop} {Fin : Hp → Prop} {Nx : Nat → Hp → Prop} {W W1 : Nat → Nat → Nat → Hp → Prop} {cenv : Env}
end
section
variable {X : Cx} {pins : List (Addr × Obj)} {σ : L2.St} {H : Hp} {s : Shared}
section
variable {c P : Addr} {elt tg iter tg1 iter1 : Expr} {ifs ifs1 : List Expr} {gpos p pos : Pos} {scope : Scope} {own : List (Str × Nat)} {wi wi1 : TI} {g g1 : TG} {tt tt1 : TT} {te : TE} {vs1 : List Nat}
end
end
end Mp
end
section
set_option maxRecDepth 100000
set_option maxHeartbeats 1000000
namespace Mp
open PySem PySem.Spec PyProof.Rows L2 GenW GxR
section
variable {K : PySem.W.Frag} {mg : Str → Option Value} {tb : Tbs} {Mx : Addr → Prop} {W1 : List Addr} {σ : L2.St} {H1 : Hp} {env : MEnv} {J : It} {g g1 : PV → MEnv → Option MEnv} {tc tc1 : TM} {mi1 : AM} {me : EM} {is is1 vs vs1 : List Nat} {xs ys : List PV} {s sF : Sto}
end
section
variable {X : Cx} {tb : Tbs} {Wx : WX} {elt tg iter tg1 iter1 : Expr} {ifs ifs1 : List Expr} {scope : Scope} {own : List (Str × Nat)} {p gpos pos : Pos} {mi mi1 : AM} {g g1 : PV → MEnv → Option MEnv} {tc tc1 : TM} {me : EM} {is is1 vs1 : List Nat} {c P : Addr}
end
end Mp
end
section
set_option maxRecDepth 100000
set_option maxHeartbeats 1000000
namespace Mp
open PySem PySem.Spec PyProof.Rows L2
theorem kdl_raw {prog : Program} {w : World} {d : Addr} {es : Array DictEntry} {ep : Nat} (lo : (d == sysModules) = false) : PySem.W.KdlSrc prog w "dict" d d es.size (fun i v => ∃ hi : i < es.size, v = es[i].key) (fun h => h.DictRaw d es ep) where
  type := fun _ ⟨o, h1, h2, _⟩ => ⟨o, h1, h2.1⟩
  there := fun _ ⟨o, h1, _⟩ => ⟨Heap.lt_size h1, Heap.lt_size h1⟩
  keep := fun _ _ hm hk => hm.at fun o e => hk d (.inl rfl) o e
  notList := by decide
  notTuple := by decide
  hint := fun _ _ _ _ ⟨o, h1, h2, _⟩ hq => PySem.W.kdl_hint_dict ⟨o, h1, h2.1⟩ hq
  iter := fun _ s hh hm => ⟨_, _, (fun _ _ hq => wpAny_pyIter_dict_raw lo hm hq), Walks.rawKeys hh _ d (by obtain ⟨o, h1, _⟩ := hm; exact Nat.ne_of_lt (Heap.lt_size h1)) es ep, ⟨⟨_, Heap.get?_push_size _ rfl, rfl, rfl⟩, hm.at fun o e => Heap.get?_push_of_some _ e⟩⟩
theorem items_keys {acc : Array Value} {es : Array DictEntry} {xs : List (List Int × Addr × Value)} {as : List Addr} {f : List Int × Addr × Value → DictEntry} (hf : ∀ x, (f x).key = .ref x.2.1) (h4 : es.toList = xs.map f) (e2 : xs.map (·.2.1) = as) (h : ItemsOf (fun i v => ∃ hi : i < es.size, v = es[i].key) acc es.size) : acc.toList = as.map Value.ref := by
  have hsz : es.size = xs.length := by rw [← Array.length_toList, h4, List.length_map]
  have hla : as.length = xs.length := by rw [← e2, List.length_map]
  refine List.ext_getElem? fun i => ?_
  by_cases hi : i < es.size
  · have hi2 : i < acc.size := by rw [h.1]; exact hi
    have e : acc.toList[i]? = some acc[i] := by simp [hi2]
    obtain ⟨hi', eu⟩ := h.2 i acc[i] (by simp [hi2])
    have hx : i < xs.length := by omega
    have k1 : es.toList[i]? = some es[i] := by rw [List.getElem?_eq_getElem (by simpa using hi)]; simp
    rw [h4, List.getElem?_map, List.getElem?_eq_getElem hx] at k1
    have k2 : es[i].key = .ref xs[i].2.1 := by rw [← Option.some.inj k1]; exact hf _
    rw [e, eu, k2, ← e2, List.map_map, List.getElem?_map, List.getElem?_eq_getElem hx]; rfl
  · rw [List.getElem?_eq_none (by rw [Array.length_toList, h.1]; omega), List.getElem?_eq_none (by rw [List.length_map]; omega)]
def bSorted2 (s : Sto) : List PV → Option (List PV)
  | [.ref n] => match s[n]? with
    | some (.dct ks _) => if sortOk (ks.map kP) then some (pvSort (ks.map kP)) else none
    | _ => none
  | xs => bSorted1 s xs
theorem cn_sorted2 {X : Cx} (hc : X.calm = true) (hu : X.A.units + 100 < cLine) : CallN X (.builtin "sorted") bSorted2 := by
  intro pins s σ H xs us Q I r h
  obtain ⟨M, W, st, args, v, hm, so, ra, hg, q⟩ := h
  unfold bSorted2 at hg
  split at hg
  · rename_i n
    split at hg
    rotate_left
    · cases hg
    rename_i ks vs hs
    split at hg
    rotate_left
    · cases hg
    rename_i hk
    cases hg
    obtain ⟨w, rfl, r1⟩ := RVs1 ra
    obtain ⟨p, rfl, hp⟩ := r1.ref
    obtain ⟨as, ws0, e, ko, _⟩ := so n p _ hp hs
    have hh : X.A.in1.handled = none := I.ok.hd hc
    obtain ⟨⟨hd, hl, hnd, ys, e1, e2, e3, o, es, ep, h1, h2, h3, h4⟩, _⟩ := I.hok p _ e
    have raw : s.heap.DictRaw p es ep := ⟨o, h1, h2, h3⟩
    have hlen0 : es.size = ks.length := by rw [← Array.length_toList, h4, List.length_map, ← e1, List.length_map]
    have h2' : RFs X.K M W H (ks.map kP) (as.map V.ref) := rfs_keys (W := W) ko
    have rv := vals_refs as
    obtain ⟨hd59, hal, hsk, halk⟩ := sortOk_data hk
    rw [Vals.ref1 r]
    have hlen : (as.map V.ref).length = (ks.map kP).length := h2'.len
    have hvl := rv.length
    have hmem : ∀ b ∈ (as.map V.ref).zip (ks.map kP), RF X.K M W H b.2 b.1 ∧ pd 59 b.2 = true := pairs_each (P := fun w x => RF X.K M W H x w ∧ pd 59 x = true) hlen fun i w x q1 q2 => by
      obtain ⟨w', q3, rf⟩ := h2'.get q2
      rw [q1] at q3; cases q3
      exact ⟨rf, hd59 x (List.mem_of_getElem? q2)⟩
    have hsnd : ((as.map V.ref).zip (ks.map kP)).map (·.2) = ks.map kP := by rw [← List.unzip_snd, List.unzip_zip_right (by omega)]
    have hmem2 : ∀ b ∈ (as.map V.ref).zip (ks.map kP), b.2 ∈ ks.map kP := fun b hb => (List.of_mem_zip hb).2
    have hbk : ((as.map V.ref).zip (ks.map kP)).map (fun b => toD b.2) = (ks.map kP).map toD := by
      conv => rhs; rw [← hsnd]
      rw [List.map_map]; rfl
    have hln : (as.map V.ref).length ≤ sizeLine := by
      rw [hlen, List.length_map]; exact hl
    refine PySem.W.sorted_coll (R := fun v (b : V × PV) => RelV b.1 v) (enc := fun b => toD b.2) (bs := (as.map V.ref).zip (ks.map kP)) (by rw [hbk]; exact hal) (by rw [hbk]; exact hsk) (by rw [List.length_zip]; omega) (fun b hb => ?_)
      (fun Q' hq => PySem.W.kdu_collect (kdl_raw hd) hh raw (by rw [hlen0, ← List.length_map (f := kP), ← hlen]; exact hln) fun h' tk acc kp items => ?_) fun out h' hF tk c k1 k2 ha hol ho => ?_
    · have := (pd_lay 59 b.2 (hmem b hb).2).2
      show X.A.units + 2 + (toD b.2).depth < cLine
      omega
    · have ek := items_keys (hf := fun _ => rfl) h4 e2 items
      rw [ek]
      refine hq h' tk (as.map Value.ref) kp (each_zip (its := as.map Value.ref) hlen rv) ?_
      have I2 : Inv X pins σ H { s with heap := h', toks := tk } := I.kept (t' := tk) kp
      refine each_of (by rw [List.length_zip, ← rv.length]; omega) fun i a b q1 q2 => ?_
      have hb := List.mem_of_getElem? q2
      have q3 : (as.map V.ref)[i]? = some b.1 := by
        have := congrArg (Option.map Prod.fst) q2
        rw [← List.getElem?_map, ← List.unzip_fst, List.unzip_zip_left (by omega)] at this
        exact this
      obtain ⟨u, q4, ru⟩ := rv.get q3
      rw [q1] at q4; cases q4
      exact Dp.reads I2 (toD b.2) b.1 a (RF.dp 59 b.2 (hmem b hb).2 (hmem b hb).1) ru
    · have hfin : (((as.map V.ref).zip (ks.map kP)).mergeSort (PySem.W.dataLe false fun b => toD b.2)).map (·.2) = pvSort (ks.map kP) := by
        have e := List.map_mergeSort (r := PySem.W.dataLe false fun b => toD b.2) (s := fun a b => !pvLt b a) (f := fun (b : V × PV) => b.2) (l := (as.map V.ref).zip (ks.map kP)) ?_
        · rw [e, hsnd]; rfl
        intro a ha b hb
        show (!PySem.W.dataLt (toD b.2) (toD a.2)) = !pvLt b.2 a.2
        rw [lt_toD 59 59 b.2 a.2 (hmem b hb).2 (hmem a ha).2 (halk _ (hmem2 b hb) _ (hmem2 a ha))]
      have hv := each_vals ho
      have hrf : RFs X.K M W H (pvSort (ks.map kP)) ((((as.map V.ref).zip (ks.map kP)).mergeSort (PySem.W.dataLe false fun b => toD b.2)).map (·.1)) := by
        rw [← hfin]
        exact rfs_of_mem fun b hb => (hmem b (List.mem_mergeSort.mp hb)).1
      have I2 : Inv X pins σ H { s with heap := h', toks := tk } := I.kept (t' := tk) k1
      refine ⟨.ref _, upd H h'.objs.size (.lst ((((as.map V.ref).zip (ks.map kP)).mergeSort (PySem.W.dataLe false fun b => toD b.2)).map (·.1))), I2.laid (t' := tk) k2 (Nat.le_refl _) ⟨?_, out, c, hv, ha⟩, rfl, q _ _ (I2.hok.fresh (Nat.le_refl _)) hrf⟩
      rw [List.length_map, List.length_mergeSort, List.length_zip]
      omega
  · exact cn_sorted1 hu pins s σ H xs us Q I r ⟨M, W, st, args, v, hm, so, ra, hg, q⟩
section
variable {X : Cx} {tb : Tbs} {Wx : WX} {md mk mv mo m : EM} {e1 : Expr}
end
section
variable {X : Cx} {tb : Tbs} {Wx : WX} {ek ev : Expr} {mk mv : EM} {pos : Pos}
end
end Mp
end
section
set_option maxRecDepth 100000
set_option maxHeartbeats 1000000
namespace ZM
open PySem
open PySem.Sem (wp)
section
variable {prog : Program} {w : World} {A : Around} {E : Value → Shared → Prop} {s : Shared}
end
section
variable {prog : Program} {w : World} {A : Around} {E : Value → Shared → Prop} {s : Shared}
end
end ZM
namespace ZM
open PySem PySem.Spec PyProof.Rows L2
end ZM
end
section
set_option maxRecDepth 100000
set_option maxHeartbeats 1000000
namespace ZN
open PySem
open PySem.Sem (wp)
section
variable {prog : Program} {w : World} {A : Around} {E : Value → Shared → Prop} {s : Shared}
theorem zipN_next_item {z TI TO i1 i2 l1 l2 : Addr} {k1 k2 : Nat} {xs ys : Array Value} {x y a b : Value} {Q : Value → Shared → Prop} (D : ZipApart z TI TO i1 i2 l1 l2)
    (hz : IsZip s.heap z TI TO .none) (hTI : IsPair s.heap TI (.ref i1) (.ref i2)) (hTO : IsPair s.heap TO a b)
    (h1 : s.heap.IsTupleIter i1 l1 k1) (h2 : s.heap.IsListIter i2 l2 k2) (hl1 : s.heap.IsTuple l1 xs) (hl2 : s.heap.IsList l2 ys) (hx : xs[k1]? = some x) (hy : ys[k2]? = some y)
    (hQ : ∀ h', IsZip h' z TI TO (rawInt s.heap.objs.size) → IsPair h' TO x y → h'.IsTupleIter i1 l1 (k1 + 1) → h'.IsListIter i2 l2 (k2 + 1) → IsPair h' s.heap.objs.size x y → h'.objs.size = s.heap.objs.size + 1 →
      (∀ c o, c ≠ z → c ≠ TO → c ≠ i1 → c ≠ i2 → s.heap.get? c = some o → h'.get? c = some o) → Q (.ref s.heap.objs.size) { s with heap := h' }) :
    wpAny (model prog w) A (Builtin.«zip.__next__» ⟨[.ref z], []⟩) (fun fin s' => ∃ v, fin = .done (.ret v) ∧ Q v s') E s := by
  show wpAny _ _ (field (.ref z) 2 >>= _) _ _ _
  refine wpAny_bind (wpAny_field hz rfl (x := .bool false) rfl ?_)
  show wpAny _ _ (field (.ref z) 3 >>= _) _ _ _
  refine wpAny_bind (wpAny_field hz rfl (x := .ref TI) rfl ?_)
  refine wpAny_bind (wpAny_seqItems hTI rfl ?_)
  show wpAny _ _ (Builtin.SmallTypes.ownedTupleIsFree (.ref z) >>= _) _ _ _
  refine wpAny_bind ?_
  unfold Builtin.SmallTypes.ownedTupleIsFree
  refine wpAny_bind (wpAny_field hz rfl (x := .none) rfl (wpAny_pure ?_))
  simp only [if_true]
  refine wpAny_bind (wpAny_rule ?_)
  refine wpAny_bind (wpAny_field hz rfl (x := .ref TO) rfl ?_)
  refine wpAny_bind (wpAny_setField_rec hz (by simp) fun h₁ hz₁ hs₁ => ?_)
  replace hz₁ : IsZip h₁ z TI TO .ellipsis := hz₁
  refine wpAny_bind ?_
  simp only [List.zipIdx_cons, List.zipIdx_nil, List.forIn_cons, List.forIn_nil]

  refine wpAny_bind (wpAny_bind (wpAny_onRaise ?_))
  show wpAny _ _ (Builtin.SmallTypes.nextOf (.ref i1) >>= _) _ _ _
  refine wpAny_bind (RZ.nextOf_tuple_item (h1.extBut hs₁.extBut D.i1z) (hl1.extBut hs₁.extBut D.l1z) hx fun h₂ h1₂ hs₂ => wpAny_pure ?_)
  have hTO₂ : IsPair h₂ TO a b := hs₂.extBut _ _ D.TOi1 (hs₁.extBut _ _ D.TOz hTO)
  refine wpAny_bind (wpAny_seqItems hTO₂ rfl ?_)
  refine wpAny_bind (wpAny_updateSeq_pair hTO₂ fun h₃ hTO₃ hs₃ => ?_)
  replace hTO₃ : IsPair h₃ TO x b := hTO₃
  refine wpAny_bind (wpAny_letGo (wpAny_pure ?_))

  refine wpAny_bind (wpAny_bind (wpAny_onRaise ?_))
  show wpAny _ _ (Builtin.SmallTypes.nextOf (.ref i2) >>= _) _ _ _
  refine wpAny_bind (wpAny_nextOf_list_item (((h2.extBut hs₁.extBut D.i2z).extBut hs₂.extBut D.i12.symm).extBut hs₃.extBut D.TOi2.symm)
    (((hl2.extBut hs₁.extBut D.l2z).extBut hs₂.extBut D.l2i1).extBut hs₃.extBut D.l2TO) hy fun h₄ h2₄ hs₄ => wpAny_pure ?_)
  have hTO₄ : IsPair h₄ TO x b := hs₄.extBut _ _ D.TOi2 hTO₃
  refine wpAny_bind (wpAny_seqItems hTO₄ rfl ?_)
  refine wpAny_bind (wpAny_updateSeq_pair hTO₄ fun h₅ hTO₅ hs₅ => ?_)
  replace hTO₅ : IsPair h₅ TO x y := hTO₅
  refine wpAny_bind (wpAny_letGo (wpAny_pure (wpAny_pure ?_)))

  refine wpAny_bind (wpAny_seqItems hTO₅ rfl ?_)
  refine wpAny_bind (wpAny_newTuple ?_)
  have hsz : h₅.objs.size = s.heap.objs.size := by rw [hs₅.1, hs₄.1, hs₃.1, hs₂.1, hs₁.1]
  have hz₅ : IsZip h₅ z TI TO .ellipsis := hs₅.extBut _ _ D.TOz.symm (hs₄.extBut _ _ D.i2z.symm (hs₃.extBut _ _ D.TOz.symm (hs₂.extBut _ _ D.i1z.symm hz₁)))
  have hk₅ : ∀ c o, c ≠ z → c ≠ TO → c ≠ i1 → c ≠ i2 → s.heap.get? c = some o → h₅.get? c = some o := fun c o c1 c2 c3 c4 e =>
    hs₅.extBut _ _ c2 (hs₄.extBut _ _ c4 (hs₃.extBut _ _ c2 (hs₂.extBut _ _ c3 (hs₁.extBut _ _ c1 e))))
  have h1₅ : h₅.IsTupleIter i1 l1 (k1 + 1) := ((h1₂.extBut hs₃.extBut D.TOi1.symm).extBut hs₄.extBut D.i12).extBut hs₅.extBut D.TOi1.symm
  have h2₅ : h₅.IsListIter i2 l2 (k2 + 1) := h2₄.extBut hs₅.extBut D.TOi2.symm
  have hzlt : z < h₅.objs.size := Heap.lt_size hz₅
  have hTOlt : TO < h₅.objs.size := Heap.lt_size hTO₅
  have hi1lt : i1 < h₅.objs.size := by obtain ⟨_, e, _⟩ := h1₅; exact Heap.lt_size e
  have hi2lt : i2 < h₅.objs.size := by obtain ⟨_, e, _⟩ := h2₅; exact Heap.lt_size e
  show wpAny _ _ (Builtin.SmallTypes.ownedTupleHandOut (.ref z) (.ref h₅.objs.size) >>= _) _ _ _
  refine wpAny_bind ?_
  unfold Builtin.SmallTypes.ownedTupleHandOut
  have hz₆ : IsZip (h₅.push { cls := .type "tuple", data := .seq #[x, y] }) z TI TO .ellipsis := Heap.get?_push_of_some _ hz₅
  refine wpAny_bind (wpAny_setField_rec hz₆ (by simp) fun h₇ hz₇ hs₇ => ?_)
  replace hz₇ : IsZip h₇ z TI TO (rawInt h₅.objs.size) := hz₇
  refine wpAny_setField_rec hz₇ (by simp) fun h₈ hz₈ hs₈ => ?_
  replace hz₈ : IsZip h₈ z TI TO (rawInt h₅.objs.size) := hz₈
  have up : ∀ c o, c ≠ z → h₅.get? c = some o → h₈.get? c = some o := fun c o c1 e => hs₈.extBut _ _ c1 (hs₇.extBut _ _ c1 (Heap.get?_push_of_some _ e))
  have hT₈ : IsPair h₈ h₅.objs.size x y := hs₈.extBut _ _ (Nat.ne_of_gt hzlt) (hs₇.extBut _ _ (Nat.ne_of_gt hzlt) (Heap.get?_push_size _ rfl))
  have hz8 : h₈.objs.size = h₅.objs.size + 1 := by rw [hs₈.1, hs₇.1, Heap.size_push]
  rw [hsz] at hz₈ hT₈ hz8
  refine wpAny_pure ⟨_, rfl, ?_⟩
  show Q (.ref h₅.objs.size) _
  rw [hsz]
  exact hQ h₈ hz₈ (up _ _ D.TOz hTO₅) (h1₅.at fun o e => up _ o D.i1z e) (h2₅.at fun o e => up _ o D.i2z e) hT₈ hz8 fun c o c1 c2 c3 c4 e => up c o c1 (hk₅ c o c1 c2 c3 c4 e)
theorem zipN_next_end {z TI TO i1 i2 l1 l2 : Addr} {k1 k2 : Nat} {xs ys : Array Value} {a b : Value} {Q : Fin → Shared → Prop} (hh : A.handled = none) (D : ZipApart z TI TO i1 i2 l1 l2)
    (hz : IsZip s.heap z TI TO .none) (hTI : IsPair s.heap TI (.ref i1) (.ref i2)) (hTO : IsPair s.heap TO a b)
    (h1 : s.heap.IsTupleIter i1 l1 k1) (h2 : s.heap.IsListIter i2 l2 k2) (hl1 : s.heap.IsTuple l1 xs) (hl2 : s.heap.IsList l2 ys) (hend : xs[k1]? = none ∨ ys[k2]? = none)
    (hE : ∀ h' e, (∀ c o, c ≠ z → c ≠ TO → c ≠ i1 → c ≠ i2 → s.heap.get? c = some o → h'.get? c = some o) → (∃ o, h'.get? e = some o ∧ o.cls = .type "StopIteration") → E (.ref e) { s with heap := h' }) :
    wpAny (model prog w) A (Builtin.«zip.__next__» ⟨[.ref z], []⟩) Q E s := by
  show wpAny _ _ (field (.ref z) 2 >>= _) _ _ _
  refine wpAny_bind (wpAny_field hz rfl (x := .bool false) rfl ?_)
  show wpAny _ _ (field (.ref z) 3 >>= _) _ _ _
  refine wpAny_bind (wpAny_field hz rfl (x := .ref TI) rfl ?_)
  refine wpAny_bind (wpAny_seqItems hTI rfl ?_)
  show wpAny _ _ (Builtin.SmallTypes.ownedTupleIsFree (.ref z) >>= _) _ _ _
  refine wpAny_bind ?_
  unfold Builtin.SmallTypes.ownedTupleIsFree
  refine wpAny_bind (wpAny_field hz rfl (x := .none) rfl (wpAny_pure ?_))
  simp only [if_true]
  refine wpAny_bind (wpAny_rule ?_)
  refine wpAny_bind (wpAny_field hz rfl (x := .ref TO) rfl ?_)
  refine wpAny_bind (wpAny_setField_rec hz (by simp) fun h₁ hz₁ hs₁ => ?_)
  replace hz₁ : IsZip h₁ z TI TO .ellipsis := hz₁
  refine wpAny_bind ?_
  simp only [List.zipIdx_cons, List.zipIdx_nil, List.forIn_cons, List.forIn_nil]
  refine wpAny_bind (wpAny_bind (wpAny_onRaise ?_))
  show wpAny _ _ (Builtin.SmallTypes.nextOf (.ref i1) >>= _) _ _ _
  cases hx : xs[k1]? with
  | none =>
    refine wpAny_bind (RZ.nextOf_tuple_end hh (h1.extBut hs₁.extBut D.i1z) (hl1.extBut hs₁.extBut D.l1z) hx fun h₂ e hs₂ he => ?_)
    obtain ⟨oe, hoe, hce⟩ := he
    have hz₂ : IsZip h₂ z TI TO .ellipsis := hs₂ _ _ D.i1z.symm hz₁
    have hez : e ≠ z := fun x => by subst x; rw [hz₂] at hoe; cases hoe; simp at hce
    refine wpAny_setField_rec hz₂ (by simp) fun h₃ _ hs₃ => hE h₃ e (fun c o c1 _ c3 _ x => hs₃.extBut _ _ c1 (hs₂ _ _ c3 (hs₁.extBut _ _ c1 x))) ⟨oe, hs₃.extBut _ _ hez hoe, hce⟩
  | some x =>
    have hy : ys[k2]? = none := by rcases hend with h | h; rw [hx] at h; cases h; exact h
    refine wpAny_bind (RZ.nextOf_tuple_item (h1.extBut hs₁.extBut D.i1z) (hl1.extBut hs₁.extBut D.l1z) hx fun h₂ h1₂ hs₂ => wpAny_pure ?_)
    have hTO₂ : IsPair h₂ TO a b := hs₂.extBut _ _ D.TOi1 (hs₁.extBut _ _ D.TOz hTO)
    refine wpAny_bind (wpAny_seqItems hTO₂ rfl ?_)
    refine wpAny_bind (wpAny_updateSeq_pair hTO₂ fun h₃ hTO₃ hs₃ => ?_)
    refine wpAny_bind (wpAny_letGo (wpAny_pure ?_))
    refine wpAny_bind (wpAny_bind (wpAny_onRaise ?_))
    show wpAny _ _ (Builtin.SmallTypes.nextOf (.ref i2) >>= _) _ _ _
    refine wpAny_bind (wpAny_nextOf_list_end hh (((h2.extBut hs₁.extBut D.i2z).extBut hs₂.extBut D.i12.symm).extBut hs₃.extBut D.TOi2.symm)
      (((hl2.extBut hs₁.extBut D.l2z).extBut hs₂.extBut D.l2i1).extBut hs₃.extBut D.l2TO) hy fun h₄ e hs₄ he => ?_)
    obtain ⟨oe, hoe, hce⟩ := he
    have hz₄ : IsZip h₄ z TI TO .ellipsis := hs₄ _ _ D.i2z.symm (hs₃.extBut _ _ D.TOz.symm (hs₂.extBut _ _ D.i1z.symm hz₁))
    have hez : e ≠ z := fun x => by subst x; rw [hz₄] at hoe; cases hoe; simp at hce
    refine wpAny_setField_rec hz₄ (by simp) fun h₅ _ hs₅ => hE h₅ e (fun c o c1 c2 c3 c4 x => hs₅.extBut _ _ c1 (hs₄ _ _ c4 (hs₃.extBut _ _ c2 (hs₂.extBut _ _ c3 (hs₁.extBut _ _ c1 x))))) ⟨oe, hs₅.extBut _ _ hez hoe, hce⟩
theorem pyNext_zipN_item {z TI TO i1 i2 l1 l2 : Addr} {k1 k2 : Nat} {xs ys : Array Value} {x y a b : Value} {Q : Option Value → Shared → Prop} (D : ZipApart z TI TO i1 i2 l1 l2)
    (hz : IsZip s.heap z TI TO .none) (hTI : IsPair s.heap TI (.ref i1) (.ref i2)) (hTO : IsPair s.heap TO a b)
    (h1 : s.heap.IsTupleIter i1 l1 k1) (h2 : s.heap.IsListIter i2 l2 k2) (hl1 : s.heap.IsTuple l1 xs) (hl2 : s.heap.IsList l2 ys) (hx : xs[k1]? = some x) (hy : ys[k2]? = some y)
    (hQ : ∀ h', IsZip h' z TI TO (rawInt s.heap.objs.size) → IsPair h' TO x y → h'.IsTupleIter i1 l1 (k1 + 1) → h'.IsListIter i2 l2 (k2 + 1) → IsPair h' s.heap.objs.size x y → h'.objs.size = s.heap.objs.size + 1 →
      (∀ c o, c ≠ z → c ≠ TO → c ≠ i1 → c ≠ i2 → s.heap.get? c = some o → h'.get? c = some o) → Q (some (.ref s.heap.objs.size)) { s with heap := h' }) :
    wpAny (model prog w) A (pyNext (.ref z)) Q E s := by
  have hT : s.TypeIs (.ref z) "zip" := ⟨_, hz, rfl⟩
  unfold pyNext
  exact wpAny_bind (wpAny_attempt (wpAny_callSpecial?_slot (name := Str.ofString "__next__") hT F.slot_zip_next
    (wpAny_call_entry F.slot_zip_next hT F.entry_zip_next
      (zipN_next_item D hz hTI hTO h1 h2 hl1 hl2 hx hy fun h' a1 a2 a3 a4 a5 a6 a7 => wpAny_pure (hQ h' a1 a2 a3 a4 a5 a6 a7)) (F.args_zip_next_1 _))))
theorem pyNext_zipN_end {z TI TO i1 i2 l1 l2 : Addr} {k1 k2 : Nat} {xs ys : Array Value} {a b : Value} {Q : Option Value → Shared → Prop} (hh : A.handled = none) (D : ZipApart z TI TO i1 i2 l1 l2)
    (hz : IsZip s.heap z TI TO .none) (hTI : IsPair s.heap TI (.ref i1) (.ref i2)) (hTO : IsPair s.heap TO a b)
    (h1 : s.heap.IsTupleIter i1 l1 k1) (h2 : s.heap.IsListIter i2 l2 k2) (hl1 : s.heap.IsTuple l1 xs) (hl2 : s.heap.IsList l2 ys) (hend : xs[k1]? = none ∨ ys[k2]? = none)
    (hQ : ∀ h', (∀ c o, c ≠ z → c ≠ TO → c ≠ i1 → c ≠ i2 → s.heap.get? c = some o → h'.get? c = some o) → Q none { s with heap := h' }) : wpAny (model prog w) A (pyNext (.ref z)) Q E s := by
  have hT : s.TypeIs (.ref z) "zip" := ⟨_, hz, rfl⟩
  unfold pyNext
  refine wpAny_bind (wpAny_attempt (wpAny_callSpecial?_slot (name := Str.ofString "__next__") hT F.slot_zip_next
    (wpAny_call_entry F.slot_zip_next hT F.entry_zip_next (zipN_next_end hh D hz hTI hTO h1 h2 hl1 hl2 hend fun h' e hk he => ?_) (F.args_zip_next_1 _))))
  obtain ⟨o, ho, hc⟩ := he
  refine wpAny_bind (wpAny_isInstance (T := "StopIteration") (b := true) ⟨o, ho, hc⟩ isSubtype_stop ?_)
  exact wpAny_pure (hQ _ hk)
end
abbrev zipNH1 (h : Heap) (l1 : Addr) : Heap := h.push { cls := .type "tuple_iterator", data := .fields #[.ref l1, .int 0 0] }
abbrev zipNH2 (h : Heap) (l1 l2 : Addr) : Heap := (zipNH1 h l1).push { cls := .type "list_iterator", data := .fields #[.ref l2, .int 0 0] }
abbrev zipNH3 (h : Heap) (l1 l2 : Addr) : Heap := (zipNH2 h l1 l2).push { cls := .type "tuple", data := .seq #[.ref h.objs.size, .ref (zipNH1 h l1).objs.size] }
abbrev zipNH4 (h : Heap) (l1 l2 : Addr) : Heap := (zipNH3 h l1 l2).push { cls := .type "tuple", data := .seq #[.none, .none] }
abbrev zipNH5 (h : Heap) (l1 l2 : Addr) : Heap := (zipNH4 h l1 l2).push { cls := .type "zip", data := .fields #[.none, .bool false, .bool false, .ref (zipNH2 h l1 l2).objs.size, .ref (zipNH3 h l1 l2).objs.size] }
theorem meets_zipN_new (l1 l2 : Addr) (xs ys : Array Value) :
    Meets (Builtin.«zip.__new__» ⟨[.type "zip", .ref l1, .ref l2], []⟩) (fun _ R s => s.heap.IsTuple l1 xs ∧ s.heap.IsList l2 ys ∧
      R (.ok (.ret (.ref (zipNH4 s.heap l1 l2).objs.size))) { s with heap := zipNH5 s.heap l1 l2 }) :=
  .of_wp fun prog w A R s h => by
    obtain ⟨hp, g, d, tk, os⟩ := s; obtain ⟨hl1, hl2, h⟩ := h
    have hsub := sub_zip
    have hL1 : Heap.IsTuple (Shared.heap ⟨hp, g, d, tk, os⟩) l1 xs := hl1
    have hL2 : Heap.IsList (Shared.heap ⟨hp.push { cls := .type "tuple_iterator", data := .fields #[.ref l1, .int 0 0] }, g, d, tk, os⟩) l2 ys := Heap.IsList.push hl2 _
    wp_walk using wpAny_pyIter_tuple hL1, wpAny_pyIter_list hL2
    exact ⟨_, rfl, h⟩
section
variable {prog : Program} {w : World} {A : Around} {E : Value → Shared → Prop} {s : Shared}
theorem call_zipN {l1 l2 : Addr} {xs ys : Array Value} {Q : Value → Shared → Prop} (hl1 : s.heap.IsTuple l1 xs) (hl2 : s.heap.IsList l2 ys)
    (h : ∀ h', IsZip h' (s.heap.objs.size + 4) (s.heap.objs.size + 2) (s.heap.objs.size + 3) .none → IsPair h' (s.heap.objs.size + 2) (.ref s.heap.objs.size) (.ref (s.heap.objs.size + 1)) →
      IsPair h' (s.heap.objs.size + 3) .none .none → h'.IsTupleIter s.heap.objs.size l1 0 → h'.IsListIter (s.heap.objs.size + 1) l2 0 → h'.objs.size = s.heap.objs.size + 5 →
      (∀ c o, s.heap.get? c = some o → h'.get? c = some o) → Q (.ref (s.heap.objs.size + 4)) { s with heap := h' }) :
    wpAny (model prog w) A (call (.type "zip") [.ref l1, .ref l2]) Q E s := by
  refine callType_new F.called_zip (by decide) (F.typeCall_zip_2 _ _) (F.newCall_zip_2 _ _) (fun obj => F.args_object_init_3 obj _ _) F.entry_zip_new
    (meets_zipN_new l1 l2 xs ys) ⟨hl1, hl2, ?_⟩
  have z1 : (zipNH1 s.heap l1).objs.size = s.heap.objs.size + 1 := Heap.size_push ..
  have z2 : (zipNH2 s.heap l1 l2).objs.size = s.heap.objs.size + 2 := by rw [Heap.size_push, z1]
  have z3 : (zipNH3 s.heap l1 l2).objs.size = s.heap.objs.size + 3 := by rw [Heap.size_push, z2]
  have z4 : (zipNH4 s.heap l1 l2).objs.size = s.heap.objs.size + 4 := by rw [Heap.size_push, z3]
  have z5 : (zipNH5 s.heap l1 l2).objs.size = s.heap.objs.size + 5 := by rw [Heap.size_push, z4]
  have g5 : (zipNH5 s.heap l1 l2).get? (zipNH4 s.heap l1 l2).objs.size = some _ := Heap.get?_push_size _ rfl
  have g4 : (zipNH5 s.heap l1 l2).get? (zipNH3 s.heap l1 l2).objs.size = some _ := Heap.get?_push_of_some _ (Heap.get?_push_size _ rfl)
  have g3 : (zipNH5 s.heap l1 l2).get? (zipNH2 s.heap l1 l2).objs.size = some _ := Heap.get?_push_of_some _ (Heap.get?_push_of_some _ (Heap.get?_push_size _ rfl))
  have g2 : (zipNH5 s.heap l1 l2).get? (zipNH1 s.heap l1).objs.size = some _ := Heap.get?_push_of_some _ (Heap.get?_push_of_some _ (Heap.get?_push_of_some _ (Heap.get?_push_size _ rfl)))
  have g1 : (zipNH5 s.heap l1 l2).get? s.heap.objs.size = some _ := Heap.get?_push_of_some _ (Heap.get?_push_of_some _ (Heap.get?_push_of_some _ (Heap.get?_push_of_some _ (Heap.get?_push_size _ rfl))))
  show _ ∧ _
  rw [z2, z3, z4] at g5
  rw [z1, z2] at g3
  rw [z3] at g4
  rw [z1] at g2
  rw [z4]
  exact ⟨⟨_, g5, rfl⟩, h _ g5 g3 g4 ⟨_, g1, rfl, rfl⟩ ⟨_, g2, rfl, rfl⟩ z5 fun c o x =>
    Heap.get?_push_of_some _ (Heap.get?_push_of_some _ (Heap.get?_push_of_some _ (Heap.get?_push_of_some _ (Heap.get?_push_of_some _ x))))⟩
end
end ZN
namespace ZN
open PySem PySem.Spec PyProof.Rows L2
end ZN
end
section
set_option maxRecDepth 100000
set_option maxHeartbeats 1000000
namespace Mp
open PySem PySem.Spec PyProof.Rows L2 RZ
section
variable {K : PySem.W.Frag} {M : Addr → Prop} {W : List Addr} {H : Hp}
end
end Mp
end
section
set_option maxRecDepth 100000
set_option maxHeartbeats 1000000
namespace Mp
open PySem L2
abbrev Pt := Int × Int
def tp (p : Pt) : PV := .tup [.int p.1, .int p.2]
theorem pd_tp (n : Nat) (p : Pt) : pd (n + 1) (tp p) = true := by simp [tp, pd, pds]
theorem isD_tp (p : Pt) : isD (tp p) = true := pd_tp 59 p
theorem pvEq_int {i j : Int} : pvEq (.int i) (.int j) = decide (i = j) := by simp only [pvEq]; rfl
theorem pvEq_tp (p q : Pt) : pvEq (tp p) (tp q) = decide (p = q) := by
  obtain ⟨a, b⟩ := p; obtain ⟨c, d⟩ := q
  simp only [tp, pvEq, pvEqs, pvEq_int, Bool.and_true]
  by_cases h1 : a = c <;> by_cases h2 : b = d <;> simp [h1, h2]
theorem cNe_tp (p q : Pt) : cNe (tp p) (tp q) = some (.bl (!decide (p = q))) := by unfold cNe; rw [isD_tp, isD_tp, pvEq_tp]; rfl
def pLt (a b : Pt) : Bool := decide (a.1 < b.1) || (decide (a.1 = b.1) && decide (a.2 < b.2))
def pLe (a b : Pt) : Bool := !pLt b a
def srt (xs : List Pt) : List Pt := xs.mergeSort pLe
end Mp
end
section
set_option maxRecDepth 100000
set_option maxHeartbeats 1000000
namespace Mp
open PySem L2
def bt (n : Nat) : Nat := n.log2 + 1
theorem lt_bt (n : Nat) : n < 2 ^ bt n := Nat.lt_log2_self
theorem bt_le {n k : Nat} (h : n < 2 ^ k) (h0 : 0 < k) : bt n ≤ k := by
  unfold bt
  by_cases z : n = 0
  · subst z; simp; omega
  · exact (Nat.log2_lt z).mpr h
theorem bt_pos (n : Nat) : 0 < bt n := Nat.succ_pos _
theorem bt_mono {m n : Nat} (h : m ≤ n) : bt m ≤ bt n := bt_le (Nat.lt_of_le_of_lt h (lt_bt n)) (bt_pos n)
theorem bt_mul (m n : Nat) : bt (m * n) ≤ bt m + bt n := by
  refine bt_le ?_ (by have := bt_pos m; omega)
  rw [Nat.pow_add]
  by_cases hm : m = 0
  · subst hm; rw [Nat.zero_mul]; exact Nat.mul_pos (Nat.two_pow_pos _) (Nat.two_pow_pos _)
  · exact Nat.mul_lt_mul'' (lt_bt m) (lt_bt n)
theorem bt_add (m n : Nat) : bt (m + n) ≤ max (bt m) (bt n) + 1 := by
  refine bt_le ?_ (by omega)
  have h1 : m < 2 ^ (max (bt m) (bt n)) := Nat.lt_of_lt_of_le (lt_bt m) (Nat.pow_le_pow_right (by decide) (by omega))
  have h2 : n < 2 ^ (max (bt m) (bt n)) := Nat.lt_of_lt_of_le (lt_bt n) (Nat.pow_le_pow_right (by decide) (by omega))
  rw [Nat.pow_succ]; omega
theorem bt_iadd (i j : Int) : bt (i + j).natAbs ≤ max (bt i.natAbs) (bt j.natAbs) + 1 := Nat.le_trans (bt_mono (Int.natAbs_add_le i j)) (bt_add _ _)
theorem bt_isub (i j : Int) : bt (i - j).natAbs ≤ max (bt i.natAbs) (bt j.natAbs) + 1 := Nat.le_trans (bt_mono (Int.natAbs_sub_le i j)) (bt_add _ _)
theorem bt_imul (i j : Int) : bt (i * j).natAbs ≤ bt i.natAbs + bt j.natAbs := by rw [Int.natAbs_mul]; exact bt_mul _ _
theorem mul_bt {i j : Int} (h : bt i.natAbs + bt j.natAbs ≤ 1000000) : pMul (.int i) (.int j) = some (.int (i * j)) := by
  have : mulOk i j = true := by
    unfold mulOk bt at *
    rw [Bool.or_eq_true]; right
    simp; omega
  simp [pMul, this]
theorem fdiv_bt {i j : Int} (h0 : 0 < j) (h : bt j.natAbs ≤ 8900) : pFdiv (.int i) (.int j) = some (.int (i / j)) := by
  have : divOk j = true := by
    unfold divOk bt at *
    simp; omega
  simp [pFdiv, this, Int.fdiv_eq_ediv_of_nonneg _ (Int.le_of_lt h0)]
def comT : TM := tBin cNe (mVar 1) (mC (.int 0))
def comS : SM := (sPar [0, 1] (vF (mVar 1) (vF (mBin pMod (mVar 0) (mVar 1)) vNil)))
def comB : SM := sSeq (sPar [0, 1] (vF (mCallB bAbs (aCons (mVar 0) aNil)) (vF (mCallB bAbs (aCons (mVar 1) aNil)) vNil))) (sSeq (sWhile 20000 (tBin cNe (mVar 1) (mC (.int 0)))
  (sPar [0, 1] (vF (mVar 1) (vF (mBin pMod (mVar 0) (mVar 1)) vNil))) []) (sRet (mVar 0)))
theorem com_one (a b n : Nat) (st : Sto) (h : b ≠ 0) : whileL comT comS [] (n + 1) [.pv (.int a), .pv (.int b)] st = whileL comT comS [] n [.pv (.int b), .pv (.int ((a % b : Nat) : Int))] st := by
  have hb : ((b : Int)) ≠ 0 := by omega
  have e : pMod (.int (a : Int)) (.int (b : Int)) = some (.int ((a % b : Nat) : Int)) := by
    rw [pMod_int hb, Int.fmod_eq_emod_of_nonneg _ (by omega)]; rfl
  show bindF (comT _ st) _ = _
  have t : comT [.pv (.int a), .pv (.int b)] st = .ok true st := by simp [comT, mVar, h]
  have s1 : comS [.pv (.int a), .pv (.int b)] st = .nx [.pv (.int b), .pv (.int ((a % b : Nat) : Int))] st := by
    simp [comS, vF, vNil, mVar, e, setsE]
  rw [t]
  simp only [ev_bindF, if_true, s1, killE, List.foldl_nil]
theorem com_zero (a n : Nat) (st : Sto) : whileL comT comS [] (n + 1) [.pv (.int a), .pv (.int 0)] st = .nx [.pv (.int a), .pv (.int 0)] st := by
  show bindF (comT _ st) _ = _
  have t : comT [.pv (.int a), .pv (.int 0)] st = .ok false st := by simp [comT, mVar]
  rw [t]; simp
theorem com_loop (st : Sto) : ∀ (k a b n : Nat), b < 2 ^ k → 2 * k + 1 ≤ n → whileL comT comS [] n [.pv (.int a), .pv (.int b)] st = .nx [.pv (.int (Nat.gcd a b)), .pv (.int 0)] st
  | 0, a, b, n, hb, hn => by
    have : b = 0 := by simpa using hb
    subst this
    obtain ⟨m, rfl⟩ : ∃ m, n = m + 1 := ⟨n - 1, by omega⟩
    rw [Nat.gcd_zero_right]
    exact com_zero a m st
  | k + 1, a, b, n, hb, hn => by
    obtain ⟨m, rfl⟩ : ∃ m, n = (m + 1) + 1 := ⟨n - 2, by omega⟩
    by_cases h : b = 0
    · subst h; rw [Nat.gcd_zero_right]; exact com_zero a _ st
    · rw [com_one a b _ st h]
      have g1 : Nat.gcd a b = Nat.gcd b (a % b) := by rw [Nat.gcd_comm a b, Nat.gcd_rec, Nat.gcd_comm]
      by_cases h2 : a % b = 0
      · rw [g1, h2, Nat.gcd_zero_right]; exact com_zero b _ st
      · rw [com_one b (a % b) _ st h2]
        have lt : b % (a % b) < 2 ^ k := by
          have r1 : a % b < b := Nat.mod_lt _ (by omega)
          have r2 : b % (a % b) < a % b := Nat.mod_lt _ (by omega)
          rw [Nat.pow_succ] at hb
          by_cases c : 2 * (a % b) ≤ b
          · omega
          · have : b % (a % b) = b - a % b := by
              rw [Nat.mod_eq_sub_mod (by omega), Nat.mod_eq_of_lt (by omega)]
            omega
        rw [com_loop st k (a % b) (b % (a % b)) m lt (by omega), g1]
        have g2 : Nat.gcd b (a % b) = Nat.gcd (a % b) (b % (a % b)) := by rw [Nat.gcd_comm b, Nat.gcd_rec, Nat.gcd_comm]
        rw [g2]
theorem abs_int (i : Int) : (if i < 0 then -i else i) = ((i.natAbs : Nat) : Int) := by split <;> omega
theorem com_ev {a b : Int} {st : Sto} (hb : bt b.natAbs ≤ 9000) : fnM 2 comB [.int a, .int b] st = .ok (.int (Int.gcd a b)) st := by
  have L : sWhile 20000 (tBin cNe (mVar 1) (mC (.int 0))) (sPar [0, 1] (vF (mVar 1) (vF (mBin pMod (mVar 0) (mVar 1)) vNil))) [] [.pv (.int a.natAbs), .pv (.int b.natAbs)] st = _ := com_loop st (bt b.natAbs) a.natAbs b.natAbs 20000 (lt_bt _) (by omega)
  have e1 : sPar [0, 1] (vF (mCallB bAbs (aCons (mVar 0) aNil)) (vF (mCallB bAbs (aCons (mVar 1) aNil)) vNil)) [.pv (.int a), .pv (.int b)] st = .nx [.pv (.int a.natAbs), .pv (.int b.natAbs)] st := by
    simp only [ev_par, vF, vNil, ev_callB, ev_aCons, ev_aNil, mVar, ev_bindR, List.getElem?_cons_zero, List.getElem?_cons_succ, bAbs_int, ev_optR, ev_bindF, List.length_cons, List.length_nil, if_true, setsE, List.set_cons_zero, List.set_cons_succ, abs_int]
  refine fnM_rt ?_
  show comB [.pv (.int a), .pv (.int b)] st = _
  rw [comB, seq_nx e1, seq_nx L]
  rfl
def fr (q : Rat) : PV := .tup [.int q.num, .int (q.den : Int)]
def sz (q : Rat) : Nat := max (bt q.num.natAbs) (bt q.den)
theorem sz_divInt (o u : Int) : sz (Rat.divInt o u) ≤ max (bt o.natAbs) (bt u.natAbs) := by
  unfold sz
  rw [Rat.num_divInt, Rat.den_divInt]
  have h1 : (u.sign * o / (Int.gcd u o : Int)).natAbs ≤ o.natAbs := by
    refine Nat.le_trans (Int.natAbs_ediv_le_natAbs _ _) ?_
    rw [Int.natAbs_mul]
    have : u.sign.natAbs ≤ 1 := by
      rcases Int.lt_trichotomy u 0 with h | h | h
      · rw [Int.sign_eq_neg_one_of_neg h]; decide
      · subst h; decide
      · rw [Int.sign_eq_one_of_pos h]; decide
    exact Nat.le_trans (Nat.mul_le_mul_right _ this) (by omega)
  have h2 := bt_mono h1
  have h3 : bt (if u = 0 then 1 else u.natAbs / Int.gcd u o) ≤ bt u.natAbs := by
    split
    · rename_i h; subst h; decide
    · exact bt_mono (Nat.div_le_self _ _)
  omega
theorem add_frac (a b : Rat) : a + b = Rat.divInt (a.num * b.den + b.num * a.den) (a.den * b.den) := by
  conv => lhs; rw [← Rat.num_divInt_den a, ← Rat.num_divInt_den b]
  exact Rat.divInt_add_divInt _ _ (by have := a.den_pos; omega) (by have := b.den_pos; omega)
theorem sub_frac (a b : Rat) : a - b = Rat.divInt (a.num * b.den - b.num * a.den) (a.den * b.den) := by
  conv => lhs; rw [← Rat.num_divInt_den a, ← Rat.num_divInt_den b]
  exact Rat.divInt_sub_divInt _ _ (by have := a.den_pos; omega) (by have := b.den_pos; omega)
theorem mul_frac (a b : Rat) : a * b = Rat.divInt (a.num * b.num) (a.den * b.den) := by
  conv => lhs; rw [← Rat.num_divInt_den a, ← Rat.num_divInt_den b]
  exact Rat.divInt_mul_divInt _ _
theorem div_frac (a b : Rat) : a / b = Rat.divInt (a.num * b.den) (a.den * b.num) := by
  rw [Rat.div_def]
  conv => lhs; rw [← Rat.num_divInt_den a, ← Rat.num_divInt_den b]
  rw [Rat.inv_divInt, Rat.divInt_mul_divInt]
theorem sz_add (a b : Rat) : sz (a + b) ≤ sz a + sz b + 1 := by
  rw [add_frac]
  refine Nat.le_trans (sz_divInt _ _) ?_
  have h1 := bt_iadd (a.num * b.den) (b.num * a.den)
  have h2 := bt_imul a.num b.den
  have h3 := bt_imul b.num a.den
  have h4 := bt_imul a.den b.den
  simp only [Int.natAbs_natCast] at h2 h3 h4
  unfold sz; omega
theorem sz_sub (a b : Rat) : sz (a - b) ≤ sz a + sz b + 1 := by
  rw [sub_frac]
  refine Nat.le_trans (sz_divInt _ _) ?_
  have h1 := bt_isub (a.num * b.den) (b.num * a.den)
  have h2 := bt_imul a.num b.den
  have h3 := bt_imul b.num a.den
  have h4 := bt_imul a.den b.den
  simp only [Int.natAbs_natCast] at h2 h3 h4
  unfold sz; omega
theorem sz_mul (a b : Rat) : sz (a * b) ≤ sz a + sz b := by
  rw [mul_frac]
  refine Nat.le_trans (sz_divInt _ _) ?_
  have h2 := bt_imul a.num b.num
  have h4 := bt_imul a.den b.den
  simp only [Int.natAbs_natCast] at h2 h4
  unfold sz; omega
theorem sz_div (a b : Rat) : sz (a / b) ≤ sz a + sz b := by
  rw [div_frac]
  refine Nat.le_trans (sz_divInt _ _) ?_
  have h2 := bt_imul a.num b.den
  have h4 := bt_imul a.den b.num
  simp only [Int.natAbs_natCast] at h2 h4
  unfold sz; omega
def parB : SM := sSeq (sIf (tBin cEq (mVar 1) (mC (.int 0))) (sRaise "BadNumber") sNil) (sSeq (sIf (tBin cLt (mVar 1) (mC (.int 0))) (sPar [0, 1] (vF (mUn pNeg (mVar 0)) (vF (mUn pNeg (mVar 1)) vNil))) sNil)
  (sSeq (sSet 2 (mCall 2 (fnM 2 comB) (aCons (mVar 0) (aCons (mVar 1) aNil)))) (sRet (mTup (aCons (mBin pFdiv (mVar 0) (mVar 2)) (aCons (mBin pFdiv (mVar 1) (mVar 2)) aNil))))))
theorem par_pos {o u : Int} {st : Sto} (h : 0 < u) (hb : bt u.natAbs ≤ 8900) : (sSeq (sSet 2 (mCall 2 (fnM 2 comB) (aCons (mVar 0) (aCons (mVar 1) aNil)))) (sRet (mTup (aCons (mBin pFdiv (mVar 0) (mVar 2)) (aCons (mBin pFdiv (mVar 1) (mVar 2)) aNil)))))
    [.pv (.int o), .pv (.int u), .un] st = .rt (fr (Rat.divInt o u)) st := by
  have c := com_ev (a := o) (b := u) (st := st) (by omega)
  have gp : 0 < Int.gcd o u := Int.gcd_pos_of_ne_zero_right _ (by omega)
  have gl : Int.gcd o u ≤ u.natAbs := Int.gcd_le_natAbs_right o (by omega)
  have bg : bt ((Int.gcd o u : Int)).natAbs ≤ 8900 := Nat.le_trans (bt_mono (by simpa using gl)) hb
  have d1 := fdiv_bt (i := o) (j := (Int.gcd o u : Int)) (by omega) bg
  have d2 := fdiv_bt (i := u) (j := (Int.gcd o u : Int)) (by omega) bg
  have e : fr (Rat.divInt o u) = .tup [.int (o / (Int.gcd o u : Int)), .int (u / (Int.gcd o u : Int))] := by
    unfold fr
    rw [Rat.num_divInt, Rat.den_divInt, if_neg (by omega), Int.sign_eq_one_of_pos h, Int.one_mul, Int.gcd_comm u o]
    have : ((u.natAbs / Int.gcd o u : Nat) : Int) = u / (Int.gcd o u : Int) := by
      rw [Int.natCast_ediv, Int.natAbs_of_nonneg (by omega)]
    rw [this]
  rw [e]
  simp -implicitDefEqProofs [-ev_fnM, mVar, c, d1, d2]
theorem par_ev {o u : Int} {st : Sto} (h : u ≠ 0) (hb : bt u.natAbs ≤ 8900) : fnM 3 parB [.int o, .int u] st = .ok (fr (Rat.divInt o u)) st := by
  refine fnM_rt ?_
  show parB [.pv (.int o), .pv (.int u), .un] st = _
  have e1 : sIf (tBin cEq (mVar 1) (mC (.int 0))) (sRaise "BadNumber") sNil [.pv (.int o), .pv (.int u), .un] st = .nx [.pv (.int o), .pv (.int u), .un] st := by
    simp [mVar, h]
  rw [parB, seq_nx e1]
  by_cases hn : u < 0
  · have e2 : sIf (tBin cLt (mVar 1) (mC (.int 0))) (sPar [0, 1] (vF (mUn pNeg (mVar 0)) (vF (mUn pNeg (mVar 1)) vNil))) sNil [.pv (.int o), .pv (.int u), .un] st = .nx [.pv (.int (-o)), .pv (.int (-u)), .un] st := by
      simp [mVar, hn, vF, vNil, setsE]
    rw [seq_nx e2, par_pos (by omega) (by rw [Int.natAbs_neg]; exact hb)]
    congr 2
    rw [Rat.divInt_eq_divInt_iff (by omega) h]
    rw [Int.neg_mul, Int.mul_neg]
  · have e2 : sIf (tBin cLt (mVar 1) (mC (.int 0))) (sPar [0, 1] (vF (mUn pNeg (mVar 0)) (vF (mUn pNeg (mVar 1)) vNil))) sNil [.pv (.int o), .pv (.int u), .un] st = .nx [.pv (.int o), .pv (.int u), .un] st := by
      simp [mVar, hn]
    rw [seq_nx e2, par_pos (by omega) hb]
def pluB : SM := (sRet (mCall 2 (fnM 3 parB) (aCons (mBin pAdd (mBin pMul (mIx (mVar 0) (mC (.int 0))) (mIx (mVar 1) (mC (.int 1)))) (mBin pMul (mIx (mVar 1) (mC (.int 0))) (mIx (mVar 0) (mC (.int 1))))) (aCons (mBin pMul (mIx (mVar 0) (mC (.int 1))) (mIx (mVar 1) (mC (.int 1)))) aNil))))
def minB : SM := (sRet (mCall 2 (fnM 3 parB) (aCons (mBin pSub (mBin pMul (mIx (mVar 0) (mC (.int 0))) (mIx (mVar 1) (mC (.int 1)))) (mBin pMul (mIx (mVar 1) (mC (.int 0))) (mIx (mVar 0) (mC (.int 1))))) (aCons (mBin pMul (mIx (mVar 0) (mC (.int 1))) (mIx (mVar 1) (mC (.int 1)))) aNil))))
def timB : SM := (sRet (mCall 2 (fnM 3 parB) (aCons (mBin pMul (mIx (mVar 0) (mC (.int 0))) (mIx (mVar 1) (mC (.int 0)))) (aCons (mBin pMul (mIx (mVar 0) (mC (.int 1))) (mIx (mVar 1) (mC (.int 1)))) aNil))))
def ovrB : SM := (sRet (mCall 2 (fnM 3 parB) (aCons (mBin pMul (mIx (mVar 0) (mC (.int 0))) (mIx (mVar 1) (mC (.int 1)))) (aCons (mBin pMul (mIx (mVar 0) (mC (.int 1))) (mIx (mVar 1) (mC (.int 0)))) aNil))))
@[simp] theorem isiO_fr {T : String} (q : Rat) : isiO T (fr q) = some (.bl (isiB T (fr q))) := rfl
@[simp] theorem fr_ix0 (q : Rat) (s : Sto) : ixV s (fr q) (.int 0) = some (.int q.num) := rfl
@[simp] theorem fr_ix1 (q : Rat) (s : Sto) : ixV s (fr q) (.int 1) = some (.int q.den) := rfl
section
variable {a b : Rat} {st : Sto}
theorem fac (h : sz a + sz b ≤ 8800) : pMul (.int a.num) (.int b.den) = some (.int (a.num * b.den)) ∧ pMul (.int b.num) (.int a.den) = some (.int (b.num * a.den)) ∧ pMul (.int a.den) (.int b.den) = some (.int (a.den * b.den)) ∧ pMul (.int a.num) (.int b.num) = some (.int (a.num * b.num)) ∧ pMul (.int a.den) (.int b.num) = some (.int (a.den * b.num)) := by
  unfold sz at h
  refine ⟨mul_bt ?_, mul_bt ?_, mul_bt ?_, mul_bt ?_, mul_bt ?_⟩ <;> (try simp only [Int.natAbs_natCast]) <;> omega
theorem den_bt (h : sz a + sz b ≤ 8800) : bt ((a.den : Int) * b.den).natAbs ≤ 8900 := by
  have := bt_imul a.den b.den
  simp only [Int.natAbs_natCast] at this
  unfold sz at h; omega
theorem den_ne : (a.den : Int) * b.den ≠ 0 := by
  have h1 := a.den_pos; have h2 := b.den_pos
  exact Int.ne_of_gt (Int.mul_pos (by omega) (by omega))
theorem plu_ev (h : sz a + sz b ≤ 8800) : fnM 2 pluB [fr a, fr b] st = .ok (fr (a + b)) st := by
  obtain ⟨m1, m2, m3, m4, m5⟩ := fac h
  refine fnM_rt ?_
  show pluB [.pv (fr a), .pv (fr b)] st = _
  simp -implicitDefEqProofs [-ev_fnM, pluB, mVar, m1, m2, m3, par_ev den_ne (den_bt h), ← add_frac]
theorem min_ev (h : sz a + sz b ≤ 8800) : fnM 2 minB [fr a, fr b] st = .ok (fr (a - b)) st := by
  obtain ⟨m1, m2, m3, m4, m5⟩ := fac h
  refine fnM_rt ?_
  show minB [.pv (fr a), .pv (fr b)] st = _
  simp -implicitDefEqProofs [-ev_fnM, minB, mVar, m1, m2, m3, par_ev den_ne (den_bt h), ← sub_frac]
theorem tim_ev (h : sz a + sz b ≤ 8800) : fnM 2 timB [fr a, fr b] st = .ok (fr (a * b)) st := by
  obtain ⟨m1, m2, m3, m4, m5⟩ := fac h
  refine fnM_rt ?_
  show timB [.pv (fr a), .pv (fr b)] st = _
  simp -implicitDefEqProofs [-ev_fnM, timB, mVar, m3, m4, par_ev den_ne (den_bt h), ← mul_frac]
theorem ovr_ev (h : sz a + sz b ≤ 8800) (h0 : b ≠ 0) : fnM 2 ovrB [fr a, fr b] st = .ok (fr (a / b)) st := by
  obtain ⟨m1, m2, m3, m4, m5⟩ := fac h
  have n0 : b.num ≠ 0 := fun z => h0 (Rat.num_eq_zero.mp z)
  have ne : (a.den : Int) * b.num ≠ 0 := Int.mul_ne_zero (by have := a.den_pos; omega) n0
  have hb : bt ((a.den : Int) * b.num).natAbs ≤ 8900 := by
    have := bt_imul a.den b.num
    simp only [Int.natAbs_natCast] at this
    unfold sz at h; omega
  refine fnM_rt ?_
  show ovrB [.pv (fr a), .pv (fr b)] st = _
  simp -implicitDefEqProofs [-ev_fnM, ovrB, mVar, m1, m5, par_ev ne hb, ← div_frac]
end
theorem isD_fr (q : Rat) : isD (fr q) = true := by simp [isD, fr, pd, pds]
theorem pvEq_fr (a b : Rat) : pvEq (fr a) (fr b) = decide (a = b) := by
  unfold fr
  simp only [pvEq, pvEqs, Bool.and_true]
  by_cases h : a = b
  · subst h; simp
  · rw [decide_eq_false h]
    rw [Bool.and_eq_false_iff]
    by_cases h1 : a.num = b.num
    · right
      have h2 : ¬ a.den = b.den := fun z => h (Rat.ext h1 z)
      simp; omega
    · left; simpa using h1
theorem sz_int {i : Int} {n : Nat} (h : i.natAbs < 2 ^ n) (h0 : 0 < n) : sz (i : Rat) ≤ n := by
  unfold sz
  have h1 := bt_le h h0
  have : bt 1 ≤ n := by have : bt 1 = 1 := by decide
                        omega
  simp only [Rat.num_intCast, Rat.den_intCast]
  omega
end Mp
end
section
set_option maxRecDepth 100000
set_option maxHeartbeats 1000000
namespace Mp
open PySem L2
theorem mComp_map {α : Type} {mi : AM} {gt : PV → MEnv → Option MEnv} {tc : TM} {me : EM} {vs : List Nat} {env : MEnv} {st : Sto} (f : α → PV) (p : α → Bool) (g : α → PV) (xs : List α) (hi : mi env st = .ok (xs.map f) st) (hn : noOwn vs env = true) (hl : xs.length ≤ 1000000)
    (h : ∀ a ∈ xs, ∃ e1, gt (f a) (killE vs env) = some e1 ∧ tc e1 st = .ok (p a) st ∧ (p a = true → me e1 st = .ok (g a) st)) : mComp mi gt tc me vs env st = .ok (.lst ((xs.filter p).map g)) st := by
  have C := compL_map (st := st) f p g xs h
  have hl' : (xs.map f).length ≤ 1000000 := by rw [List.length_map]; exact hl
  unfold mComp
  rw [hi, ev_bindR, hn]
  simp only [hl', decide_true, Bool.and_self, if_true, C, ev_bindX]
theorem mComp_all {α : Type} {mi : AM} {gt : PV → MEnv → Option MEnv} {me : EM} {vs : List Nat} {env : MEnv} {st : Sto} (f : α → PV) (g : α → PV) (xs : List α) (hi : mi env st = .ok (xs.map f) st) (hn : noOwn vs env = true) (hl : xs.length ≤ 1000000)
    (h : ∀ a ∈ xs, ∃ e1, gt (f a) (killE vs env) = some e1 ∧ me e1 st = .ok (g a) st) : mComp mi gt tYesM me vs env st = .ok (.lst (xs.map g)) st := by
  have := mComp_map (tc := tYesM) f (fun _ => true) g xs hi hn hl fun a ha => by
    obtain ⟨e1, h1, h2⟩ := h a ha
    exact ⟨e1, h1, rfl, fun _ => h2⟩
  rw [List.filter_eq_self.mpr (fun _ _ => rfl)] at this
  exact this
theorem rng1_ev {ms : AM} {env : MEnv} {st : Sto} {n : Nat} (h : ms env st = .ok [.int (n : Int)] st) (hn : n ≤ 1000000) : iRng1M ms env st = .ok ((List.range n).map fun (k : Nat) => .int (k : Int)) st := by
  have r : rgOk (n : Int) = true := by unfold rgOk; simp; omega
  rw [ev_rng1, h, ev_bindR]
  simp only [r, if_true, rangeL, Int.toNat_natCast, Int.zero_add]
theorem seq_ev {m : EM} {env : MEnv} {st : Sto} {xs : List PV} (h : m env st = .ok (.lst xs) st) : iSeq m env st = .ok xs st := by rw [ev_seqI, h]; rfl
theorem seqT_ev {m : EM} {env : MEnv} {st : Sto} {xs : List PV} (h : m env st = .ok (.tup xs) st) : iSeq m env st = .ok xs st := by rw [ev_seqI, h]; rfl
theorem for_ev {mi : AM} {gt : PV → MEnv → Option MEnv} {b : SM} {ks : List Nat} {env : MEnv} {st : Sto} {xs : List PV} (h : mi env st = .ok xs st) : sFor mi gt b ks env st = forL gt b ks xs env st := by rw [ev_for, h]; rfl
theorem ixNn {n i : Nat} (h : i < n) : ixN n (i : Int) = some i := by
  unfold ixN; simp [h]
theorem atIn {α : Type} {l : List α} {k : Nat} {v : α} (h : l[k]? = some v) : atI l (k : Int) = some v := by
  obtain ⟨hl, _⟩ := List.getElem?_eq_some_iff.mp h
  unfold atI
  rw [ixNn hl]
  exact h
theorem atIlast {α : Type} {l : List α} {v : α} (h : l[l.length - 1]? = some v) : atI l (-1) = some v := by
  obtain ⟨hl, _⟩ := List.getElem?_eq_some_iff.mp h
  unfold atI ixN
  rw [if_neg (by omega), if_pos (by omega)]
  have : ((-1 : Int) + (l.length : Int)).toNat = l.length - 1 := by omega
  rw [this]; exact h
theorem ixL {s : Sto} {l : List PV} {k : Nat} {v : PV} (h : l[k]? = some v) : ixV s (.lst l) (.int (k : Int)) = some v := atIn h
theorem ixT {s : Sto} {l : List PV} {k : Nat} {v : PV} (h : l[k]? = some v) : ixV s (.tup l) (.int (k : Int)) = some v := atIn h
theorem lenL {s : Sto} {l : List PV} : bLen s [.lst l] = some (.int l.length) := rfl
theorem lenT {s : Sto} {l : List PV} : bLen s [.tup l] = some (.int l.length) := rfl
theorem cut_take {α : Type} (xs : List α) (n : Nat) : cutL xs none (some (n : Int)) = xs.take n := by
  unfold cutL
  simp only [HT.sIx_none, HT.sIx_nat, List.drop_zero, Nat.sub_zero]
  rw [List.take_eq_take_iff]; omega
theorem cut_drop {α : Type} (xs : List α) (n : Nat) : cutL xs (some (n : Int)) none = xs.drop n := by
  unfold cutL
  simp only [HT.sIx_none, HT.sIx_nat]
  by_cases h : n ≤ xs.length
  · rw [Nat.min_eq_left h, List.take_of_length_le (by rw [List.length_drop]; omega)]
  · rw [Nat.min_eq_right (by omega), List.drop_eq_nil_of_le (Nat.le_refl _), List.drop_eq_nil_of_le (by omega), List.take_nil]
theorem sl_take {m mi : EM} {env : MEnv} {st : Sto} {xs : List PV} {n : Nat} (h : m env st = .ok (.lst xs) st) (hi : mi env st = .ok (.int (n : Int)) st) : mSlice m pN (pS mi) env st = .ok (.lst (xs.take n)) st := by
  unfold mSlice pN pS
  simp only [h, hi, ev_bindR, cut_take]
theorem sl_drop {m mi : EM} {env : MEnv} {st : Sto} {xs : List PV} {n : Nat} (h : m env st = .ok (.lst xs) st) (hi : mi env st = .ok (.int (n : Int)) st) : mSlice m (pS mi) pN env st = .ok (.lst (xs.drop n)) st := by
  unfold mSlice pN pS
  simp only [h, hi, ev_bindR, cut_drop]
theorem enumP_map {α : Type} (f : α → PV) (xs : List α) : enumP (xs.map f) = (xs.zipIdx 0).map fun p => .tup [.int (p.2 : Nat), f p.1] := by
  unfold enumP
  rw [List.zipIdx_map, List.map_map]
  rfl
theorem rng1_ev2 {ms : AM} {env : MEnv} {st st1 : Sto} {n : Nat} (h : ms env st = .ok [.int (n : Int)] st1) (hn : n ≤ 1000000) : iRng1M ms env st = .ok ((List.range n).map fun (k : Nat) => .int (k : Int)) st1 := by
  have r : rgOk (n : Int) = true := by unfold rgOk; simp; omega
  rw [ev_rng1, h, ev_bindR]
  simp only [r, if_true, rangeL, Int.toNat_natCast, Int.zero_add]
theorem seq_ev2 {m : EM} {env : MEnv} {st st1 : Sto} {xs : List PV} (h : m env st = .ok (.lst xs) st1) : iSeq m env st = .ok xs st1 := by rw [ev_seqI, h]; rfl
end Mp
end
section
set_option maxRecDepth 100000
set_option maxHeartbeats 1000000
namespace Ge
open PySem L2 Mp
def Bd (n : Int) (p : Pt) : Prop := -n ≤ p.1 ∧ p.1 ≤ n ∧ -n ≤ p.2 ∧ p.2 ≤ n
def ls (a b : Pt) : Pt := (a.1 - b.1, a.2 - b.2)
def crs (a b : Pt) : Int := a.1 * b.2 - a.2 * b.1
def dt (a b : Pt) : Int := a.1 * b.1 + a.2 * b.2
def sg (i : Int) : Int := Mp.bi (decide (0 < i)) - Mp.bi (decide (i < 0))
def d2 (a b : Pt) : Int := dt (ls a b) (ls a b)
def tr (a b c : Pt) : Int := crs (ls b a) (ls c a)
def mn (a b : Int) : Int := if b < a then b else a
def mx (a b : Int) : Int := if a < b then b else a
def inB (a b p : Pt) : Bool := (decide (mn a.1 b.1 ≤ p.1) && decide (p.1 ≤ mx a.1 b.1)) && (decide (mn a.2 b.2 ≤ p.2) && decide (p.2 ≤ mx a.2 b.2))
def onS (a b p : Pt) : Bool := decide (tr a b p = 0) && inB a b p
theorem Bd.ls {n m : Int} {a b : Pt} (h : Bd n a) (g : Bd m b) : Bd (n + m) (ls a b) := by
  unfold Bd Ge.ls at *; dsimp only; omega
theorem Bd.le {n m : Int} {a : Pt} (h : Bd n a) (k : n ≤ m) : Bd m a := by unfold Bd at *; omega
def mnP (a b : Pt) : Pt := if pLt b a then b else a
def mxP (a b : Pt) : Pt := if pLt a b then b else a
@[simp] theorem tp_ix0 (p : Pt) (s : Sto) : ixV s (tp p) (.int 0) = some (.int p.1) := rfl
@[simp] theorem tp_ix1 (p : Pt) (s : Sto) : ixV s (tp p) (.int 1) = some (.int p.2) := rfl
theorem eChain_ev {env : MEnv} {g g' : PV → PV → Option PV} {ma mb mc : EM} {s : Sto} {x y z : PV} {k l : Bool} (h1 : ma env s = .ok x s) (h2 : mb env s = .ok y s) (h3 : mc env s = .ok z s) (e1 : g x y = some (.bl k)) (e2 : g' y z = some (.bl l)) : eChain g g' ma mb mc env s = .ok (.bl (k && l)) s := by
  unfold eChain
  rw [h1, ev_bindR, h2, ev_bindR, e1]
  cases k with
  | true => simp [h3, e2]
  | false => simp
theorem pLt_iff {a b : Pt} : pLt a b = true ↔ a.1 < b.1 ∨ (a.1 = b.1 ∧ a.2 < b.2) := by
  unfold pLt; simp
theorem pt_ext {a b : Pt} (h1 : a.1 = b.1) (h2 : a.2 = b.2) : a = b := Prod.ext h1 h2
theorem mul_mid {u t g : Int} (h0 : 0 ≤ t) (h1 : t ≤ g) : (0 ≤ u → 0 ≤ u * t ∧ u * t ≤ u * g) ∧ (u ≤ 0 → u * g ≤ u * t ∧ u * t ≤ 0) := by
  refine ⟨fun hu => ⟨Int.mul_nonneg hu h0, Int.mul_le_mul_of_nonneg_left h1 hu⟩, fun hu => ?_⟩
  have a1 := Int.mul_nonneg (show 0 ≤ -u by omega) h0
  have a2 := Int.mul_le_mul_of_nonneg_left h1 (show 0 ≤ -u by omega)
  rw [Int.neg_mul] at a1
  rw [Int.neg_mul, Int.neg_mul] at a2
  omega
end Ge
end
section
set_option maxRecDepth 100000
set_option maxHeartbeats 1000000
namespace Ge
open Mp
theorem tr_turn (a b p : Pt) : tr b a p = -tr a b p := by unfold tr crs ls; dsimp only; grind
theorem mn_comm (a b : Int) : mn a b = mn b a := by unfold mn; split <;> split <;> omega
theorem mx_comm (a b : Int) : mx a b = mx b a := by unfold mx; split <;> split <;> omega
def wy (a b : Pt) : Pt := ls b a
def al (a b c d : Pt) : Int := crs (ls c a) (wy c d)
section
variable {a b c d : Pt}
end
end Ge
end
section
set_option maxRecDepth 100000
set_option maxHeartbeats 1000000
namespace Ge
open Mp
def bx (i j : Int) (x : Rat) : Prop := ((mn i j : Int) : Rat) ≤ x ∧ x ≤ ((mx i j : Int) : Rat)
theorem onS_iff {a b p : Pt} : onS a b p = true ↔ tr a b p = 0 ∧ (mn a.1 b.1 ≤ p.1 ∧ p.1 ≤ mx a.1 b.1) ∧ (mn a.2 b.2 ≤ p.2 ∧ p.2 ≤ mx a.2 b.2) := by
  unfold onS inB
  simp only [Bool.and_eq_true, decide_eq_true_eq]
section
variable {a b c d : Pt}
end
def lo (a b c d : Pt) : Pt := mxP (mnP a b) (mnP c d)
def hi (a b c d : Pt) : Pt := mnP (mxP a b) (mxP c d)
def pl (p q : Pt) : Prop := p.1 < q.1 ∨ (p.1 = q.1 ∧ p.2 ≤ q.2)
theorem mnP_cases (p q : Pt) : (mnP p q = p ∧ pl p q) ∨ (mnP p q = q ∧ pl q p) := by
  unfold mnP pl
  by_cases h : pLt q p = true
  · right; rw [pLt_iff] at h; simp [pLt_iff.mpr h]; omega
  · left; simp only [h]; rw [pLt_iff] at h
    exact ⟨rfl, by omega⟩
theorem mxP_cases (p q : Pt) : (mxP p q = q ∧ pl p q) ∨ (mxP p q = p ∧ pl q p) := by
  unfold mxP pl
  by_cases h : pLt p q = true
  · left; rw [pLt_iff] at h; simp [pLt_iff.mpr h]; omega
  · right; simp only [h]; rw [pLt_iff] at h
    exact ⟨rfl, by omega⟩
theorem pl_refl (p : Pt) : pl p p := by unfold pl; omega
theorem pl_anti {p q : Pt} (h1 : pl p q) (h2 : pl q p) : p = q := by
  unfold pl at *; exact pt_ext (by omega) (by omega)
theorem pl_total (p q : Pt) : pl p q ∨ pl q p := by unfold pl; omega
theorem col_lt {p q r : Pt} (h : pl p q) (hne : p ≠ q) (o : tr p q r = 0) : ((mn p.1 q.1 ≤ r.1 ∧ r.1 ≤ mx p.1 q.1) ∧ (mn p.2 q.2 ≤ r.2 ∧ r.2 ≤ mx p.2 q.2)) ↔ pl p r ∧ pl r q := by
  unfold tr crs ls at o
  dsimp only at o
  unfold pl at *
  have e1 : mn p.1 q.1 = p.1 := by unfold mn; split <;> omega
  have e2 : mx p.1 q.1 = q.1 := by unfold mx; split <;> omega
  rw [e1, e2]
  by_cases z : p.1 = q.1
  · have z' : q.1 - p.1 = 0 := by omega
    rw [z', Int.zero_mul] at o
    have hq : p.2 < q.2 := by
      have y : p.2 ≠ q.2 := fun y => hne (pt_ext z y)
      omega
    have o' : (q.2 - p.2) * (r.1 - p.1) = 0 := by omega
    have : r.1 = p.1 := by
      rcases Int.mul_eq_zero.mp o' with y | y <;> omega
    unfold mn mx
    constructor
    · rintro ⟨_, h3, h4⟩
      split at h3 <;> split at h4 <;> omega
    · rintro ⟨h3, h4⟩
      refine ⟨by omega, ?_, ?_⟩ <;> split <;> omega
  · have hp : 0 < q.1 - p.1 := by omega
    constructor
    · rintro ⟨⟨h1, h2⟩, h3⟩
      constructor
      · by_cases y : p.1 = r.1
        · have : r.1 - p.1 = 0 := by omega
          rw [this, Int.mul_zero] at o
          have : (q.1 - p.1) * (r.2 - p.2) = 0 := by omega
          rcases Int.mul_eq_zero.mp this with y | y <;> omega
        · omega
      · by_cases y : r.1 = q.1
        · have e : r.1 - p.1 = q.1 - p.1 := by omega
          rw [e, Int.mul_comm (q.2 - p.2)] at o
          have : (q.1 - p.1) * ((r.2 - p.2) - (q.2 - p.2)) = 0 := by rw [Int.mul_sub]; omega
          rcases Int.mul_eq_zero.mp this with y | y <;> omega
        · omega
    · rintro ⟨h1, h2⟩
      refine ⟨by omega, ?_⟩
      have b0 : 0 ≤ r.1 - p.1 := by omega
      have b1 : r.1 - p.1 ≤ q.1 - p.1 := by omega
      have mm := mul_mid (u := q.2 - p.2) b0 b1
      have ee : (q.1 - p.1) * (r.2 - p.2) = (q.2 - p.2) * (r.1 - p.1) := by omega
      have cc := Int.mul_comm (q.1 - p.1) (q.2 - p.2)
      have key : (0 ≤ q.2 - p.2 → 0 ≤ r.2 - p.2 ∧ r.2 - p.2 ≤ q.2 - p.2) ∧ (q.2 - p.2 ≤ 0 → q.2 - p.2 ≤ r.2 - p.2 ∧ r.2 - p.2 ≤ 0) := by
        constructor
        · intro g
          have := mm.1 g
          constructor
          · refine Int.not_lt.mp fun z => ?_
            have := Int.mul_pos hp (show 0 < -(r.2 - p.2) by omega)
            rw [Int.mul_neg] at this; omega
          · refine Int.not_lt.mp fun z => ?_
            have := Int.mul_pos hp (show 0 < (r.2 - p.2) - (q.2 - p.2) by omega)
            rw [Int.mul_sub] at this; omega
        · intro g
          have := mm.2 g
          constructor
          · refine Int.not_lt.mp fun z => ?_
            have := Int.mul_pos hp (show 0 < (q.2 - p.2) - (r.2 - p.2) by omega)
            rw [Int.mul_sub] at this; omega
          · refine Int.not_lt.mp fun z => ?_
            have := Int.mul_pos hp (show 0 < r.2 - p.2 by omega)
            omega
      unfold mn mx
      rcases Int.le_total 0 (q.2 - p.2) with g | g
      · have := key.1 g
        constructor <;> split <;> omega
      · have := key.2 g
        constructor <;> split <;> omega
theorem col {p q r : Pt} (hne : p ≠ q) (o : tr p q r = 0) : onS p q r = true ↔ pl (mnP p q) r ∧ pl r (mxP p q) := by
  rw [onS_iff]
  rcases pl_total p q with h | h
  · have e1 : mnP p q = p := by
      rcases mnP_cases p q with ⟨e, _⟩ | ⟨e, h'⟩
      · exact e
      · rw [e]; exact pl_anti h' h
    have e2 : mxP p q = q := by
      rcases mxP_cases p q with ⟨e, _⟩ | ⟨e, h'⟩
      · exact e
      · rw [e]; exact pl_anti h h'
    rw [e1, e2]
    have := col_lt h hne o
    exact ⟨fun z => this.mp z.2, fun z => ⟨o, this.mpr z⟩⟩
  · have e1 : mnP p q = q := by
      rcases mnP_cases p q with ⟨e, h'⟩ | ⟨e, h'⟩
      · rw [e]; exact pl_anti h' h
      · exact e
    have e2 : mxP p q = p := by
      rcases mxP_cases p q with ⟨e, h'⟩ | ⟨e, h'⟩
      · rw [e]; exact pl_anti h h'
      · exact e
    rw [e1, e2]
    have := col_lt (p := q) (q := p) (r := r) h (Ne.symm hne) (by rw [tr_turn]; omega)
    rw [mn_comm q.1, mx_comm q.1, mn_comm q.2, mx_comm q.2] at this
    exact ⟨fun z => this.mp z.2, fun z => ⟨o, this.mpr z⟩⟩
section
variable {a b c d : Pt}
end
end Ge
end
section
set_option maxRecDepth 100000
set_option maxHeartbeats 1000000
namespace Ge
open Mp
def up (v : Pt) : Prop := 0 < v.1 ∨ (v.1 = 0 ∧ 0 < v.2)
def lt (a b : Pt) : Prop := a.1 < b.1 ∨ (a.1 = b.1 ∧ a.2 < b.2)
theorem up_ls {a b : Pt} : up (ls b a) ↔ lt a b := by unfold up ls lt; dsimp only; omega
theorem lt_trans {a b c : Pt} (h : lt a b) (k : lt b c) : lt a c := by unfold lt at *; omega
theorem lt_irr {a : Pt} : ¬ lt a a := by unfold lt; omega
theorem lt_tri (a b : Pt) : lt a b ∨ a = b ∨ lt b a := by
  by_cases h : a = b
  · exact .inr (.inl h)
  · have : ¬ (a.1 = b.1 ∧ a.2 = b.2) := fun z => h (pt_ext z.1 z.2)
    unfold lt; omega
theorem pl_lt {a b : Pt} : pl a b ↔ a = b ∨ lt a b := by
  constructor
  · intro h
    rcases lt_tri a b with k | k | k
    · exact .inr k
    · exact .inl k
    · unfold pl at h; unfold lt at k; omega
  · rintro (rfl | h)
    · exact pl_refl _
    · unfold pl; unfold lt at h; omega
theorem nn_of_mul {x y : Int} (hy : 0 < y) (h : 0 ≤ x * y) : 0 ≤ x := by
  refine Int.not_lt.mp fun z => ?_
  have := Int.mul_pos (show 0 < -x by omega) hy
  rw [Int.neg_mul] at this; omega
def Edg (D : Pt → Prop) : List Pt → Prop
  | b :: a :: r => (∀ q, D q → 0 ≤ tr a b q) ∧ lt a b ∧ Edg D (a :: r)
  | _ => True
theorem tr_w1 (a b p : Pt) : tr a b p = crs (ls b a) (ls p a) := rfl
theorem tr_w2 (a b p : Pt) : tr a b p = crs (ls b a) (ls p b) := by unfold tr crs ls; dsimp only; grind
theorem Edg.imp {D D' : Pt → Prop} (h : ∀ q, D' q → D q) : ∀ {s : List Pt}, Edg D s → Edg D' s
  | [], _ => trivial
  | [_], _ => trivial
  | b :: a :: r, ⟨h1, h2, h3⟩ => ⟨fun q hq => h1 q (h q hq), h2, Edg.imp h h3⟩
def ng (p : Pt) : Pt := (-p.1, -p.2)
end Ge
end
section
set_option maxRecDepth 100000
set_option maxHeartbeats 1000000
namespace Ge
open Mp
structure Arc (D : Pt → Prop) (L : Pt → Pt → Prop) (x z : Pt) (l : List Pt) : Prop where
  ed : ∀ i a b, l[i]? = some a → l[i + 1]? = some b → (∀ q, D q → 0 ≤ tr a b q) ∧ L a b
  st : ∀ i a b c, l[i]? = some a → l[i + 1]? = some b → l[i + 2]? = some c → 0 < tr a b c
  mem : ∀ y ∈ l, D y
  hd : l[0]? = some x
  tl : l[l.length - 1]? = some z
def cy (C : List Pt) (k : Nat) : Pt := C.getD (k % C.length) (0, 0)
structure Conv (D : Pt → Prop) (C : List Pt) : Prop where
  n3 : 3 ≤ C.length
  mem : ∀ c ∈ C, D c
  nd : C.Nodup
  mn : ∀ q, D q → pl (cy C 0) q
  ed : ∀ k q, D q → 0 ≤ tr (cy C k) (cy C (k + 1)) q
  st : ∀ k, 0 < tr (cy C k) (cy C (k + 1)) (cy C (k + 2))
theorem getD_of {l : List Pt} {i : Nat} {a : Pt} (h : l[i]? = some a) : l.getD i (0, 0) = a := by rw [List.getD_eq_getElem?_getD, h]; rfl
end Ge
end
section
set_option maxRecDepth 100000
set_option maxHeartbeats 1000000
namespace Ge
open Mp
inductive HullOf (D : Pt → Prop) : List Pt → Prop
  | none (h : ∀ q, ¬ D q) : HullOf D []
  | one (p : Pt) (hp : D p) (h : ∀ q, D q → q = p) : HullOf D [p]
  | two (p r : Pt) (l : lt p r) (hp : D p) (hr : D r) (h : ∀ q, D q → tr p r q = 0 ∧ pl p q ∧ pl q r) : HullOf D [p, r]
  | poly (C : List Pt) (h : Conv D C) : HullOf D C
theorem Arc.congr {D D' : Pt → Prop} {L : Pt → Pt → Prop} {x z : Pt} {l : List Pt} (h : Arc D L x z l) (e : ∀ q, D q ↔ D' q) : Arc D' L x z l :=
  ⟨fun i a b h1 h2 => ⟨fun q hq => (h.ed i a b h1 h2).1 q ((e q).mpr hq), (h.ed i a b h1 h2).2⟩, h.st, fun y hy => (e y).mp (h.mem y hy), h.hd, h.tl⟩
def Ext (D : Pt → Prop) (x : Pt) : Prop := ∃ d, ∀ q, D q → q ≠ x → 0 < crs d (ls q x)
def Kept (D : Pt → Prop) (x : Pt) : Prop := (∀ a b, D a → a ≠ x → D b → b ≠ x → onS a b x = false) ∧ (∀ a b c, D a → a ≠ x → D b → b ≠ x → D c → c ≠ x → ¬ (0 < tr a b x ∧ 0 < tr b c x ∧ 0 < tr c a x))
theorem box_le {a b x : Int} (h1 : mn a b ≤ x) (h2 : x ≤ mx a b) : (a ≤ x ∧ x ≤ b) ∨ (b ≤ x ∧ x ≤ a) := by
  unfold mn at h1; unfold mx at h2
  split at h1 <;> split at h2 <;> omega
theorem box_of {a b x : Int} (h : (a ≤ x ∧ x ≤ b) ∨ (b ≤ x ∧ x ≤ a)) : mn a b ≤ x ∧ x ≤ mx a b := by
  unfold mn mx
  constructor <;> split <;> omega
theorem opp {u v P Q : Int} (h : P * v = Q * u) (hP : 0 < P) (hQ : 0 < Q) (o : (u ≤ 0 ∧ 0 ≤ v) ∨ (v ≤ 0 ∧ 0 ≤ u)) : u = 0 ∧ v = 0 := by
  have pos : ∀ {a b : Int}, 0 < a → 0 < b → 0 < a * b := fun h k => Int.mul_pos h k
  have neg : ∀ {a b : Int}, 0 < a → b < 0 → a * b < 0 := fun {a b} h k => by
    have := Int.mul_pos h (show 0 < -b by omega)
    rw [Int.mul_neg] at this; omega
  rcases Int.lt_trichotomy u 0 with hu | hu | hu <;> rcases Int.lt_trichotomy v 0 with hv | hv | hv
  · omega
  · have := neg hQ hu; rw [hv, Int.mul_zero] at h; omega
  · have := neg hQ hu; have := pos hP hv; omega
  · have := neg hP hv; rw [hu, Int.mul_zero] at h; omega
  · exact ⟨hu, hv⟩
  · have := pos hP hv; rw [hu, Int.mul_zero] at h; omega
  · have := pos hQ hu; have := neg hP hv; omega
  · have := pos hQ hu; rw [hv, Int.mul_zero] at h; omega
  · omega
theorem Ext.kept {D : Pt → Prop} {x : Pt} (h : Ext D x) : Kept D x := by
  obtain ⟨d, h⟩ := h
  constructor
  · intro a b ha hax hb hbx
    rw [Bool.eq_false_iff]
    intro z
    obtain ⟨t0, ⟨b1, b2⟩, b3, b4⟩ := onS_iff.mp z
    have e1 := h a ha hax; have e2 := h b hb hbx
    have i1 : crs d (ls a x) * (ls b x).1 = crs d (ls b x) * (ls a x).1 := by
      have : crs d (ls a x) * (ls b x).1 - crs d (ls b x) * (ls a x).1 = -(tr a b x * d.1) := by unfold tr crs ls; dsimp only; grind
      rw [t0] at this; omega
    have i2 : crs d (ls a x) * (ls b x).2 = crs d (ls b x) * (ls a x).2 := by
      have : crs d (ls a x) * (ls b x).2 - crs d (ls b x) * (ls a x).2 = -(tr a b x * d.2) := by unfold tr crs ls; dsimp only; grind
      rw [t0] at this; omega
    have o1 := (opp i1 e1 e2 (by have := box_le b1 b2; unfold ls; dsimp only; omega)).1
    have o2 := (opp i2 e1 e2 (by have := box_le b3 b4; unfold ls; dsimp only; omega)).1
    refine hax (pt_ext ?_ ?_)
    · unfold ls at o1; dsimp only at o1; omega
    · unfold ls at o2; dsimp only at o2; omega
  · rintro a b c ha hax hb hbx hc hcx ⟨t1, t2, t3⟩
    have e1 := h a ha hax; have e2 := h b hb hbx; have e3 := h c hc hcx
    have i : tr a b x * crs d (ls c x) + tr b c x * crs d (ls a x) + tr c a x * crs d (ls b x) = 0 := by unfold tr crs ls; dsimp only; grind
    have := Int.mul_pos t1 e3; have := Int.mul_pos t2 e1; have := Int.mul_pos t3 e2
    omega
section
variable {D : Pt → Prop} {C : List Pt}
theorem cy_add (k : Nat) : cy C (k + C.length) = cy C k := by unfold cy; rw [Nat.add_mod_right]
theorem cy_at {i : Nat} (h : i < C.length) : cy C i = C[i] := by
  unfold cy; rw [Nat.mod_eq_of_lt h]; exact getD_of (List.getElem?_eq_getElem h)
theorem cy_mod (k : Nat) : cy C (k % C.length) = cy C k := by unfold cy; rw [Nat.mod_mod]
theorem cy_mem (h : 0 < C.length) (k : Nat) : cy C k ∈ C := by
  rw [← cy_mod, cy_at (Nat.mod_lt _ h)]; exact List.getElem_mem _
theorem Conv.n0 (h : Conv D C) : 0 < C.length := by have := h.n3; omega
theorem Conv.at_ (h : Conv D C) {c : Pt} (hc : c ∈ C) : ∃ k, k < C.length ∧ c = cy C (k + 1) := by
  obtain ⟨i, hi, e⟩ := List.getElem_of_mem hc
  have n0 := h.n0
  by_cases hz : i = 0
  · refine ⟨C.length - 1, by omega, ?_⟩
    rw [show C.length - 1 + 1 = 0 + C.length by omega, cy_add, ← hz, cy_at hi, e]
  · refine ⟨i - 1, by omega, ?_⟩
    rw [show i - 1 + 1 = i by omega, cy_at hi, e]
theorem Conv.D_ (h : Conv D C) (k : Nat) : D (cy C k) := h.mem _ (cy_mem h.n0 k)
theorem Conv.ext (h : Conv D C) (k : Nat) : Ext D (cy C (k + 1)) := by
  refine ⟨ls (cy C (k + 2)) (cy C k), fun q hq hne => ?_⟩
  have e1 := h.ed k q hq; have e2 := h.ed (k + 1) q hq; have s := h.st k
  rw [show k + 1 + 1 = k + 2 from rfl] at e2
  generalize cy C k = a at *
  generalize cy C (k + 1) = x at *
  generalize cy C (k + 2) = b at *
  have i0 : crs (ls b a) (ls q x) = tr a x q + tr x b q := by unfold tr crs ls; dsimp only; grind
  suffices h0 : ¬ (tr a x q = 0 ∧ tr x b q = 0) by omega
  rintro ⟨z1, z2⟩
  have j1 : tr a x b * (ls q x).1 = tr a x q * (ls b x).1 - tr x b q * (ls x a).1 := by unfold tr crs ls; dsimp only; grind
  have j2 : tr a x b * (ls q x).2 = tr a x q * (ls b x).2 - tr x b q * (ls x a).2 := by unfold tr crs ls; dsimp only; grind
  rw [z1, z2, Int.zero_mul, Int.zero_mul, Int.sub_zero] at j1 j2
  have k1 : (ls q x).1 = 0 := (Int.mul_eq_zero.mp j1).resolve_left (by omega)
  have k2 : (ls q x).2 = 0 := (Int.mul_eq_zero.mp j2).resolve_left (by omega)
  unfold ls at k1 k2; dsimp only at k1 k2
  exact hne (pt_ext (by omega) (by omega))
theorem Conv.extM (h : Conv D C) {c : Pt} (hc : c ∈ C) : Ext D c := by
  obtain ⟨k, _, e⟩ := h.at_ hc
  rw [e]; exact h.ext k
theorem between1 {e r P Q P' Q' : Int} (h1 : P * r = Q * e) (hP : 0 < P) (hQ : 0 ≤ Q) (h2 : P' * (e - r) = Q' * e) (hP' : 0 < P') (hQ' : 0 ≤ Q') : (0 ≤ r ∧ r ≤ e) ∨ (e ≤ r ∧ r ≤ 0) := by
  have sgn : ∀ {P Q r e : Int}, P * r = Q * e → 0 < P → 0 ≤ Q → (0 ≤ e → 0 ≤ r) ∧ (e ≤ 0 → r ≤ 0) := fun {P Q r e} h hP hQ => by
    constructor
    · intro he
      refine nn_of_mul hP ?_
      rw [Int.mul_comm, h]; exact Int.mul_nonneg hQ he
    · intro he
      have : 0 ≤ -r := by
        refine nn_of_mul hP ?_
        rw [Int.neg_mul, Int.mul_comm, h, ← Int.mul_neg]; exact Int.mul_nonneg hQ (by omega)
      omega
  have a1 := sgn h1 hP hQ; have a2 := sgn h2 hP' hQ'
  omega
theorem seg_of {a b x f g : Pt} (t0 : tr a b x = 0) (h1 : 0 < crs g (ls b a)) (h2 : 0 ≤ crs g (ls x a)) (h3 : 0 < crs (ls b a) f) (h4 : 0 ≤ crs f (ls x b)) : onS a b x = true := by
  have i1 : crs g (ls b a) * (x.1 - a.1) = crs g (ls x a) * (b.1 - a.1) := by
    have : crs g (ls b a) * (x.1 - a.1) - crs g (ls x a) * (b.1 - a.1) = -(tr a b x * g.1) := by unfold tr crs ls; dsimp only; grind
    rw [t0] at this; omega
  have i2 : crs g (ls b a) * (x.2 - a.2) = crs g (ls x a) * (b.2 - a.2) := by
    have : crs g (ls b a) * (x.2 - a.2) - crs g (ls x a) * (b.2 - a.2) = -(tr a b x * g.2) := by unfold tr crs ls; dsimp only; grind
    rw [t0] at this; omega
  have i3 : crs (ls b a) f * ((b.1 - a.1) - (x.1 - a.1)) = crs f (ls x b) * (b.1 - a.1) := by
    have : crs (ls b a) f * ((b.1 - a.1) - (x.1 - a.1)) - crs f (ls x b) * (b.1 - a.1) = -(tr a b x * f.1) := by unfold tr crs ls; dsimp only; grind
    rw [t0] at this; omega
  have i4 : crs (ls b a) f * ((b.2 - a.2) - (x.2 - a.2)) = crs f (ls x b) * (b.2 - a.2) := by
    have : crs (ls b a) f * ((b.2 - a.2) - (x.2 - a.2)) - crs f (ls x b) * (b.2 - a.2) = -(tr a b x * f.2) := by unfold tr crs ls; dsimp only; grind
    rw [t0] at this; omega
  have b1 := between1 i1 h1 h2 i3 h3 h4
  have b2 := between1 i2 h1 h2 i4 h3 h4
  exact onS_iff.mpr ⟨t0, box_of (by omega), box_of (by omega)⟩
theorem Conv.side_seg (h : Conv D C) {k : Nat} {x : Pt} (e0 : 0 ≤ tr (cy C k) (cy C (k + 1)) x) (t0 : tr (cy C (k + 1)) (cy C (k + 2)) x = 0) (e2 : 0 ≤ tr (cy C (k + 2)) (cy C (k + 3)) x) : onS (cy C (k + 1)) (cy C (k + 2)) x = true :=
  seg_of (g := ls (cy C (k + 1)) (cy C k)) (f := ls (cy C (k + 3)) (cy C (k + 2))) t0 (by rw [← tr_w2]; exact h.st k) (by rw [← tr_w2]; exact e0) (by rw [← tr_w2]; exact h.st (k + 1)) e2
theorem Conv.side_segD (h : Conv D C) {k : Nat} {x : Pt} (hx : ∀ j, 0 ≤ tr (cy C j) (cy C (j + 1)) x) (t0 : tr (cy C k) (cy C (k + 1)) x = 0) : onS (cy C k) (cy C (k + 1)) x = true := by
  have n0 := h.n0
  have e : ∀ j, cy C (k + C.length - 1 + 1 + j) = cy C (k + j) := fun j => by rw [show k + C.length - 1 + 1 + j = k + j + C.length by omega, cy_add]
  have := h.side_seg (k := k + C.length - 1) (x := x) (hx _) (by rw [e 0, e 1]; exact t0) (hx _)
  rwa [e 0, e 1] at this
theorem cy_inj (nd : C.Nodup) {i j : Nat} (h : 0 < C.length) (e : cy C i = cy C j) : i % C.length = j % C.length := by
  rw [← cy_mod i, ← cy_mod j, cy_at (Nat.mod_lt _ h), cy_at (Nat.mod_lt _ h)] at e
  have pw := List.pairwise_iff_getElem.mp (List.nodup_iff_pairwise_ne.mp nd)
  rcases Nat.lt_trichotomy (i % C.length) (j % C.length) with k | k | k
  · exact absurd e (pw _ _ _ _ k)
  · exact k
  · exact absurd e.symm (pw _ _ _ _ k)
theorem Conv.pos3 (h : Conv D C) {k : Nat} {c : Pt} (hc : c ∈ C) (h1 : c ≠ cy C k) (h2 : c ≠ cy C (k + 1)) : 0 < tr (cy C k) (cy C (k + 1)) c := by
  have e := h.ed k c (h.mem c hc)
  suffices tr (cy C k) (cy C (k + 1)) c ≠ 0 by omega
  intro z
  have := h.side_segD (x := c) (fun j => h.ed j c (h.mem c hc)) z
  rw [(h.extM hc).kept.1 _ _ (h.D_ k) (Ne.symm h1) (h.D_ (k + 1)) (Ne.symm h2)] at this
  cases this
theorem ivt {s : Nat → Int} (p : Int → Prop) [DecidablePred p] : ∀ (m : Nat), p (s 1) → ¬ p (s (m + 2)) → ∃ k, 1 ≤ k ∧ k ≤ m + 1 ∧ p (s k) ∧ ¬ p (s (k + 1))
  | 0, h1, h2 => ⟨1, by omega, by omega, h1, h2⟩
  | m + 1, h1, h2 => by
    by_cases h : p (s (m + 2))
    · exact ⟨m + 2, by omega, by omega, h, h2⟩
    · obtain ⟨k, a, b, c, d⟩ := ivt p m h1 h
      exact ⟨k, a, by omega, c, d⟩
theorem Conv.fan_pos (h : Conv D C) {k : Nat} (h1 : 1 ≤ k) (h2 : k + 1 < C.length) : 0 < tr (cy C 0) (cy C k) (cy C (k + 1)) := by
  have n0 := h.n0
  have := h.pos3 (k := k) (c := cy C 0) (cy_mem n0 0) (fun e => by
    have := cy_inj h.nd n0 e
    rw [Nat.zero_mod, Nat.mod_eq_of_lt (by omega)] at this; omega) (fun e => by
    have := cy_inj h.nd n0 e
    rw [Nat.zero_mod, Nat.mod_eq_of_lt (by omega)] at this; omega)
  have e : tr (cy C 0) (cy C k) (cy C (k + 1)) = tr (cy C k) (cy C (k + 1)) (cy C 0) := by unfold tr crs ls; dsimp only; grind
  omega
theorem Conv.last (h : Conv D C) {x : Pt} (m : Nat) (hm : C.length = m + 3) : tr (cy C 0) (cy C (m + 2)) x = -tr (cy C (m + 2)) (cy C (m + 3)) x := by
  have : cy C (m + 3) = cy C 0 := by have := cy_add (C := C) 0; rw [Nat.zero_add, hm] at this; exact this
  rw [this]; exact tr_turn _ _ _
theorem Conv.not_kept (h : Conv D C) {x : Pt} (dx : D x) (nx : x ∉ C) : ¬ Kept D x := by
  rintro ⟨k1, k2⟩
  have ne : ∀ k, cy C k ≠ x := fun k e => nx (e ▸ cy_mem h.n0 k)
  have hs : ∀ j, 0 < tr (cy C j) (cy C (j + 1)) x := fun j => by
    have e := h.ed j x dx
    suffices tr (cy C j) (cy C (j + 1)) x ≠ 0 by omega
    intro z
    have := h.side_segD (x := x) (fun j => h.ed j x dx) z
    rw [k1 _ _ (h.D_ _) (ne _) (h.D_ _) (ne _)] at this; cases this
  obtain ⟨m, hm⟩ : ∃ m, C.length = m + 3 := ⟨C.length - 3, by have := h.n3; omega⟩
  obtain ⟨k, a, b, c, d⟩ := ivt (s := fun k => tr (cy C 0) (cy C k) x) (fun i => 0 < i) m (hs 0) (by
    show ¬ 0 < tr (cy C 0) (cy C (m + 2)) x
    rw [h.last m hm]
    have := hs (m + 2)
    rw [show m + 2 + 1 = m + 3 from rfl] at this
    omega)
  have d : ¬ 0 < tr (cy C 0) (cy C (k + 1)) x := d
  have c : 0 < tr (cy C 0) (cy C k) x := c
  by_cases z : tr (cy C 0) (cy C (k + 1)) x = 0
  · have n0 := h.n0
    have hk : k + 2 < C.length := by
      refine Nat.not_le.mp fun w => ?_
      obtain rfl : k = m + 1 := by omega
      rw [h.last m hm] at z
      have := hs (m + 2)
      rw [show m + 2 + 1 = m + 3 from rfl] at this
      omega
    have := seg_of (a := cy C 0) (b := cy C (k + 1)) (x := x) (g := ls (cy C 1) (cy C 0)) (f := ls (cy C (k + 2)) (cy C (k + 1))) z (by
      rw [← tr_w1]
      refine h.pos3 (k := 0) (cy_mem n0 _) (fun e => ?_) (fun e => ?_)
      · have := cy_inj h.nd n0 e
        rw [Nat.zero_mod, Nat.mod_eq_of_lt (by omega)] at this; omega
      · have := cy_inj h.nd n0 e
        rw [Nat.mod_eq_of_lt (by omega), Nat.mod_eq_of_lt (by omega)] at this; omega) (by rw [← tr_w1]; exact Int.le_of_lt (hs 0)) (by rw [← tr_w2]; exact h.fan_pos (by omega) (by omega)) (by rw [← tr_w1]; exact Int.le_of_lt (hs (k + 1)))
    rw [k1 _ _ (h.D_ _) (ne _) (h.D_ _) (ne _)] at this; cases this
  · exact k2 _ _ _ (h.D_ 0) (ne _) (h.D_ k) (ne _) (h.D_ (k + 1)) (ne _) ⟨c, hs k, by rw [tr_turn]; omega⟩
end
theorem dt_pos {u v : Pt} (hu : up u) (hv : up v) (h : crs u v = 0) : 0 < dt u v := by
  unfold crs at h; unfold dt
  have e : u.1 * v.2 = u.2 * v.1 := by omega
  rcases hu with hu | ⟨hu, hu2⟩
  · have hv1 : 0 < v.1 := by
      rcases hv with k | ⟨k, k2⟩
      · exact k
      · rw [k, Int.mul_zero] at e
        have := Int.mul_pos hu k2; omega
    have a := Int.mul_pos hu hv1
    have b : 0 ≤ u.2 * v.2 := by
      rcases Int.lt_trichotomy u.2 0 with k | k | k
      · have : v.2 < 0 := by
          refine Int.not_le.mp fun z => ?_
          have := Int.mul_nonneg (Int.le_of_lt hu) z
          have := Int.mul_pos (show 0 < -u.2 by omega) hv1
          rw [Int.neg_mul] at this; omega
        have := Int.mul_pos (show 0 < -u.2 by omega) (show 0 < -v.2 by omega)
        rw [Int.neg_mul_neg] at this; omega
      · rw [k, Int.zero_mul]; omega
      · have : 0 < v.2 := by
          refine Int.not_le.mp fun z => ?_
          have := Int.mul_pos k hv1
          have := Int.mul_nonneg (Int.le_of_lt hu) (show 0 ≤ -v.2 by omega)
          rw [Int.mul_neg] at this; omega
        exact Int.le_of_lt (Int.mul_pos k this)
    omega
  · rw [hu, Int.zero_mul] at e
    have hv1 : v.1 = 0 := by
      rcases Int.mul_eq_zero.mp e.symm with k | k
      · omega
      · exact k
    have hv2 : 0 < v.2 := by unfold up at hv; omega
    have := Int.mul_pos hu2 hv2
    rw [hu, Int.zero_mul]; omega
theorem HullOf.mem {D : Pt → Prop} {C : List Pt} (h : HullOf D C) : ∀ c ∈ C, D c := by
  cases h with
  | none h => intro c hc; cases hc
  | one p hp h => intro c hc; rw [List.mem_singleton.mp hc]; exact hp
  | two p r l hp hr h =>
    intro c hc
    rcases List.mem_cons.mp hc with e | hc
    · rw [e]; exact hp
    · rw [List.mem_singleton.mp hc]; exact hr
  | poly _ h => exact h.mem
theorem HullOf.nd {D : Pt → Prop} {C : List Pt} (h : HullOf D C) : C.Nodup := by
  cases h with
  | none h => exact List.nodup_nil
  | one p hp h => simp
  | two p r l hp hr h => simp; exact fun e => lt_irr (e ▸ l)
  | poly _ h => exact h.nd
theorem HullOf.ext {D : Pt → Prop} {C : List Pt} (h : HullOf D C) {c : Pt} (hc : c ∈ C) : Ext D c := by
  cases h with
  | none h => cases hc
  | one p hp h => rw [List.mem_singleton.mp hc]; exact ⟨(0, 0), fun q hq hne => absurd (h q hq) hne⟩
  | two p r l hp hr h =>
    rcases List.mem_cons.mp hc with e | hc
    · rw [e]
      refine ⟨((ls r p).2, -(ls r p).1), fun q hq hne => ?_⟩
      obtain ⟨a, b, _⟩ := h q hq
      have := dt_pos (up_ls.mpr l) (up_ls.mpr ((pl_lt.mp b).resolve_left (Ne.symm hne))) (by rw [← tr_w1]; exact a)
      have e2 : crs ((ls r p).2, -(ls r p).1) (ls q p) = dt (ls r p) (ls q p) := by unfold crs dt; dsimp only; grind
      rw [e2]; exact this
    · rw [List.mem_singleton.mp hc]
      refine ⟨(-(ls r p).2, (ls r p).1), fun q hq hne => ?_⟩
      obtain ⟨a, _, b⟩ := h q hq
      have := dt_pos (up_ls.mpr l) (up_ls.mpr ((pl_lt.mp b).resolve_left hne)) (by
        have : tr p r q = -crs (ls r p) (ls r q) := by unfold tr crs ls; dsimp only; grind
        omega)
      have e2 : crs (-(ls r p).2, (ls r p).1) (ls q r) = dt (ls r p) (ls r q) := by unfold crs dt ls; dsimp only; grind
      rw [e2]; exact this
  | poly _ h => exact h.extM hc
theorem HullOf.not_kept {D : Pt → Prop} {C : List Pt} (h : HullOf D C) {x : Pt} (dx : D x) (nx : x ∉ C) : ¬ Kept D x := by
  cases h with
  | none h => exact absurd dx (h x)
  | one p hp h => exact absurd (by rw [h x dx]; simp) nx
  | two p r l hp hr h =>
    intro k
    have a1 : p ≠ x := fun e => nx (by simp [e])
    have a2 : r ≠ x := fun e => nx (by simp [e])
    obtain ⟨t, b1, b2⟩ := h x dx
    have := (col_lt (pl_lt.mpr (.inr l)) (fun e => lt_irr (e ▸ l)) t).mpr ⟨b1, b2⟩
    have := onS_iff.mpr ⟨t, this⟩
    rw [k.1 p r hp a1 hr a2] at this; cases this
  | poly _ h => exact h.not_kept dx nx
theorem HullOf.corner {D : Pt → Prop} {C : List Pt} (h : HullOf D C) {x : Pt} (dx : D x) : x ∈ C ↔ Kept D x :=
  ⟨fun hc => (h.ext hc).kept, fun hk => Classical.byContradiction fun n => h.not_kept dx n hk⟩
end Ge
end
section
set_option maxRecDepth 100000
set_option maxHeartbeats 1000000
namespace Mp
open PySem L2
def Ga (k : Nat) (st : Sto) : Prop := st.length = k ∧ Gs k st
theorem rounds_ga (ns : List Int) (m : Nat) (hl : ns.length ≤ 1000) : ∃ (k : Nat) (st : Sto), fnM 4 roundsB [pInts ns, .int (m : Int)] [] = .ok (.lst ((List.range k).map PV.ref)) st ∧ Ga k st ∧ k ≤ ns.length + 1 := by
  have cut : cutL (ns.map PV.int) none (some (m : Int)) = (ns.take m).map PV.int := by
    unfold cutL
    simp [HT.sIx_none, HT.sIx_nat, List.map_take]
  have key : ∀ (cs : List Int), ∃ (st : Sto), compL (gNm 3) tYesM (mCall 1 (fnM 1 diceB) (aCons (mVar 3) aNil)) (cs.map PV.int) (killE [3] [.pv (pInts ns), .pv (.int (m : Int)), .pv (.lst (cs.map PV.int)), .un]) [] = .ok ((List.range cs.length).map PV.ref) st ∧ Ga cs.length st := fun cs => by
    refine ⟨[] ++ cs.map diceO, ?_, by simp, fun i hi => ?_⟩
    · rw [comp_dice cs _ [] (by simp [killE])]
      simp
    · obtain ⟨x, y, z, e⟩ := diceO_gd cs[i]
      exact ⟨x, y, z, by simp [hi, e]⟩
  by_cases he : ns.take m = []
  · obtain ⟨st, h1, h2⟩ := key [0]
    refine ⟨1, st, ?_, h2, by omega⟩
    have h1 : compL (gNm 3) tYesM (mCall 1 (fnM 1 diceB) (aCons (mVar 3) aNil)) [.int 0] (killE [3] [.pv (pInts ns), .pv (.int (m : Int)), .pv (.lst [.int 0]), .un]) [] = .ok ((List.range 1).map PV.ref) st := h1
    have z1 : cEq (.lst []) (.lst []) = some (.bl true) := by rfl
    simp [fnM, roundsB, env0, sSeq, sSet, sIf, sRet, mSlice, pN, pS, mVar, mC, mLst, aCons, aNil, tBin, bindR, bindF, pInts, cut, he, z1, mComp, iSeq, noOwn]
    rw [← pInts, h1]
    simp [bindX]
  · obtain ⟨st, h1, h2⟩ := key (ns.take m)
    refine ⟨(ns.take m).length, st, ?_, h2, by rw [List.length_take]; omega⟩
    have z1 : cEq (.lst ((ns.take m).map PV.int)) (.lst []) = some (.bl false) := by
      unfold cEq
      rw [isD_ints, show isD (.lst []) = true from by decide]
      cases q : ns.take m with
      | nil => exact absurd q he
      | cons c cs => rfl
    have hl2 : (ns.take m).length ≤ 1000000 := by rw [List.length_take]; omega
    generalize hcs : ns.take m = cs at *
    have h1 : compL (gNm 3) tYesM (mCall 1 (fnM 1 diceB) (aCons (mVar 3) aNil)) (cs.map PV.int) (killE [3] [.pv (.lst (ns.map PV.int)), .pv (.int (m : Int)), .pv (.lst (cs.map PV.int)), .un]) [] = .ok ((List.range cs.length).map PV.ref) st := h1
    simp only [fnM, roundsB, env0, sSeq, sSet, sIf, sRet, sNil, mSlice, pN, pS, mVar, mC, mLst, aCons, aNil, tBin, bindR, bindF, pInts, List.map_cons, List.map_nil, List.length_cons, List.length_nil, List.cons_append, List.nil_append, List.getElem?_cons_zero, List.getElem?_cons_succ, cut, List.set_cons_succ, List.set_cons_zero, List.replicate, z1, mComp, iSeq, noOwn, Nat.reduceAdd, Nat.reduceSub]
    simp [h1, bindX, hl2, z1]
theorem Ga.ok {k : Nat} {st : Sto} (g : Ga k st) : st.all okO = true := by
  rw [List.all_eq_true]
  intro o ho
  obtain ⟨i, hi, e⟩ := List.getElem_of_mem ho
  obtain ⟨a, b, c, h⟩ := g.2 i (by rw [← g.1]; exact hi)
  rw [List.getElem?_eq_getElem hi, e] at h
  cases h
  simp [okO, noLs, noL]
end Mp
end
section
set_option maxRecDepth 100000
set_option maxHeartbeats 1000000
namespace Mp
open PySem L2
theorem forL_flat {α β : Type} {gt : PV → MEnv → Option MEnv} {body : SM} {ks : List Nat} {st : Sto} (f : α → PV) (E : List β → MEnv) (G : α → List β) (M N : Nat) : ∀ (xs : List α) (b : List β), b.length + xs.length * M ≤ N →
    (∀ b a, a ∈ xs → b.length + M ≤ N → (G a).length ≤ M ∧ ∃ e1 e, gt (f a) (E b) = some e1 ∧ body e1 st = .nx e st ∧ killE ks e = E (b ++ G a)) → forL gt body ks (xs.map f) (E b) st = .nx (E (b ++ xs.flatMap G)) st
  | [], b, _, _ => by simp [forL]
  | x :: xs, b, hl, h => by
    rw [List.length_cons, Nat.add_mul, Nat.one_mul] at hl
    obtain ⟨hg, e1, e, h1, h2, h3⟩ := h b x List.mem_cons_self (by omega)
    have ih := forL_flat f E G M N xs (b ++ G x) (by rw [List.length_append]; omega) fun b a ha => h b a (List.mem_cons_of_mem _ ha)
    simp only [List.map_cons, forL, h1, h2, h3]
    rw [ih, List.flatMap_cons, List.append_assoc]
end Mp
end
section
set_option maxRecDepth 100000
set_option maxHeartbeats 1000000
namespace Ge
open PySem L2 Mp
def dd (xs : List Pt) : List Pt := xs.foldl (fun l p => if p ∈ l then l else l ++ [p]) []
theorem HullOf.congr {D D' : Pt → Prop} (e : ∀ q, D q ↔ D' q) {C : List Pt} (h : HullOf D C) : HullOf D' C := by
  have : D = D' := funext fun q => propext (e q)
  exact this ▸ h
def kl (p : Pt) : List Int := [p.1, p.2]
end Ge
end
section
set_option maxRecDepth 100000
set_option maxHeartbeats 1000000
namespace Ge
open PySem L2 Mp
structure Wk {α : Type} (lt : α → α → Bool) : Prop where
  irr : ∀ a, lt a a = false
  tr : ∀ a b c, lt a b = false → lt b c = false → lt a c = false
  asy : ∀ a b, lt a b = true → lt b a = false
theorem mmOk_ints (l : List Int) : mmOk (l.map .int) = true := by
  unfold mmOk
  simp only [List.all_eq_true, List.mem_map]
  rintro _ ⟨a, _, rfl⟩ _ ⟨b, _, rfl⟩
  exact ordd_int
theorem foldmn : ∀ (l : List Int) (x : Int), (l.map PV.int).foldl mnF (.int x) = .int (l.foldl mn x)
  | [], x => rfl
  | y :: l, x => by
    rw [List.map_cons, List.foldl_cons, List.foldl_cons, ← foldmn l]
    congr 1
    unfold mnF mn
    simp only [pvLt]
    by_cases h : y < x <;> simp [h]
def mnL : List Int → Int
  | [] => 0
  | x :: l => l.foldl mn x
theorem mnL_go : ∀ (l : List Int) (x : Int), (l.foldl mn x = x ∨ l.foldl mn x ∈ l) ∧ l.foldl mn x ≤ x ∧ ∀ y ∈ l, l.foldl mn x ≤ y
  | [], x => ⟨.inl rfl, Int.le_refl _, fun y hy => nomatch hy⟩
  | z :: l, x => by
    rw [List.foldl_cons]
    obtain ⟨h1, h2, h3⟩ := mnL_go l (mn x z)
    have e : (mn x z = x ∨ mn x z = z) ∧ mn x z ≤ x ∧ mn x z ≤ z := by unfold mn; split <;> omega
    refine ⟨?_, by omega, fun y hy => ?_⟩
    · rcases h1 with h1 | h1
      · rcases e.1 with e1 | e1
        · exact .inl (h1.trans e1)
        · exact .inr (by rw [h1, e1]; simp)
      · exact .inr (List.mem_cons_of_mem _ h1)
    · rcases List.mem_cons.mp hy with rfl | hy
      · omega
      · exact h3 y hy
theorem mnL_ok {l : List Int} (h : l ≠ []) : mnL l ∈ l ∧ ∀ y ∈ l, mnL l ≤ y := by
  cases l with
  | nil => exact absurd rfl h
  | cons x l =>
    obtain ⟨h1, h2, h3⟩ := mnL_go l x
    refine ⟨?_, fun y hy => ?_⟩
    · rcases h1 with e | e
      · show l.foldl mn x ∈ _; rw [e]; simp
      · exact List.mem_cons_of_mem _ e
    · rcases List.mem_cons.mp hy with rfl | hy
      · exact h2
      · exact h3 y hy
theorem minD_ints (s : Sto) {l : List Int} (h : l ≠ []) : bMinD s [.lst (l.map .int)] = some (.int (mnL l)) := by
  cases l with
  | nil => exact absurd rfl h
  | cons x l =>
    show (if mmOk (.int x :: l.map .int) = true then some ((l.map PV.int).foldl mnF (.int x)) else none) = _
    rw [if_pos (by have := mmOk_ints (x :: l); rwa [List.map_cons] at this), foldmn]; rfl
abbrev T3 := Int × Pt × Pt
def t3 (t : T3) : PV := .tup [.int t.1, tp t.2.1, tp t.2.2]
end Ge
end
section
set_option maxRecDepth 100000
set_option maxHeartbeats 1000000
namespace Mp
open PySem PySem.Spec PyProof.Rows L2
end Mp
end
section
set_option maxRecDepth 100000
set_option maxHeartbeats 1000000
namespace Mp
open PySem PySem.Spec PyProof.Rows L2 GxR
section
variable {X : Cx} {tb : Tbs} {Wx : WX} {e : Expr} {es : List Expr} {ms : AM} {pos p : Pos} {k j n i : Nat} {x t : Str} {m : FM}
end
end Mp
end
section
set_option maxRecDepth 100000
set_option maxHeartbeats 1000000
namespace Mp
open PySem PySem.Spec PyProof.Rows L2
section
variable {X : Cx} {tb : Tbs} {Wx : WX} {md mk mv mo m : EM} {e1 : Expr} {i : Nat}
end
end Mp
end
section
set_option maxRecDepth 100000
set_option maxHeartbeats 1000000
namespace Mp
open PySem PySem.Spec PyProof.Rows L2
section
variable {X : Cx} {tb : Tbs} {Wx : WX} {md mk mv mo m : EM} {e e1 : Expr}
end
end Mp
end
section
set_option maxRecDepth 100000
set_option maxHeartbeats 1000000
namespace Mp
open PySem PySem.Spec PyProof.Rows L2
section
variable {P : Program} {w : World} {K : PySem.W.Frag} {tg : Expr} {d : Addr} {o : Obj} {es : Array DictEntry} {ep : Nat} {ks : List (List Int)} {as : List Addr} {ws : List V}
end
end Mp
end
section
set_option maxRecDepth 100000
set_option maxHeartbeats 1000000
namespace Mp
open PySem PySem.Spec PyProof.Rows L2
section
variable {K : PySem.W.Frag} {tb : Tbs} {Mx Mx2 : Addr → Prop} {W : List Addr} {σ : L2.St} {H H' : Hp} {env : MEnv} {st : Sto} {i : Nat} {ks : List (List Int)} {vs : List PV}
theorem FzT.lk {M M2 : Addr → Prop} {q : Addr} {ws : List V} (hM : ∀ b, M2 b → M b) (hH : ∀ b xs, Rd H b (.tup xs) → Rd H' b (.tup xs)) (h : FzT K M H q ws) : FzT K M2 H' q ws :=
  h.imp (fun h => ⟨hH _ _ h.1, fun z => h.2 (hM _ z)⟩) id
theorem FzL.lk {M M2 : Addr → Prop} {q : Addr} {ws : List V} (hM : ∀ b, M2 b → M b) (hH : ∀ b xs, Rd H b (.lst xs) → Rd H' b (.lst xs)) (h : FzL K M H q ws) : FzL K M2 H' q ws :=
  h.imp (fun h => ⟨hH _ _ h.1, fun z => h.2 (hM _ z)⟩) id
theorem KsOk.lk {M M2 : Addr → Prop} (hM : ∀ b, M2 b → M b) (hH : ∀ b xs, Rd H b (.tup xs) → Rd H' b (.tup xs)) : ∀ {ks : List (List Int)} {as : List Addr}, KsOk K M H ks as → KsOk K M2 H' ks as
  | [], _, h => h
  | _ :: _, _, ⟨a, r, e, h1, h2⟩ => ⟨a, r, e, h1.lk hM hH, h2.lk hM hH⟩
mutual
theorem RF.lk {M M2 : Addr → Prop} {W2 : List Addr} (hM : ∀ b, M2 b → M b) (hT : ∀ b xs, Rd H b (.tup xs) → Rd H' b (.tup xs)) (hL : ∀ b xs, Rd H b (.lst xs) → Rd H' b (.lst xs)) : ∀ (v : PV) {w : V}, noR v = true → RF K M W H v w → RF K M2 W2 H' v w
  | .non, _, _, h => by unfold RF at h ⊢; exact h
  | .bl b, _, _, h => by unfold RF at h ⊢; exact h
  | .int i, _, _, h => by unfold RF at h ⊢; exact h
  | .str s, _, _, h => by unfold RF at h ⊢; exact h
  | .tup xs, _, n, h => by
    unfold RF at h ⊢
    unfold noR at n
    obtain ⟨q, ws, e, h1, h2⟩ := h
    exact ⟨q, ws, e, h1.lk hM hT, RFs.lk hM hT hL xs n h2⟩
  | .lst xs, _, n, h => by
    unfold RF at h ⊢
    unfold noR at n
    obtain ⟨q, ws, e, h1, h2⟩ := h
    exact ⟨q, ws, e, h1.lk hM hL, RFs.lk hM hT hL xs n h2⟩
  | .ref n, _, z, h => by unfold noR at z; cases z
  | .fn x, _, _, h => by unfold RF at h ⊢; exact h
  | .dct ks vs, _, n, h => by unfold noR at n; cases n
theorem RFs.lk {M M2 : Addr → Prop} {W2 : List Addr} (hM : ∀ b, M2 b → M b) (hT : ∀ b xs, Rd H b (.tup xs) → Rd H' b (.tup xs)) (hL : ∀ b xs, Rd H b (.lst xs) → Rd H' b (.lst xs)) : ∀ (xs : List PV) {ws : List V}, noRs xs = true → RFs K M W H xs ws → RFs K M2 W2 H' xs ws
  | [], _, _, h => by unfold RFs at h ⊢; exact h
  | x :: xs, _, n, h => by
    unfold noRs at n
    rw [Bool.and_eq_true] at n
    unfold RFs at h ⊢
    obtain ⟨w, r, e, h1, h2⟩ := h
    exact ⟨w, r, e, RF.lk hM hT hL x n.1 h1, RFs.lk hM hT hL xs n.2 h2⟩
end
theorem FzT.out {M M2 : Addr → Prop} {q : Addr} {ws : List V} (hT : ∀ b xs, Rd H b (.tup xs) → ¬ M b → Rd H' b (.tup xs) ∧ ¬ M2 b) (h : FzT K M H q ws) : FzT K M2 H' q ws := h.imp (fun h => hT _ _ h.1 h.2) id
theorem KsOk.out {M M2 : Addr → Prop} (hT : ∀ b xs, Rd H b (.tup xs) → ¬ M b → Rd H' b (.tup xs) ∧ ¬ M2 b) : ∀ {ks : List (List Int)} {as : List Addr}, KsOk K M H ks as → KsOk K M2 H' ks as
  | [], _, h => h
  | _ :: _, _, ⟨a, r, e, h1, h2⟩ => ⟨a, r, e, h1.out hT, h2.out hT⟩
mutual
theorem RF.out {M M2 : Addr → Prop} {W2 : List Addr} (hT : ∀ b xs, Rd H b (.tup xs) → ¬ M b → Rd H' b (.tup xs) ∧ ¬ M2 b) : ∀ (v : PV) {w : V}, noR v = true → noL v = true → RF K M W H v w → RF K M2 W2 H' v w
  | .non, _, _, _, h => by unfold RF at h ⊢; exact h
  | .bl b, _, _, _, h => by unfold RF at h ⊢; exact h
  | .int i, _, _, _, h => by unfold RF at h ⊢; exact h
  | .str s, _, _, _, h => by unfold RF at h ⊢; exact h
  | .tup xs, _, n, l, h => by
    unfold RF at h ⊢
    unfold noR at n
    unfold noL at l
    obtain ⟨q, ws, e, h1, h2⟩ := h
    exact ⟨q, ws, e, h1.out hT, RFs.out hT xs n l h2⟩
  | .lst xs, _, _, n, h => by unfold noL at n; cases n
  | .ref n, _, z, _, h => by unfold noR at z; cases z
  | .fn x, _, _, _, h => by unfold RF at h ⊢; exact h
  | .dct ks vs, _, n, _, h => by unfold noR at n; cases n
theorem RFs.out {M M2 : Addr → Prop} {W2 : List Addr} (hT : ∀ b xs, Rd H b (.tup xs) → ¬ M b → Rd H' b (.tup xs) ∧ ¬ M2 b) : ∀ (xs : List PV) {ws : List V}, noRs xs = true → noLs xs = true → RFs K M W H xs ws → RFs K M2 W2 H' xs ws
  | [], _, _, _, h => by unfold RFs at h ⊢; exact h
  | x :: xs, _, n, l, h => by
    unfold noRs at n
    unfold noLs at l
    rw [Bool.and_eq_true] at n l
    unfold RFs at h ⊢
    obtain ⟨w, r, e, h1, h2⟩ := h
    exact ⟨w, r, e, RF.out hT x n.1 l.1 h1, RFs.out hT xs n.2 l.2 h2⟩
end
theorem RO.noTup {M : Addr → Prop} {o : PO} {p : Addr} (h : RO K M W H o p) {xs : List V} : ¬ Rd H p (.tup xs) := fun z => by
  cases o with
  | lst ys => obtain ⟨ws, e, _⟩ := h; rcases z with z | ⟨_, z⟩ <;> (rw [e] at z; cases z)
  | dct ks vs => obtain ⟨as, ws, e, _⟩ := h; rcases z with z | ⟨_, z⟩ <;> (rw [e] at z; cases z)
  | dci ks vs => obtain ⟨ws, e, _⟩ := h; rcases z with z | ⟨_, z⟩ <;> (rw [e] at z; cases z)
theorem Rel.wT (r : Rel K tb Mx W σ H env st) {p : Addr} (h : p ∈ W ∨ Om env σ p) {xs : List V} : ¬ Rd H p (.tup xs) := by
  rcases h with h | ⟨i, o, e1, e2⟩
  · obtain ⟨i, hi, e⟩ := List.getElem_of_mem h
    have hs : i < st.length := by rw [← r.len]; exact hi
    exact (r.sto i p st[i] (by rw [List.getElem?_eq_getElem hi, e]) (List.getElem?_eq_getElem hs)).noTup
  · obtain ⟨q, e3, ro⟩ := r.own i o e1
    rw [e2] at e3; cases e3
    exact ro.noTup
end
end Mp
end
section
set_option maxRecDepth 100000
set_option maxHeartbeats 1000000
namespace Mp
open PySem PySem.Spec PyProof.Rows L2
section
variable {X : Cx} {tb : Tbs} {Wx : WX} {o i : Expr} {mk md : EM} {pos : Pos}
end
end Mp
end
section
set_option maxRecDepth 100000
set_option maxHeartbeats 1000000
namespace Mp
open PySem PySem.Spec PyProof.Rows L2
section
variable {K : PySem.W.Frag} {mg : Str → Option Value} {tb : Tbs} {Wx : WX} {mi : AM} {g : PV → MEnv → Option MEnv} {tc : TM} {me : EM} {is vs : List Nat}
end
section
variable {X : Cx} {tb : Tbs} {Wx : WX} {elt tg iter : Expr} {ifs : List Expr} {scope : Scope} {own : List (Str × Nat)} {pos : Pos} {mi : AM} {g : PV → MEnv → Option MEnv} {tc : TM} {me : EM} {is : List Nat}
end
end Mp
end
section
set_option maxRecDepth 100000
set_option maxHeartbeats 1000000
namespace Mp
open PySem PySem.Spec PyProof.Rows L2
section
variable {X : Cx} {tb : Tbs} {Wx : WX} {a b : Expr} {ma mb m : EM} {pos : Pos} {i : Nat}
end
section
variable {K : PySem.W.Frag} {tb : Tbs} {Mx Mx2 : Addr → Prop} {W : List Addr} {σ : L2.St} {H H' : Hp} {env : MEnv} {st : Sto} {i : Nat}
end
end Mp
end
section
set_option maxRecDepth 100000
set_option maxHeartbeats 1000000
namespace Mp
open PySem PySem.Spec PyProof.Rows L2
section
variable {X : Cx} {tb : Tbs} {Wx : WX} {kx vx tg iter : Expr} {ifs : List Expr} {sc : Scope} {own : List (Str × Nat)} {pos : Pos} {mi : AM} {g : PV → MEnv → Option MEnv} {tc : TM} {mk mv : EM} {is vs : List Nat}
end
end Mp
end
section
set_option maxRecDepth 100000
set_option maxHeartbeats 1000000
namespace Mp
open PySem PySem.Spec PyProof.Rows L2
section
variable {prog : Program} {w : World} {A : Around} {R : Result → Shared → Prop} {s : Shared} {elt vx t0 i0 t1 i1 : Expr} {ifs0 ifs1 : List Expr} {scope : Scope} {pos : Pos} {it : Value} {D : Addr} {env : Env}
end
section
variable {X : Cx}
end
end Mp
end
section
set_option maxRecDepth 100000
set_option maxHeartbeats 1000000
namespace Mp
open PySem PySem.Spec PyProof.Rows L2
def isSc : PV → Bool
  | .non => true
  | .bl _ => true
  | .int _ => true
  | .str _ => true
  | _ => false
theorem RF.sc {K : PySem.W.Frag} {M M2 : Addr → Prop} {W W2 : List Addr} {H H2 : Hp} {v : PV} {w : V} (h : isSc v = true) (r : RF K M W H v w) : RF K M2 W2 H2 v w := by
  cases v <;> first | (unfold RF at r ⊢; exact r) | (unfold isSc at h; cases h)
theorem RFs.sc {K : PySem.W.Frag} {M M2 : Addr → Prop} {W W2 : List Addr} {H H2 : Hp} : ∀ {vs : List PV} {ws : List V}, (∀ v ∈ vs, isSc v = true) → RFs K M W H vs ws → RFs K M2 W2 H2 vs ws
  | [], _, _, h => by unfold RFs at h ⊢; exact h
  | v :: vs, _, q, h => by
    obtain ⟨w, r, rfl, h1, h2⟩ := h.inv
    exact RFs.cons (h1.sc (q v List.mem_cons_self)) (RFs.sc (fun x hx => q x (List.mem_cons_of_mem _ hx)) h2)
def putP (x : PV) (d : List (List Int) × List PV) : Option (List (List Int) × List PV) := match x with
  | .tup [kv, v] => match keyI kv with
    | some k => if isSc v then some (if k ∈ d.1 then (d.1, updW k v d.1 d.2) else (d.1 ++ [k], d.2 ++ [v])) else none
    | none => none
  | _ => none
def putAll : List PV → List (List Int) × List PV → Option (List (List Int) × List PV)
  | [], d => some d
  | x :: r, d => (putP x d).bind (putAll r)
theorem putAll_app : ∀ (a b : List PV) (d : List (List Int) × List PV), putAll (a ++ b) d = (putAll a d).bind (putAll b)
  | [], b, d => rfl
  | x :: a, b, d => by
    show (putP x d).bind (putAll (a ++ b)) = ((putP x d).bind (putAll a)).bind (putAll b)
    cases putP x d with
    | none => rfl
    | some e => exact putAll_app a b e
theorem updW_sc {k : List Int} {v : PV} (hv : isSc v = true) : ∀ {ks : List (List Int)} {vs : List PV}, (∀ x ∈ vs, isSc x = true) → ∀ x ∈ updW k v ks vs, isSc x = true
  | [], vs, h => by unfold updW; exact h
  | _ :: _, [], h => by unfold updW; exact h
  | q :: ks, u :: vs, h => by
    intro x hx
    unfold updW at hx
    rcases List.mem_cons.mp hx with e | hx
    · rw [e]; split
      · exact hv
      · exact h u List.mem_cons_self
    · exact updW_sc hv (fun y hy => h y (List.mem_cons_of_mem _ hy)) x hx
section
variable {K : PySem.W.Frag} {mg : Str → Option Value} {tb : Tbs} {Mx : Addr → Prop} {W W' W1 : List Addr} {σ : L2.St} {H H' H1 : Hp} {env : MEnv} {st st' : Sto} {D : Addr}
structure SdI (K : PySem.W.Frag) (tb : Tbs) (Mx : Addr → Prop) (D : Addr) (W1 : List Addr) (H1 : Hp) (σ : L2.St) (env : MEnv) (W' : List Addr) (H' : Hp) (st' : Sto) (acc : List PV) : Prop where
  rel : Rel K tb (fun b => Mx b ∨ b = D) W' σ H' env st'
  kb : KB W1 H1 No W' H' No
  acc : ∃ ks vals as ws, putAll acc ([], []) = some (ks, vals) ∧ H' D = some (dctO D ks as ws) ∧ KsOk K (fun b => Mx b ∨ b = D) H' ks as ∧ RFs K No [] (fun _ => none) vals ws ∧ (∀ v ∈ vals, isSc v = true) ∧ ks.length ≤ acc.length
theorem rd_kp {b : Addr} {xs : List V} (kp : ∀ u, H b = some u → NoTbl u → H' b = some u) (h : Rd H b (.tup xs)) : Rd H' b (.tup xs) := by
  rcases h with h | ⟨o, h⟩
  · exact .inl (kp _ h fun ps z => nomatch z)
  · exact .inr ⟨o, kp _ h fun ps z => nomatch z⟩
theorem SdI.stp {W2 : List Addr} {H2 : Hp} {s2 : Sto} {acc : List PV} (l : SdI K tb Mx D W1 H1 σ env W' H' st' acc) (a : Stp K tb (fun b => Mx b ∨ b = D) env σ W' H' W2 H2 s2) : SdI K tb Mx D W1 H1 σ env W2 H2 s2 acc := by
  have nD : D ∉ W' := fun z => (l.rel.wo D z).1 (.inr rfl)
  obtain ⟨ks, vals, as, ws, h1, h2, h3, h4⟩ := l.acc
  exact ⟨a.rel, l.kb.trans a.kb, ks, vals, as, ws, h1, a.kp D _ h2 nD noTbl_dct, h3.out fun b xs z n => ⟨rd_kp (fun u hu t => a.kp b u hu (fun y => l.rel.wT (.inl y) z) t) z, n⟩, h4⟩
theorem SdI.turn {env1 : MEnv} {σ1 : L2.St} {acc : List PV} (l : SdI K tb Mx D W1 H1 σ env W' H' st' acc) (r : Rel K tb (fun b => Mx b ∨ b = D) W' σ1 H' env1 st') : SdI K tb Mx D W1 H1 σ1 env1 W' H' st' acc :=
  ⟨r, l.kb, l.acc⟩
theorem dctO_noTab {p : Addr} {ks : List (List Int)} {as : List Addr} {ws : List V} : ¬ TabLike (dctO p ks as ws) := by
  rintro (⟨_, t⟩ | ⟨_, _, t⟩)
  · unfold dctO at t; cases t
  · exact dctO_code t
theorem SdI.push {acc : List PV} {ks as ws vals} {kv v : PV} {k : List Int} {b : Addr} {w : V} (hD : H1 D = none) (l : SdI K tb Mx D W1 H1 σ env W' H' st' acc) (h1 : putAll acc ([], []) = some (ks, vals)) (h2 : H' D = some (dctO D ks as ws)) (h3 : KsOk K (fun b => Mx b ∨ b = D) H' ks as) (h4 : RFs K No [] (fun _ => none) vals ws) (h5 : ∀ v ∈ vals, isSc v = true) (h6 : ks.length ≤ acc.length)
    (hk : keyI kv = some k) (hv : isSc v = true) (fz : FzT K (fun b => Mx b ∨ b = D) H' b (k.map V.int)) (rw' : RF K No [] (fun _ => none) v w) :
    SdI K tb Mx D W1 H1 σ env W' (if k ∈ ks then upd H' D (dctO D ks as (updW k w ks ws)) else upd H' D (dctO D (ks ++ [k]) (as ++ [b]) (ws ++ [w]))) st' (acc ++ [.tup [kv, v]]) := by
  have kbD : ∀ o, KB W1 H1 No W' (upd H' D o) No := fun o => ⟨fun b o' h n1 n2 t => by rw [upd_ne (fun z => by rw [z, hD] at h; cases h)]; exact l.kb.kp b o' h n1 n2 t, fun b h => by
    by_cases q : b = D
    · rw [q, upd_same]; simp
    · rw [upd_ne q]; exact l.kb.nt b h, l.kb.pre, l.kb.fr, fun _ h => h.elim⟩
  have hT : ∀ (o : HO) b xs, Rd H' b (.tup xs) → ¬ (Mx b ∨ b = D) → Rd (upd H' D o) b (.tup xs) ∧ ¬ (Mx b ∨ b = D) := fun o b xs z n => ⟨by unfold Rd; rw [upd_ne fun y => n (.inr y)]; exact z, n⟩
  have pa : putAll (acc ++ [.tup [kv, v]]) ([], []) = some (if k ∈ ks then (ks, updW k v ks vals) else (ks ++ [k], vals ++ [v])) := by
    rw [putAll_app, h1]
    show (putP (.tup [kv, v]) (ks, vals)).bind (putAll []) = _
    unfold putP
    dsimp only
    rw [hk]
    dsimp only
    rw [if_pos hv]
    rfl
  by_cases hm : k ∈ ks
  · rw [if_pos hm] at pa ⊢
    exact ⟨l.rel.putMxS (.inr rfl) h2 dctO_noTab, kbD _, ks, updW k v ks vals, as, updW k w ks ws, pa, upd_same, h3.out (hT _), h4.updW rw', updW_sc hv h5, by rw [List.length_append]; omega⟩
  · rw [if_neg hm] at pa ⊢
    refine ⟨l.rel.putMxS (.inr rfl) h2 dctO_noTab, kbD _, ks ++ [k], vals ++ [v], as ++ [b], ws ++ [w], pa, upd_same, (h3.snoc fz).out (hT _), h4.append (RFs.cons rw' RFs.nil), fun x hx => ?_, by rw [List.length_append, List.length_append]; simp; omega⟩
    rcases List.mem_append.mp hx with hx | hx
    · exact h5 x hx
    · rw [List.mem_singleton.mp hx]; exact hv
end
section
variable {K : PySem.W.Frag} {mg : Str → Option Value} {tb : Tbs} {Wx : WX} {mi mi1 : AM} {g g1 : PV → MEnv → Option MEnv} {tc tc1 : TM} {mk mv : EM} {is is1 vs vs1 : List Nat}
end
section
variable {X : Cx} {tb : Tbs} {Wx : WX} {kx vx tg iter tg1 iter1 : Expr} {ifs ifs1 : List Expr} {scope : Scope} {own : List (Str × Nat)} {pos : Pos} {mi mi1 : AM} {g g1 : PV → MEnv → Option MEnv} {tc tc1 : TM} {mk mv : EM} {is is1 vs1 : List Nat}
end
end Mp
end
section
set_option maxRecDepth 100000
set_option maxHeartbeats 1000000
namespace Mp
open PySem PySem.Spec PyProof.Rows L2
section
variable {X : Cx}
end
section
variable {X : Cx} {tb : Tbs} {Wx : WX} {kx vx tg iter tg1 iter1 : Expr} {ifs ifs1 : List Expr} {scope : Scope} {own : List (Str × Nat)} {pos : Pos} {mi mi1 : AM} {g g1 : PV → MEnv → Option MEnv} {tc tc1 : TM} {mk mv : EM} {is is1 vs1 : List Nat}
end
end Mp
end
section
set_option maxRecDepth 100000
set_option maxHeartbeats 1000000
namespace Mp
open PySem PySem.Spec PyProof.Rows L2
def bSorted3 (s : Sto) : List PV → Option (List PV)
  | [.ref n] => match s[n]? with
    | some (.lst ys) => if sortOk ys then some (pvSort ys) else none
    | _ => bSorted2 s [.ref n]
  | xs => bSorted2 s xs
theorem cn_sorted3 {X : Cx} (hc : X.calm = true) (hu : X.A.units + 100 < cLine) : CallN X (.builtin "sorted") bSorted3 := by
  intro pins s σ H xs us Q I r h
  obtain ⟨M, W, st, args, v, hm, so, ra, hg, q⟩ := h
  unfold bSorted3 at hg
  split at hg
  · rename_i n
    split at hg
    · rename_i ys hs
      split at hg
      rotate_left
      · cases hg
      rename_i hk
      cases hg
      unfold sortOk at hk
      rw [Bool.and_eq_true, Bool.and_eq_true] at hk
      obtain ⟨⟨hd, hal⟩, hso⟩ := hk
      obtain ⟨w, rfl, r1⟩ := RVs1 ra
      obtain ⟨p, rfl, hp⟩ := r1.ref
      obtain ⟨ws, h1', h2⟩ := so n p _ hp hs
      have h1 : SqL X.K H p ws := .of h1'
      obtain ⟨its, rv, hl, hz⟩ := I.list h1
      rw [Vals.ref1 r]
      have hlen : ws.length = ys.length := h2.len
      have hmem : ∀ b ∈ ws.zip ys, RF X.K M W H b.2 b.1 ∧ pd 59 b.2 = true := pairs_each (P := fun w x => RF X.K M W H x w ∧ pd 59 x = true) hlen fun i w x e1 e2 => by
        obtain ⟨w', e3, rf⟩ := h2.get e2
        rw [e1] at e3; cases e3
        exact ⟨rf, List.all_eq_true.mp hd x (List.mem_of_getElem? e2)⟩
      have hsnd : (ws.zip ys).map (·.2) = ys := by rw [← List.unzip_snd, List.unzip_zip_right (by omega)]
      have hmem2 : ∀ b ∈ ws.zip ys, b.2 ∈ ys := fun b hb => (List.of_mem_zip hb).2
      have halk : ∀ b ∈ ws.zip ys, ∀ c ∈ ws.zip ys, alk b.2 c.2 = true := fun b hb c hc => List.all_eq_true.mp (List.all_eq_true.mp hal b.2 (hmem2 b hb)) c.2 (hmem2 c hc)
      refine PySem.W.sorted_data (R := fun v (b : V × PV) => RelV b.1 v) (enc := fun b => toD b.2) (bs := ws.zip ys) hl.isList (each_zip (its := its) hlen rv) ?_ ?_ ?_ ?_ ?_ fun out hol ho => ?_
      · refine each_of (by rw [List.length_zip, ← rv.length]; omega) fun i a b e1 e2 => ?_
        have hb := List.mem_of_getElem? e2
        obtain ⟨hi, _⟩ := List.getElem?_eq_some_iff.mp e2
        have e3 : ws[i]? = some b.1 := by
          have := congrArg (Option.map Prod.fst) e2
          rw [← List.getElem?_map, ← List.unzip_fst, List.unzip_zip_left (by omega)] at this
          exact this
        obtain ⟨u, e4, ru⟩ := rv.get e3
        rw [e1] at e4; cases e4
        exact Dp.reads I (toD b.2) b.1 a (RF.dp 59 b.2 (hmem b hb).2 (hmem b hb).1) ru
      · intro d hd' d' hd''
        obtain ⟨b, hb, rfl⟩ := List.mem_map.mp hd'
        obtain ⟨c, hc, rfl⟩ := List.mem_map.mp hd''
        rw [alk_toD 59 59 _ _ (hmem b hb).2 (hmem c hc).2]
        exact halk b hb c hc
      · rw [Bool.or_eq_true] at hso
        rcases hso with hso | hso
        · left
          intro d hd'
          obtain ⟨b, hb, rfl⟩ := List.mem_map.mp hd'
          have := List.all_eq_true.mp hso b.2 (hmem2 b hb)
          revert this
          cases b.2 with
          | tup zs => cases zs with
            | nil => intro z; cases z
            | cons z zs => intro _; exact ⟨toD z, toDs zs, rfl⟩
          | _ => intro z; cases z
        · right
          intro d hd'
          obtain ⟨b, hb, rfl⟩ := List.mem_map.mp hd'
          have h3 := List.all_eq_true.mp hso b.2 (hmem2 b hb)
          have h4 := (hmem b hb).2
          revert h3 h4
          cases b.2 <;> (intro h3 h4; first | (cases h3; done) | (unfold pd at h4; cases h4; done) | (refine ⟨fun z => ?_, fun xs z => ?_⟩ <;> simp [toD] at z))
      · rw [List.length_zip]; omega
      · intro b hb
        have := (pd_lay 59 b.2 (hmem b hb).2).2
        show X.A.units + 2 + (toD b.2).depth < cLine
        omega
      · have hfin : ((ws.zip ys).mergeSort (PySem.W.dataLe false fun b => toD b.2)).map (·.2) = pvSort ys := by
          have e := List.map_mergeSort (r := PySem.W.dataLe false fun b => toD b.2) (s := fun a b => !pvLt b a) (f := fun (b : V × PV) => b.2) (l := ws.zip ys) ?_
          · rw [e, hsnd]; rfl
          intro a ha b hb
          show (!PySem.W.dataLt (toD b.2) (toD a.2)) = !pvLt b.2 a.2
          rw [lt_toD 59 59 b.2 a.2 (hmem b hb).2 (hmem a ha).2 (halk b hb a ha)]
        have hv := each_vals ho
        have hrf : RFs X.K M W H (pvSort ys) (((ws.zip ys).mergeSort (PySem.W.dataLe false fun b => toD b.2)).map (·.1)) := by
          rw [← hfin]
          exact rfs_of_mem fun b hb => (hmem b (List.mem_mergeSort.mp hb)).1
        obtain ⟨ep, he'⟩ := PyProof.Rows.sortedAll_at s.heap its out.toArray
        refine ⟨.ref _, upd H (s.heap.objs.size + 1) (.lst (((ws.zip ys).mergeSort (PySem.W.dataLe false fun b => toD b.2)).map (·.1))), I.laid (t' := s.toks) (fun _ _ => PyProof.Rows.sortedAll_old) (Nat.le_succ _) ⟨?_, out, ep, hv, he'⟩, rfl, q _ _ (I.hok.fresh (Nat.le_succ _)) hrf⟩
        rw [List.length_map, List.length_mergeSort, List.length_zip]
        omega
    · exact cn_sorted2 hc hu pins s σ H xs us Q I r ⟨M, W, st, _, v, hm, so, ra, hg, q⟩
  · exact cn_sorted2 hc hu pins s σ H xs us Q I r ⟨M, W, st, args, v, hm, so, ra, hg, q⟩
section
variable {X : Cx} {tb : Tbs} {Wx : WX} {m : VM} {s1 : Stmt}
end
end Mp
end
section
set_option maxRecDepth 100000
set_option maxHeartbeats 1000000
namespace Mp
open PySem PySem.Spec PyProof.Rows L2
def mGetID (md mk mv : EM) : EM := fun env st => bindR (md env st) fun d s0 => match d with
  | .ref n => match s0[n]? with
    | some (.dci _ _) => bindR (mk env s0) fun kv s => bindR (mv env s) fun v s1 => match kv, s1[n]? with
      | .int k, some (.dci ks vs) => .ok ((findI k ks vs).getD v) s1
      | _, _ => .bad
    | _ => .bad
  | _ => .bad
section
variable {X : Cx} {tb : Tbs} {Wx : WX} {o e f k1 v1 k2 v2 : Expr} {md mk mv ma mx mb my : EM} {apos cpos pos : Pos}
theorem e_getID (hu : X.A.units + 1 < cLine) (ho : EOk X tb Wx .F o md) (he : EOk X tb Wx .R e mk) (hf : EOk X tb Wx .F f mv) (m : M2 X o "get" apos e f cpos := by exact ⟨rfl, rfl, rfl, rfl⟩) : EOk X tb Wx .F (.Call (.Attribute o "get" apos) [e, f] [] cpos) (mGetID md mk mv) :=
  PE_mono (pe_dget2 hu ho he hf m) fun σ H Q ⟨Mx, W, env, st, rel, post⟩ => by
    refine ebindE (md1 := .F) rel post fun d s0 W1 H1 w1 a1 r1 post => ?_
    have r1' : RF X.K (Mt Mx W1 env σ) W1 H1 d w1 := r1
    split at post
    rotate_left
    · exact post.elim
    rename_i n
    unfold RF at r1'
    obtain ⟨p, rfl, hp⟩ := r1'
    split at post
    rotate_left
    · exact post.elim
    rename_i ks0 vs0 hs0
    obtain ⟨ws0, e2, _, _⟩ := sto_dci a1.rel hp hs0
    refine ⟨p, rfl, .inl ⟨_, .of e2⟩, ?_⟩
    refine ebindE (md1 := .R) a1.rel post fun kv s W2 H2 w2 a2 r2 post => ?_
    refine ebindE (md1 := .F) a2.rel post fun v s1 W3 H3 w3 a3 r3 post => ?_
    obtain ⟨k, rfl⟩ : ∃ k, kv = .int k := by cases kv <;> first | exact ⟨_, rfl⟩ | exact post.elim
    obtain ⟨ks, vs, hs⟩ : ∃ ks vs, s1[n]? = some (.dci ks vs) := by
      cases hs : s1[n]? with
      | none => rw [hs] at post; exact post.elim
      | some o => cases o <;> first | exact ⟨_, _, rfl⟩ | (rw [hs] at post; exact post.elim)
    rw [hs] at post
    dsimp only at post
    have hp3 : W3[n]? = some p := by
      obtain ⟨t, e⟩ := a2.pre
      obtain ⟨t', e'⟩ := a3.pre
      have h1 : W2[n]? = some p := by rw [← e, List.getElem?_append_left (List.getElem?_eq_some_iff.mp hp).1]; exact hp
      rw [← e', List.getElem?_append_left (List.getElem?_eq_some_iff.mp h1).1]; exact h1
    obtain ⟨ws, q1, q2, q3⟩ := sto_dci a3.rel hp3 hs
    have r2' : RV X.K (Mt Mx W2 env σ) W2 H2 (.int k) w2 := r2
    obtain rfl := RV.int r2'
    have r3' : RF X.K (Mt Mx W3 env σ) W3 H3 v w3 := r3
    refine ⟨_, DGet.k (k := Sum.inl k) q1, ?_⟩
    rw [kz_val k ks ws q2]
    cases hf : findI k ks vs with
    | some z =>
      rw [hf] at post
      obtain ⟨w, h1, h2⟩ := rfs_findI q3 hf
      rw [h1]
      exact post W3 H3 w (.refl a3.rel) h2
    | none =>
      rw [hf] at post
      have l1 := findI_some k ks vs (by rw [q2]; exact q3.len)
      have l2 := findI_some k ks ws q2
      rw [hf] at l1
      cases hw : findI k ks ws with
      | some z => rw [hw, ← l1] at l2; cases l2
      | none => exact post W3 H3 w3 (.refl a3.rel) r3'
end
end Mp
end
section
set_option maxRecDepth 100000
set_option maxHeartbeats 1000000
namespace ZN
open PySem
open PySem.Sem (wp)
section
variable {prog : Program} {w : World} {A : Around} {E : Value → Shared → Prop} {s : Shared}
theorem held_item {z TI TO T i1 i2 l1 l2 : Addr} {f : Bool} {oT : Obj} {k1 k2 : Nat} {xs ys : Array Value} {x y : Value} {Q : Option Value → Shared → Prop} (D : ZipApart z TI TO i1 i2 l1 l2)
    (hz : IsZipHeld s.heap z TI TO T f) (hT : s.heap.get? T = some oT) (hTI : IsPair s.heap TI (.ref i1) (.ref i2))
    (h1 : s.heap.IsTupleIter i1 l1 k1) (h2 : s.heap.IsListIter i2 l2 k2) (g1 : s.heap.IsTuple l1 xs) (g2 : s.heap.IsList l2 ys) (hx : xs[k1]? = some x) (hy : ys[k2]? = some y)
    (hQ : ∀ h', IsZipHeld h' z TI TO T true → h'.IsTupleIter i1 l1 (k1 + 1) → h'.IsListIter i2 l2 (k2 + 1) → IsPair h' s.heap.objs.size x y →
      (∀ c o, c ≠ z → c ≠ i1 → c ≠ i2 → s.heap.get? c = some o → h'.get? c = some o) → Q (some (.ref s.heap.objs.size)) { s with heap := h' }) :
    wpAny (model prog w) A (pyNext (.ref z)) Q E s := by
  have hTy : s.TypeIs (.ref z) "zip" := ⟨_, hz, rfl⟩
  unfold pyNext
  refine wpAny_bind (wpAny_attempt (wpAny_callSpecial?_slot (name := Str.ofString "__next__") hTy F.slot_zip_next (wpAny_call_entry F.slot_zip_next hTy F.entry_zip_next (Q := fun v s' => wpAny (model prog w) A (pure (some v)) Q E s') ?_ (F.args_zip_next_1 _))))
  show wpAny _ _ (field (.ref z) 2 >>= _) _ _ _
  refine wpAny_bind (wpAny_field hz rfl (x := .bool false) rfl ?_)
  show wpAny _ _ (field (.ref z) 3 >>= _) _ _ _
  refine wpAny_bind (wpAny_field hz rfl (x := .ref TI) rfl ?_)
  refine wpAny_bind (wpAny_seqItems hTI rfl ?_)
  show wpAny _ _ (Builtin.SmallTypes.ownedTupleIsFree (.ref z) >>= _) _ _ _
  refine wpAny_bind (wpAny_tupleHeld_zip hz hT fun q1 z1 s1 => ?_)
  simp only [Bool.false_eq_true, if_false]
  refine wpAny_bind ?_
  rw [← Array.forIn_toList]
  simp only [List.forIn_cons, List.forIn_nil]
  refine wpAny_bind (wpAny_bind (wpAny_holding ?_))
  show wpAny _ _ (Builtin.SmallTypes.nextOf (.ref i1) >>= _) _ _ _
  refine wpAny_bind (RZ.nextOf_tuple_item (s := { s with heap := q1 }) (h1.extBut s1.extBut D.i1z) (g1.extBut s1.extBut D.l1z) hx fun q2 it2 s2 => wpAny_pure ?_)
  refine wpAny_pure ?_
  refine wpAny_bind (wpAny_bind (wpAny_holding ?_))
  show wpAny _ _ (Builtin.SmallTypes.nextOf (.ref i2) >>= _) _ _ _
  refine wpAny_bind (wpAny_nextOf_list_item (s := { s with heap := q2 }) ((h2.extBut s1.extBut D.i2z).extBut s2.extBut D.i12.symm) ((g2.extBut s1.extBut D.l2z).extBut s2.extBut D.l2i1) hy fun q3 it3 s3 => wpAny_pure ?_)
  refine wpAny_pure (wpAny_pure ?_)
  show wpAny _ _ (newTuple [x, y] >>= _) _ _ _
  refine wpAny_bind (wpAny_newTuple ?_)
  have hsz : q3.objs.size = s.heap.objs.size := by rw [s3.1, s2.1, s1.1]
  have z3 : IsZipHeld q3 z TI TO T true := s3.extBut _ _ D.i2z.symm (s2.extBut _ _ D.i1z.symm z1)
  have hk : ∀ c o, c ≠ z → c ≠ i1 → c ≠ i2 → s.heap.get? c = some o → q3.get? c = some o := fun c o c1 c2 c3 e => s3.extBut _ _ c3 (s2.extBut _ _ c2 (s1.extBut _ _ c1 e))
  have u3 : q3.IsTupleIter i1 l1 (k1 + 1) := it2.extBut s3.extBut D.i12
  refine wpAny_pure ⟨_, rfl, wpAny_pure ?_⟩
  show Q (some (.ref q3.objs.size)) _
  have hp : IsPair (q3.push { cls := .type "tuple", data := .seq #[x, y] }) q3.objs.size x y := Heap.get?_push_size _ rfl
  rw [hsz] at hp ⊢
  exact hQ _ (Heap.get?_push_of_some _ z3) (u3.at fun o e => Heap.get?_push_of_some _ e) (it3.at fun o e => Heap.get?_push_of_some _ e) hp fun c o c1 c2 c3 e => Heap.get?_push_of_some _ (hk c o c1 c2 c3 e)
theorem held_end {z TI TO T i1 i2 l1 l2 : Addr} {f : Bool} {oT : Obj} {k1 k2 : Nat} {xs ys : Array Value} {Q : Option Value → Shared → Prop} (hh : A.handled = none) (D : ZipApart z TI TO i1 i2 l1 l2)
    (hz : IsZipHeld s.heap z TI TO T f) (hT : s.heap.get? T = some oT) (hTI : IsPair s.heap TI (.ref i1) (.ref i2))
    (h1 : s.heap.IsTupleIter i1 l1 k1) (h2 : s.heap.IsListIter i2 l2 k2) (g1 : s.heap.IsTuple l1 xs) (g2 : s.heap.IsList l2 ys) (hend : xs[k1]? = none ∨ ys[k2]? = none)
    (hQ : ∀ h', (∀ c o, c ≠ z → c ≠ i1 → c ≠ i2 → s.heap.get? c = some o → h'.get? c = some o) → Q none { s with heap := h' }) : wpAny (model prog w) A (pyNext (.ref z)) Q E s := by
  have hTy : s.TypeIs (.ref z) "zip" := ⟨_, hz, rfl⟩
  have fin : ∀ h' e, (∀ c o, c ≠ z → c ≠ i1 → c ≠ i2 → s.heap.get? c = some o → h'.get? c = some o) → (∃ o, h'.get? e = some o ∧ o.cls = .type "StopIteration") →
      wpAny (model prog w) A (do if (← isInstance (.ref e) (.type "StopIteration")) then pure none else throw (.ref e)) Q E { s with heap := h' } := fun h' e hk ⟨o, ho, hc⟩ =>
    wpAny_bind (wpAny_isInstance (T := "StopIteration") (b := true) ⟨o, ho, hc⟩ isSubtype_stop (wpAny_pure (hQ _ hk)))
  unfold pyNext
  refine wpAny_bind (wpAny_attempt (wpAny_callSpecial?_slot (name := Str.ofString "__next__") hTy F.slot_zip_next (wpAny_call_entry F.slot_zip_next hTy F.entry_zip_next ?_ (F.args_zip_next_1 _))))
  show wpAny _ _ (field (.ref z) 2 >>= _) _ _ _
  refine wpAny_bind (wpAny_field hz rfl (x := .bool false) rfl ?_)
  show wpAny _ _ (field (.ref z) 3 >>= _) _ _ _
  refine wpAny_bind (wpAny_field hz rfl (x := .ref TI) rfl ?_)
  refine wpAny_bind (wpAny_seqItems hTI rfl ?_)
  show wpAny _ _ (Builtin.SmallTypes.ownedTupleIsFree (.ref z) >>= _) _ _ _
  refine wpAny_bind (wpAny_tupleHeld_zip hz hT fun q1 z1 s1 => ?_)
  simp only [Bool.false_eq_true, if_false]
  refine wpAny_bind ?_
  rw [← Array.forIn_toList]
  simp only [List.forIn_cons, List.forIn_nil]
  refine wpAny_bind (wpAny_bind (wpAny_holding ?_))
  show wpAny _ _ (Builtin.SmallTypes.nextOf (.ref i1) >>= _) _ _ _
  cases hx : xs[k1]? with
  | none =>
    refine wpAny_bind (RZ.nextOf_tuple_end (s := { s with heap := q1 }) hh (h1.extBut s1.extBut D.i1z) (g1.extBut s1.extBut D.l1z) hx fun q2 e s2 he => ?_)
    exact fin q2 e (fun c o c1 c2 _ x => s2 _ _ c2 (s1.extBut _ _ c1 x)) he
  | some x =>
    have hy : ys[k2]? = none := by rcases hend with h | h; rw [hx] at h; cases h; exact h
    refine wpAny_bind (RZ.nextOf_tuple_item (s := { s with heap := q1 }) (h1.extBut s1.extBut D.i1z) (g1.extBut s1.extBut D.l1z) hx fun q2 it2 s2 => wpAny_pure ?_)
    refine wpAny_pure ?_
    refine wpAny_bind (wpAny_bind (wpAny_holding ?_))
    show wpAny _ _ (Builtin.SmallTypes.nextOf (.ref i2) >>= _) _ _ _
    refine wpAny_bind (wpAny_nextOf_list_end (s := { s with heap := q2 }) hh ((h2.extBut s1.extBut D.i2z).extBut s2.extBut D.i12.symm) ((g2.extBut s1.extBut D.l2z).extBut s2.extBut D.l2i1) hy fun q3 e s3 he => ?_)
    exact fin q3 e (fun c o c1 c2 c3 x => s3 _ _ c3 (s2.extBut _ _ c2 (s1.extBut _ _ c1 x))) he
end
section
variable {prog : Program} {w : World}
theorem pairs_arg (z TI TO i1 i2 l1 l2 : Addr) (D : ZipApart z TI TO i1 i2 l1 l2) (xs ys : Array Value) :
    PairArg prog w "zip" z [z, TI, TO, i1, i2, l1, l2] [z, TO, i1, i2] (min xs.size ys.size) (fun i k v => xs[i]? = some k ∧ ys[i]? = some v)
      (fun h => IsZip h z TI TO .none ∧ IsPair h TI (.ref i1) (.ref i2) ∧ (∃ a b, IsPair h TO a b) ∧ h.IsTupleIter i1 l1 0 ∧ h.IsListIter i2 l2 0 ∧ h.IsTuple l1 xs ∧ h.IsList l2 ys) where
  type := fun s ok => ⟨_, ok.1, rfl⟩
  notDict := by decide
  keep := fun h h' ⟨hz, hTI, ⟨a, b, hTO⟩, h1, h2, g1, g2⟩ hk => ⟨hk _ _ hz, hk _ _ hTI, ⟨a, b, hk _ _ hTO⟩, h1.at fun o e => hk _ o e, h2.at fun o e => hk _ o e, g1.at fun o e => hk _ o e, g2.at fun o e => hk _ o e⟩
  there := fun h ⟨hz, hTI, ⟨a, c, hTO⟩, ⟨o1, h1, _⟩, ⟨o2, h2, _⟩, ⟨o3, g1, _⟩, ⟨o4, g2, _⟩⟩ b hb => by
    simp only [List.mem_cons, List.not_mem_nil, or_false] at hb
    rcases hb with rfl | rfl | rfl | rfl | rfl | rfl | rfl
    all_goals first | exact ⟨_, hz⟩ | exact ⟨_, hTI⟩ | exact ⟨_, hTO⟩ | exact ⟨_, h1⟩ | exact ⟨_, h2⟩ | exact ⟨_, g1⟩ | exact ⟨_, g2⟩
  sub := fun b hb => by simp at hb ⊢; rcases hb with rfl | rfl | rfl | rfl <;> simp
  noKeys := fun A s Q E hA ok h => getAttrOr_miss_zip ok.1 rfl rfl rfl zip_no_keys (by decide +kernel) hA h
  iter := fun A s d Q E hA ok hd hdf h => by
    obtain ⟨hz, hTI, ⟨a, b, hTO⟩, h1, h2, g1, g2⟩ := ok
    simp only [List.mem_cons, List.not_mem_nil, or_false, not_or] at hdf
    obtain ⟨dz, dTI, dTO, di1, di2, dl1, dl2⟩ := hdf
    refine wpAny_pyIter_zip hz (h z [z, TO, i1, i2] (fun i h => IsPair h TI (.ref i1) (.ref i2) ∧ h.IsTupleIter i1 l1 i ∧ h.IsListIter i2 l2 i ∧ h.IsTuple l1 xs ∧ h.IsList l2 ys ∧
      ((IsZip h z TI TO .none ∧ ∃ a b, IsPair h TO a b) ∨ ∃ T f oT, IsZipHeld h z TI TO T f ∧ h.get? T = some oT ∧ T ≠ z ∧ T ≠ i1 ∧ T ≠ i2 ∧ T ≠ d)) s.heap s.toks ?_
      ⟨hTI, h1, h2, g1, g2, .inl ⟨hz, a, b, hTO⟩⟩ (fun _ _ e => e) fun b hb => .inl hb)
    exact {
      off := fun hm => by
        simp only [List.mem_cons, List.not_mem_nil, or_false] at hm
        rcases hm with e | e | e | e
        · exact dz e
        · exact dTO e
        · exact di1 e
        · exact di2 e
      frame := fun i q1 q2 ⟨hTI, h1, h2, g1, g2, hz⟩ hk => by
        refine ⟨hk _ _ (Ne.symm dTI) hTI, h1.at fun o e => hk _ o (Ne.symm di1) e, h2.at fun o e => hk _ o (Ne.symm di2) e, g1.at fun o e => hk _ o (Ne.symm dl1) e, g2.at fun o e => hk _ o (Ne.symm dl2) e, ?_⟩
        rcases hz with ⟨hz, a, b, hTO⟩ | ⟨T, f, oT, hz, hT, r1, r2, r3, r4⟩
        · exact .inl ⟨hk _ _ (Ne.symm dz) hz, a, b, hk _ _ (Ne.symm dTO) hTO⟩
        · exact .inr ⟨T, f, oT, hk _ _ (Ne.symm dz) hz, hk _ _ r4 hT, r1, r2, r3, r4⟩
      item := fun i t Q₁ E₁ hi st hds hQ => by
        obtain ⟨hTI, h1, h2, g1, g2, hz⟩ := st
        have hix : i < xs.size := Nat.lt_of_lt_of_le hi (Nat.min_le_left ..)
        have hiy : i < ys.size := Nat.lt_of_lt_of_le hi (Nat.min_le_right ..)
        have ex := Array.getElem?_eq_getElem hix
        have ey := Array.getElem?_eq_getElem hiy
        have lt : ∀ {c o}, t.heap.get? c = some o → t.heap.objs.size ≠ c := fun e => Nat.ne_of_gt (Heap.lt_size e)
        have n1 : t.heap.objs.size ≠ i1 := let ⟨_, e, _⟩ := h1; lt e
        have n2 : t.heap.objs.size ≠ i2 := let ⟨_, e, _⟩ := h2; lt e
        rcases hz with ⟨hz, a, b, hTO⟩ | ⟨T, f, oT, hz, hT, r1, r2, r3, r4⟩
        · refine pyNext_zipN_item D hz hTI hTO h1 h2 g1 g2 ex ey fun h' a1 a2 a3 a4 a5 a6 hk => ?_
          exact hQ t.heap.objs.size _ _ h' t.toks ⟨ex, ey⟩ (.inl ⟨_, a5, rfl, _, rfl⟩)
            ⟨hk _ _ D.TIz D.TITO D.TIi1 D.TIi2 hTI, a3, a4, g1.at fun o e => hk _ o D.l1z D.l1TO D.l1i1 D.l1i2 e, g2.at fun o e => hk _ o D.l2z D.l2TO D.l2i1 D.l2i2 e,
              .inr ⟨t.heap.objs.size, false, _, a1, a5, lt hz, n1, n2, Nat.ne_of_gt hds⟩⟩
            fun c o hc e => hk c o (fun x => hc (by simp [x])) (fun x => hc (by simp [x])) (fun x => hc (by simp [x])) (fun x => hc (by simp [x])) e
        · refine held_item D hz hT hTI h1 h2 g1 g2 ex ey fun h' a1 a3 a4 a5 hk => ?_
          exact hQ t.heap.objs.size _ _ h' t.toks ⟨ex, ey⟩ (.inl ⟨_, a5, rfl, _, rfl⟩)
            ⟨hk _ _ D.TIz D.TIi1 D.TIi2 hTI, a3, a4, g1.at fun o e => hk _ o D.l1z D.l1i1 D.l1i2 e, g2.at fun o e => hk _ o D.l2z D.l2i1 D.l2i2 e,
              .inr ⟨T, true, oT, a1, hk _ _ r1 r2 r3 hT, r1, r2, r3, r4⟩⟩
            fun c o hc e => hk c o (fun x => hc (by simp [x])) (fun x => hc (by simp [x])) (fun x => hc (by simp [x])) e
      done := fun t Q₁ E₁ st hQ => by
        obtain ⟨hTI, h1, h2, g1, g2, hz⟩ := st
        have hend : xs[min xs.size ys.size]? = none ∨ ys[min xs.size ys.size]? = none := by
          rcases Nat.le_total xs.size ys.size with h | h
          · exact .inl (Array.getElem?_eq_none (by rw [Nat.min_eq_left h]; exact Nat.le_refl _))
          · exact .inr (Array.getElem?_eq_none (by rw [Nat.min_eq_right h]; exact Nat.le_refl _))
        rcases hz with ⟨hz, a, b, hTO⟩ | ⟨T, f, oT, hz, hT, r1, r2, r3, r4⟩
        · exact pyNext_zipN_end hA D hz hTI hTO h1 h2 g1 g2 hend fun h' hk => hQ h' t.toks fun c o hc e => hk c o (fun x => hc (by simp [x])) (fun x => hc (by simp [x])) (fun x => hc (by simp [x])) (fun x => hc (by simp [x])) e
        · exact held_end hA D hz hT hTI h1 h2 g1 g2 hend fun h' hk => hQ h' t.toks fun c o hc e => hk c o (fun x => hc (by simp [x])) (fun x => hc (by simp [x])) (fun x => hc (by simp [x])) e }
end
end ZN
namespace Mp
open PySem PySem.Spec PyProof.Rows L2
def tDzip (K : PySem.W.Frag) (ta : TA) : TE := fun σ H Q => ta σ H fun vs H1 => ∃ (a b : Addr) (ks : List Int) (ws : List V), vs = [.ref a, .ref b] ∧ SqT K H1 a (ks.map V.int) ∧ SqL K H1 b ws ∧ ks.length = ws.length ∧ ks.Nodup ∧ ks.length ≤ 1000 ∧
  ∀ D, H1 D = none → Q (.ref D) (upd H1 D (.dK (kz ks ws)))
theorem merged_new {kvs : List (Key × Value)} : ∀ {more : List (Key × Value)}, ((kvs ++ more).map (·.1)).Nodup → merged kvs more = kvs ++ more
  | [], _ => by simp [merged]
  | (k, v) :: more, h => by
    have nk : kvs.any (fun kv => kv.1 = k) = false := by
      rw [List.any_eq_false]
      intro x hx
      rw [List.map_append, List.nodup_append] at h
      have := h.2.2 x.1 (List.mem_map.mpr ⟨x, hx, rfl⟩) k (by simp)
      simpa using this
    have e1 : stored kvs k v = kvs ++ [(k, v)] := by unfold stored; rw [nk]; rfl
    have : merged kvs ((k, v) :: more) = merged (stored kvs k v) more := rfl
    rw [this, e1, merged_new (kvs := kvs ++ [(k, v)]) (more := more) (by simpa using h)]
    simp
theorem kv_zip {ks : List Int} {ws : List V} {us : List Value} (r : Vals ws us) : KV (kz ks ws) ((ks.zip us).map fun p => ((Sum.inl p.1 : Key), p.2)) := by
  induction r generalizing ks with
  | nil => rw [kz]; simp; exact .nil
  | cons r _ ih =>
    cases ks with
    | nil => exact .nil
    | cons k ks => exact .cons ⟨rfl, r⟩ ih
theorem pe_dzip {X : Cx} {e1 e2 : Expr} {ta : TA} {pd pz ppz pos : Pos} (hc : X.calm = true) (hgd : Gl X "dict") (hmd : X.mg "dict" = none) (hgz : Gl X "zip") (hmz : X.mg "zip" = none) (ha : PA X [e1, e2] ta)
    (hs : starEach [e1, e2] X.env = (false, eval e1 X.env) :: starEach [e2] X.env := by rfl) (hpl : (backTo ppz (starEach [e2] X.env)).any (·.1) = false := by rfl)
    (hs2 : starEach [.Call (.Name "zip" pz) [e1, e2] [] ppz] X.env = (false, eval (.Call (.Name "zip" pz) [e1, e2] [] ppz) X.env) :: starEach [] X.env := by rfl) (hpl2 : (backTo pos (starEach [] X.env)).any (·.1) = false := by rfl) :
    PE X (.Call (.Name "dict" pd) [.Call (.Name "zip" pz) [e1, e2] [] ppz] [] pos) (tDzip X.K ta) := by
  refine ⟨fun pins s σ H Q I h => ?_⟩
  refine Call_ (ld_blt I hgd hmd PyProof.Rows.boot_dict (PyProof.Rows.callWith_type1 ?_ hs2 hpl2))
  rw [hs2]
  show wpAny _ _ (spliced ((false, eval (.Call (.Name "zip" pz) [e1, e2] [] ppz) X.env) :: backTo pos (starEach [] X.env))) _ _ s
  refine Calls.spliced_cons (Call_ (ld_blt I hgz hmz PyProof.Rows.boot_zip (PyProof.Rows.callWith_type1 (thn (ha.run ppz pins s σ H _ I h) fun us s1 ⟨vs, H1, I1, r1, q1⟩ => ?_) hs hpl)))
  obtain ⟨a, b, ks, ws, ex, hqx, hqy, hl, hnd, hsz, q⟩ := q1
  subst ex
  cases r1 with
  | cons r rr =>
    cases rr with
    | cons r' rr =>
      cases rr
      cases r
      cases r'
      obtain ⟨its, rv, p1, _⟩ := I1.tuple hqx
      obtain ⟨its2, rv2, p2, _⟩ := I1.list hqy
      obtain ⟨o1, ho1, _⟩ := id p1
      have hle1 : its.length = ks.length := by have := rv.length; rw [List.length_map] at this; omega
      have hle2 : its2.length = ws.length := by have := rv2.length; omega
      refine ZN.call_zipN (show s1.heap.IsTuple a its.toArray from p1) p2.isList fun h' hz hTI hTO h1 h2 hz5 hk => Calls.spliced_nil ?_
      have hsm : min its.toArray.size its2.toArray.size = ks.length := by rw [List.size_toArray, List.size_toArray]; omega
      refine call_dict_pairs (knd := mixKind X.prog X.w) (kvs := (ks.zip its2).map fun p => ((Sum.inl p.1 : Key), p.2)) (ZN.pairs_arg (prog := X.prog) (w := X.w) (s1.heap.objs.size + 4) (s1.heap.objs.size + 2) (s1.heap.objs.size + 3) s1.heap.objs.size (s1.heap.objs.size + 1) a b (PySem.W.ktu_apart s1.heap.objs.size a b (Heap.lt_size ho1) p2.lt) its.toArray its2.toArray) (I1.ok.hd hc) ⟨hz, hTI, ⟨_, _, hTO⟩, h1, h2, (show s1.heap.IsTuple a its.toArray from p1).at fun o e => hk _ _ e, p2.isList.at fun o e => hk _ _ e⟩ ⟨?_, ?_⟩ ?_ ?_
      · rw [hsm, List.length_map, List.length_zip]; omega
      · rintro i key v ⟨x1, x2⟩
        have x1 : its[i]? = some key := by simpa using x1
        have x2 : its2[i]? = some v := by simpa using x2
        have hi : i < ks.length := by have := (List.getElem?_eq_some_iff.mp x1).1; omega
        obtain ⟨u, hu, ru⟩ := rv.get (show (ks.map V.int)[i]? = some (.int ks[i]) by rw [List.getElem?_map, List.getElem?_eq_getElem hi]; rfl)
        rw [x1] at hu
        cases hu
        obtain ⟨t, rfl⟩ := ru
        refine ⟨Sum.inl ks[i], ?_, ?_⟩
        · have zz := (List.getElem?_zip_eq_some (l₁ := ks) (l₂ := its2) (z := (ks[i], v)) (i := i)).mpr ⟨List.getElem?_eq_getElem hi, x2⟩
          rw [List.getElem?_map, zz]; rfl
        · show Value.isInt ks[i] (.int ks[i] t) = true
          simp [Value.isInt]
      · rw [hsm]; exact Nat.le_trans hsz (by decide)
      · intro h'' tk hd' hk'
        rw [merged_new (by
          rw [List.nil_append, List.map_map]
          show ((ks.zip its2).map fun p => (Sum.inl p.1 : Key)).Nodup
          have : ((ks.zip its2).map fun p => (Sum.inl p.1 : Key)) = ks.map Sum.inl := by
            have e := List.map_fst_zip (l₁ := ks) (l₂ := its2) (by omega)
            conv => rhs; rw [← e, List.map_map]
            rfl
          rw [this]
          rw [List.nodup_iff_pairwise_ne, List.pairwise_map]
          exact (List.nodup_iff_pairwise_ne.mp hnd).imp fun h z => h (Sum.inl.inj z)), List.nil_append] at hd'
        have keep : ∀ b o, s1.heap.get? b = some o → h''.get? b = some o := fun b o e => hk' b o (fun z => by
          have lt : (b : Nat) < s1.heap.objs.size := Heap.lt_size e
          have z : b = s1.heap.objs.size + 4 ∨ b = s1.heap.objs.size + 3 ∨ b = s1.heap.objs.size ∨ b = s1.heap.objs.size + 1 := by simpa using z
          rcases z with z | z | z | z
          · exact absurd lt (by rw [z]; exact Nat.not_lt.mpr (Nat.le_add_right _ _))
          · exact absurd lt (by rw [z]; exact Nat.not_lt.mpr (Nat.le_add_right _ _))
          · exact absurd lt (by rw [z]; exact Nat.lt_irrefl _)
          · exact absurd lt (by rw [z]; exact Nat.not_lt.mpr (Nat.le_add_right _ _))) (hk b o e)
        have gt5 : s1.heap.objs.size ≤ h'.objs.size := by rw [hz5]; exact Nat.le_add_right _ _
        have nb : (h'.objs.size == sysModules) = false := by
          have lt : sysModules < s1.heap.objs.size := I1.big
          exact beq_eq_false_iff_ne.mpr (Ne.symm (Nat.ne_of_lt (Nat.lt_of_lt_of_le lt gt5)))
        have ln : (kz ks ws).length ≤ sizeLine := by
          unfold kz
          rw [List.length_map, List.length_zip]
          exact Nat.le_trans (Nat.min_le_left _ _) (Nat.le_trans hsz (by decide))
        have new : ObjOk X.prog X.w (upd H1 h'.objs.size (.dK (kz ks ws))) h'' h'.objs.size (.dK (kz ks ws)) := ⟨ln, nb, _, kv_zip rv2, hd'⟩
        exact ⟨.ref h'.objs.size, _, I1.laid (a := h'.objs.size) (o := .dK (kz ks ws)) (t' := tk) keep gt5 new, rfl, q _ (I1.hok.fresh gt5)⟩
def mDzip (ms : AM) : EM := fun env st => bindR (ms env st) fun vs s => match vs with
  | [.tup xs, .lst ys] => match intsOf xs with
    | some ks => if (decide ks.Nodup && decide (ks.length = ys.length) && decide (ks.length ≤ 1000)) = true then .ok (.ref s.length) (s ++ [.dci ks ys]) else .bad
    | none => .bad
  | _ => .bad
theorem rfsN_ints {K : PySem.W.Frag} {M : Addr → Prop} {W : List Addr} {H : Hp} : ∀ {ks : List Int} {ws : List V}, RFs K M W H (ks.map PV.int) ws → ws = ks.map V.int
  | [], _, h => by rw [h.nil_inv]; rfl
  | k :: ks, _, h => by
    obtain ⟨w, r, rfl, h1, h2⟩ := h.inv
    unfold RF at h1
    rw [h1, rfsN_ints h2]; rfl
theorem e_dzip {X : Cx} {tb : Tbs} {Wx : WX} {e1 e2 : Expr} {ms : AM} {pd pz ppz pos : Pos} (hc : X.calm = true) (hgd : Gl X "dict") (hmd : X.mg "dict" = none) (hgz : Gl X "zip") (hmz : X.mg "zip" = none) (ha : AOk X tb Wx true [e1, e2] ms)
    (hs : starEach [e1, e2] X.env = (false, eval e1 X.env) :: starEach [e2] X.env := by rfl) (hpl : (backTo ppz (starEach [e2] X.env)).any (·.1) = false := by rfl)
    (hs2 : starEach [.Call (.Name "zip" pz) [e1, e2] [] ppz] X.env = (false, eval (.Call (.Name "zip" pz) [e1, e2] [] ppz) X.env) :: starEach [] X.env := by rfl) (hpl2 : (backTo pos (starEach [] X.env)).any (·.1) = false := by rfl) :
    EOk X tb Wx .F (.Call (.Name "dict" pd) [.Call (.Name "zip" pz) [e1, e2] [] ppz] [] pos) (mDzip ms) :=
  PE_mono (pe_dzip hc hgd hmd hgz hmz ha hs hpl hs2 hpl2) fun σ H Q ⟨Mx, W, env, st, rel, post⟩ => by
    refine ⟨Mx, W, env, st, rel, ?_⟩
    unfold mDzip at post
    cases q : ms env st with
    | bad => rw [q] at post; exact post.elim
    | exc x s => rw [q] at post; exact post
    | ok vs s =>
      rw [q] at post
      intro W' H' ws a1 rm0
      have rm : RFs X.K (Mt Mx W' env σ) W' H' vs ws := rm0
      simp only [bindR] at post
      split at post
      · rename_i xs ys
        split at post
        rotate_left
        · exact post.elim
        rename_i ks hks
        split at post
        rotate_left
        · exact post.elim
        rename_i hcond
        simp only [Bool.and_eq_true, decide_eq_true_eq] at hcond
        obtain ⟨⟨c1, c2⟩, c3⟩ := hcond
        obtain ⟨w1, r1, rfl, h1, h4⟩ := rm.inv
        obtain ⟨w2, r2, rfl, h2, h3⟩ := h4.inv
        cases h3.nil_inv
        unfold RF at h1 h2
        obtain ⟨pa, wa, rfl, fa, ra⟩ := h1
        obtain ⟨pb, wb, rfl, fb, rb⟩ := h2
        rw [intsOf_map hks] at ra
        have ea := rfsN_ints ra
        subst ea
        refine ⟨pa, pb, ks, wb, rfl, fa.sq, fb.sq, by rw [rb.len]; exact c2, c1, c3, fun D hD => ?_⟩
        have rel' := a1.rel
        have nm : ¬ Mx D := fun z => rel'.mx D z hD
        have no : NoTbl (.dK (kz ks wb)) := fun ps z => nomatch z
        have r2 := rel'.new hD no
        have g : Grow (Mt Mx W' env σ) (Mt (fun b => Mx b ∨ b = D) W' env σ) W' W' H' (upd H' D (.dK (kz ks wb))) := ⟨fun b u h _ _ => by rw [upd_ne (fun z => by rw [z, hD] at h; cases h)]; exact h,
          fun b h n z => by
            rcases z with z | (z | z) | z
            · exact n (.inl z)
            · exact n (.inr (.inl z))
            · exact h (by rw [z]; exact hD)
            · exact n (.inr (.inr z)), List.prefix_refl _⟩
        have rS := Rel.toStoO (o := .dci ks ys) nm r2 ⟨wb, upd_same, by rw [rb.len]; exact c2, RFs.grow g _ rb⟩
        have kp : ∀ b o, H' b = some o → upd H' D (.dK (kz ks wb)) b = some o := fun b o h => by rw [upd_ne (fun z => by rw [z, hD] at h; cases h)]; exact h
        have a2 : Stp X.K tb Mx env σ W' H' (W' ++ [D]) (upd H' D (.dK (kz ks wb))) (s ++ [.dci ks ys]) := by
          refine ⟨rS, fun b o h _ _ => kp b o h, fun b h => ?_, List.prefix_append _ _, fun b hb => ?_⟩
          · by_cases q : b = D
            · rw [q, upd_same]; simp
            · rw [upd_ne q]; exact h
          · rcases List.mem_append.mp hb with z | z
            · exact .inl z
            · rw [List.mem_singleton.mp z]; exact .inr hD
        refine post (W' ++ [D]) _ (.ref D) (a1.trans a2) ?_
        show RF X.K (Mt Mx (W' ++ [D]) env σ) (W' ++ [D]) (upd H' D (.dK (kz ks wb))) (.ref s.length) (.ref D)
        unfold RF
        refine ⟨D, rfl, ?_⟩
        rw [← rel'.len]
        simp
      · exact post.elim
end Mp
end
section
set_option maxRecDepth 100000
set_option maxHeartbeats 4000000
namespace Mp
open PySem PySem.Spec PyProof.Rows L2
section
variable {X : Cx}
end
end Mp
end
section
set_option maxRecDepth 100000
set_option maxHeartbeats 4000000
namespace K17
open PySem PySem.Spec PyProof.Rows L2 GxR Mp
def top (i : Nat) : Stmt := PySem.Challenge.pw_maproom_k17_half_planes_cut_in_any_order.main.body.getD i (.Pass ⟨0, 0, 0, 0⟩)
def XS : List Str := ["BadNumber", "BadShape"]
structure Hy (P : Program) (K : PySem.W.Frag) (mg : Str → Option Value) (cs : List (Addr × Addr)) (tg : Addr → Option Str) : Prop where
  n_abs : mg "abs" = none
  n_all : mg "all" = none
  n_bool : mg "bool" = none
  n_dict : mg "dict" = none
  n_enumerate : mg "enumerate" = none
  n_int : mg "int" = none
  n_isinstance : mg "isinstance" = none
  n_len : mg "len" = none
  n_list : mg "list" = none
  n_min : mg "min" = none
  n_range : mg "range" = none
  n_reversed : mg "reversed" = none
  n_sorted : mg "sorted" = none
  n_tuple : mg "tuple" = none
  n_zip : mg "zip" = none
  c_FAR : ∃ u, mg "FAR" = some u ∧ cnV K (.int 1000000) u = true
  r_BadNumber : ∃ C, XcF K mg "BadNumber" C
  r_BadShape : ∃ C, XcF K mg "BadShape" C
  g_BadNumber : ∃ C, mg "BadNumber" = some C
  g_BadShape : ∃ C, mg "BadShape" = some C
  xm : ∀ y ∈ XS, ∀ z ∈ XS, XmF K mg y z
  f_law_dice : ∃ f fd c T, FnAt K mg cs tg none "_law_dice" (top 31) f fd c T
  f_law_rounds : ∃ f fd c T, FnAt K mg cs tg none "_law_rounds" (top 33) f fd c T
  f_law_roll : ∃ f fd c T, FnAt K mg cs tg none "_law_roll" (top 32) f fd c T
  f_law_point : ∃ f fd c T, FnAt K mg cs tg none "_law_point" (top 34) f fd c T
  f_is_whole : ∃ f fd c T, FnAt K mg cs tg none "is_whole" (top 5) f fd c T
  f_is_bound : ∃ f fd c T, FnAt K mg cs tg none "is_bound" (top 15) f fd c T
  f_check_bounds : ∃ f fd c T, FnAt K mg cs tg none "check_bounds" (top 16) f fd c T
  f_common : ∃ f fd c T, FnAt K mg cs tg none "common" (top 6) f fd c T
  f_part : ∃ f fd c T, FnAt K mg cs tg none "part" (top 7) f fd c T
  f_times : ∃ f fd c T, FnAt K mg cs tg none "times" (top 10) f fd c T
  f_plus : ∃ f fd c T, FnAt K mg cs tg none "plus" (top 8) f fd c T
  f_minus : ∃ f fd c T, FnAt K mg cs tg none "minus" (top 9) f fd c T
  f_value : ∃ f fd c T, FnAt K mg cs tg none "value" (top 17) f fd c T
  f_over : ∃ f fd c T, FnAt K mg cs tg none "over" (top 11) f fd c T
  f_cut : ∃ f fd c T, FnAt K mg cs tg none "cut" (top 20) f fd c T
  f_left_of : ∃ f fd c T, FnAt K mg cs tg none "left_of" (top 21) f fd c T
  f_double_area : ∃ f fd c T, FnAt K mg cs tg none "double_area" (top 22) f fd c T
  f_law_area : ∃ f fd c T, FnAt K mg cs tg none "_law_area" (top 35) f fd c T
  f_corner_of : ∃ f fd c T, FnAt K mg cs tg none "corner_of" (top 19) f fd c T
  f_tried : ∃ f fd c T, FnAt K mg cs tg none "tried" (top 24) f fd c T
  f_stands : ∃ f fd c T, FnAt K mg cs tg none "stands" (top 12) f fd c T
  f_is_within : ∃ f fd c T, FnAt K mg cs tg none "is_within" (top 18) f fd c T
  f_a_point : ∃ f fd c T, FnAt K mg cs tg none "a_point" (top 23) f fd c T
  f_of_two : ∃ f fd c T, FnAt K mg cs tg none "of_two" (top 26) f fd c T
  f_of_three : ∃ f fd c T, FnAt K mg cs tg none "of_three" (top 27) f fd c T
  f_refutation : ∃ f fd c T, FnAt K mg cs tg none "refutation" (top 25) f fd c T
  f_is_ahead : ∃ f fd c T, FnAt K mg cs tg none "is_ahead" (top 29) f fd c T
  f_greatest : ∃ f fd c T, FnAt K mg cs tg none "greatest" (top 28) f fd c T
  f_law : ∃ f fd c T, FnAt K mg cs tg none "law" (top 36) f fd c T
variable {P : Program} {w : World} {K : PySem.W.Frag} {mg : Str → Option Value} {base : Heap} {cs : List (Addr × Addr)} {tg : Addr → Option Str}
def N_law_dice : List Str := ["cell"]
theorem S_law_dice : FnScope N_law_dice ["cell"] (defScope (top 31)) := sc_ok (by kernel_rfl)
def s_law_dice_1 : SM := (sRet (mLstS (aCons (mCallB bAbs (aCons (mVar 0) aNil)) (aCons (mC (.int 0)) (aCons (mC (.int 2)) aNil)))))
def s_law_dice_2 : SM := (sIf (tChain2 cLt cLt (mBin pSub (mC (.int 0)) (mC (.int 10))) (mVar 0) (mC (.int 10))) s_law_dice_1 sNil)
def s_law_dice_3 : SM := (sRet (mLstS (aCons (mVar 0) (aCons (mBin pAdd (mC (.int 1)) (mBin pMod (mCallB bInt (aCons (mVar 0) aNil)) (mC (.int 1009)))) (aCons (mCallB bInt (aCons (mBin cGe (mVar 0) (mBin pPow (mC (.int 10)) (mC (.int 18)))) aNil)) aNil)))))
def B_law_dice : SM := (sSeq s_law_dice_2 s_law_dice_3)
def M_law_dice : FM := fnM 1 B_law_dice
theorem cal_law_dice (h : Hy P K mg cs tg) (TB : ∀ p ∈ cs, TabB base mg p.1 p.2) : CalM P w K mg base (tbO cs tg) 1 "_law_dice" 1 M_law_dice := by
  obtain ⟨f, fd, c, T, F⟩ := h.f_law_dice
  refine mk_cal (k := 0) (N := N_law_dice) F S_law_dice TB (fun _ _ _ _ _ _ us hl => match us, hl with | [_], _ => rfl) fun A outer s H E D => ?_
  have S := S_law_dice
  exact (b_cons (s_if (t_chain (opv_lt (u64_of D.hr)) (opv_lt (u64_of D.hr)) (e_toR (e_bin opv_sub (e_toR e_int) (e_toR e_int))) (e_toR (e_var 0)) (e_toR e_int)) (b_one (s_ret (e_lstS (a_consF (e_callB (x := "abs") cv_abs (by rfl) h.n_abs boot_abs (a_consR (e_toR (e_var 0)) a_nil)) (a_consF e_int (a_consF e_int a_nil)))))) b_nil)
  (b_one (s_ret (e_lstS (a_consF (e_var 0) (a_consF (e_bin opv_add (e_toR e_int) (e_toR (e_bin opv_mod (e_toR (e_callT (x := "int") cv_int (by rfl) h.n_int boot_int (a_consR (e_toR (e_var 0)) a_nil))) (e_toR e_int)))) (a_consF (e_callT (x := "int") cv_int (by rfl) h.n_int boot_int (a_consR (e_toR (e_cmp (opv_ge (u64_of D.hr)) (e_toR (e_var 0)) (e_toR (e_bin opv_pow (e_toR e_int) (e_toR e_int))) rfl)) a_nil)) a_nil)))))))
def N_law_rounds : List Str := ["script", "most", "cells", "cell"]
theorem S_law_rounds : FnScope N_law_rounds ["script", "most"] (defScope (top 33)) := sc_ok (by kernel_rfl)
def s_law_rounds_1 : SM := (sSet 2 (mSlice (mVar 0) pN (pS (mVar 1))))
def s_law_rounds_2 : SM := (sSet 2 (mLst (aCons (mC (.int 0)) aNil)))
def s_law_rounds_3 : SM := (sIf (tBin cEq (mVar 2) (mLst aNil)) s_law_rounds_2 sNil)
def s_law_rounds_4 : SM := (sRet (mComp (iSeq (mVar 2)) (gNm 3) tYesM (mCall 1 M_law_dice (aCons (mVar 3) aNil)) [3]))
def B_law_rounds : SM := (sSeq s_law_rounds_1 (sSeq s_law_rounds_3 s_law_rounds_4))
def M_law_rounds : FM := fnM 4 B_law_rounds
theorem cal_law_rounds (h : Hy P K mg cs tg) (TB : ∀ p ∈ cs, TabB base mg p.1 p.2) : CalM P w K mg base (tbO cs tg) 2 "_law_rounds" 2 M_law_rounds := by
  obtain ⟨f, fd, c, T, F⟩ := h.f_law_rounds
  refine mk_cal (k := 1) (N := N_law_rounds) F S_law_rounds TB (fun _ _ _ _ _ _ us hl => match us, hl with | [_, _], _ => rfl) fun A outer s H E D => ?_
  have S := S_law_rounds
  exact (b_cons (s_set (i := 2) S.nd rfl (by first | exact Or.inl rfl | exact Or.inr rfl) (e_slice (e_toR (e_var 0)) p_none (p_some (e_toR (e_var 1)))))
  (b_cons (s_if (t_cmp (opv_eq (u64_of D.hr)) (e_toR (e_var 2)) (e_toR (e_toF (e_lst a_nil))) rfl) (b_one (s_set (i := 2) S.nd rfl (by first | exact Or.inl rfl | exact Or.inr rfl) (e_toF (e_lst (a_consF e_int a_nil))))) b_nil)
  (b_one (s_ret (e_toF (e_lc (own := [("cell", 3)]) D.cm S.nd (i_seq (e_var 2)) (blk_ok (by kernel_rfl)) (by exact fun _ _ _ _ _ => (g_name (i := 3) S.nd rfl (by first | exact Or.inl rfl | exact Or.inr rfl))) (by exact fun _ _ _ _ _ => ts_nil) (by exact fun _ _ _ _ _ => (e_call (cal_law_dice h TB) D.hr (by decide) rfl takesN (a_consF (e_var 3) a_nil)))))))))
def N_law_roll : List Str := ["dice", "many", "found"]
theorem S_law_roll : FnScope N_law_roll ["dice", "many"] (defScope (top 32)) := sc_ok (by kernel_rfl)
def s_law_roll_1 : SM := (sSet 2 (mBin pMod (mCallB bInt (aCons (mIx (mVar 0) (mC (.int 0))) aNil)) (mVar 1)))
def s_law_roll_2 : SM := (sSetIxS (mVar 0) (mC (.int 0)) (mBin pFdiv (mIx (mVar 0) (mC (.int 0))) (mVar 1)))
def s_law_roll_3 : SM := (sRet (mVar 2))
def s_law_roll_4 : SM := (sIf (tOrM (tBin cEq (mIx (mVar 0) (mC (.int 2))) (mC (.int 2))) (tAndM (tBin cEq (mIx (mVar 0) (mC (.int 2))) (mC (.int 1))) (tBin cGt (mIx (mVar 0) (mC (.int 0))) (mC (.int 0))))) (sSeq s_law_roll_1 (sSeq s_law_roll_2 s_law_roll_3)) sNil)
def s_law_roll_5 : SM := (sSetIxS (mVar 0) (mC (.int 2)) (mC (.int 0)))
def s_law_roll_6 : SM := (sSetIxS (mVar 0) (mC (.int 0)) (mBin pMod (mCallB bInt (aCons (mBin pAdd (mBin pAdd (mBin pMul (mIx (mVar 0) (mC (.int 0))) (mC (.int 48271))) (mBin pMul (mIx (mVar 0) (mC (.int 1))) (mC (.int 69621)))) (mC (.int 11))) aNil)) (mC (.int 2147483647))))
def s_law_roll_7 : SM := (sSetIxS (mVar 0) (mC (.int 1)) (mBin pAdd (mIx (mVar 0) (mC (.int 1))) (mC (.int 1))))
def s_law_roll_8 : SM := (sRet (mBin pMod (mCallB bInt (aCons (mBin pAdd (mBin pFdiv (mIx (mVar 0) (mC (.int 0))) (mC (.int 7))) (mIx (mVar 0) (mC (.int 0)))) aNil)) (mVar 1)))
def B_law_roll : SM := (sSeq s_law_roll_4 (sSeq s_law_roll_5 (sSeq s_law_roll_6 (sSeq s_law_roll_7 s_law_roll_8))))
def M_law_roll : FM := fnM 3 B_law_roll
theorem cal_law_roll (h : Hy P K mg cs tg) (TB : ∀ p ∈ cs, TabB base mg p.1 p.2) : CalM P w K mg base (tbO cs tg) 1 "_law_roll" 2 M_law_roll := by
  obtain ⟨f, fd, c, T, F⟩ := h.f_law_roll
  refine mk_cal (k := 0) (N := N_law_roll) F S_law_roll TB (fun _ _ _ _ _ _ us hl => match us, hl with | [_, _], _ => rfl) fun A outer s H E D => ?_
  have S := S_law_roll
  exact (b_cons (s_if (t_w (w_or (t_cmp (opv_eq (u64_of D.hr)) (e_toR (e_ix (e_toR (e_var 0)) (e_toR e_int) (fun _ _ => rfl))) (e_toR e_int) rfl) (w_or1 (t_w (w_and (t_cmp (opv_eq (u64_of D.hr)) (e_toR (e_ix (e_toR (e_var 0)) (e_toR e_int) (fun _ _ => rfl))) (e_toR e_int) rfl) (w_and1 (t_cmp (opv_gt (u64_of D.hr)) (e_toR (e_ix (e_toR (e_var 0)) (e_toR e_int) (fun _ _ => rfl))) (e_toR e_int) rfl))))))) (b_cons (s_set (i := 2) S.nd rfl (by first | exact Or.inl rfl | exact Or.inr rfl) (e_bin opv_mod (e_toR (e_callT (x := "int") cv_int (by rfl) h.n_int boot_int (a_consR (e_toR (e_ix (e_toR (e_var 0)) (e_toR e_int) (fun _ _ => rfl))) a_nil))) (e_toR (e_var 1))))
  (b_cons (s_setIxS (ps_asg (e_bin opv_fdiv (e_toR (e_ix (e_toR (e_var 0)) (e_toR e_int) (fun _ _ => rfl))) (e_toR (e_var 1))) (pg_sub (e_var 0) (e_toR e_int) set_list (fun _ => rfl))))
  (b_one (s_ret (e_var 2))))) b_nil)
  (b_cons (s_setIxS (ps_asg e_int (pg_sub (e_var 0) (e_toR e_int) set_list (fun _ => rfl))))
  (b_cons (s_setIxS (ps_asg (e_bin opv_mod (e_toR (e_callT (x := "int") cv_int (by rfl) h.n_int boot_int (a_consR (e_toR (e_bin opv_add (e_toR (e_bin opv_add (e_toR (e_bin opv_mul (e_toR (e_ix (e_toR (e_var 0)) (e_toR e_int) (fun _ _ => rfl))) (e_toR e_int))) (e_toR (e_bin opv_mul (e_toR (e_ix (e_toR (e_var 0)) (e_toR e_int) (fun _ _ => rfl))) (e_toR e_int))))) (e_toR e_int))) a_nil))) (e_toR e_int)) (pg_sub (e_var 0) (e_toR e_int) set_list (fun _ => rfl))))
  (b_cons (s_setIxS (ps_asg (e_bin opv_add (e_toR (e_ix (e_toR (e_var 0)) (e_toR e_int) (fun _ _ => rfl))) (e_toR e_int)) (pg_sub (e_var 0) (e_toR e_int) set_list (fun _ => rfl))))
  (b_one (s_ret (e_bin opv_mod (e_toR (e_callT (x := "int") cv_int (by rfl) h.n_int boot_int (a_consR (e_toR (e_bin opv_add (e_toR (e_bin opv_fdiv (e_toR (e_ix (e_toR (e_var 0)) (e_toR e_int) (fun _ _ => rfl))) (e_toR e_int))) (e_toR (e_ix (e_toR (e_var 0)) (e_toR e_int) (fun _ _ => rfl))))) a_nil))) (e_toR (e_var 1)))))))))
def N_law_point : List Str := ["dice", "most"]
theorem S_law_point : FnScope N_law_point ["dice", "most"] (defScope (top 34)) := sc_ok (by kernel_rfl)
def s_law_point_1 : SM := (sRet (mTup (aCons (mBin pSub (mCall 2 M_law_roll (aCons (mVar 0) (aCons (mBin pAdd (mBin pMul (mC (.int 2)) (mVar 1)) (mC (.int 1))) aNil))) (mVar 1)) (aCons (mBin pSub (mCall 2 M_law_roll (aCons (mVar 0) (aCons (mBin pAdd (mBin pMul (mC (.int 2)) (mVar 1)) (mC (.int 1))) aNil))) (mVar 1)) aNil))))
def B_law_point : SM := s_law_point_1
def M_law_point : FM := fnM 2 B_law_point
theorem cal_law_point (h : Hy P K mg cs tg) (TB : ∀ p ∈ cs, TabB base mg p.1 p.2) : CalM P w K mg base (tbO cs tg) 2 "_law_point" 2 M_law_point := by
  obtain ⟨f, fd, c, T, F⟩ := h.f_law_point
  refine mk_cal (k := 1) (N := N_law_point) F S_law_point TB (fun _ _ _ _ _ _ us hl => match us, hl with | [_, _], _ => rfl) fun A outer s H E D => ?_
  have S := S_law_point
  exact (b_one (s_ret (e_tup (a_consF (e_bin opv_sub (e_toR (e_call (cal_law_roll h TB) D.hr (by decide) rfl D.tk (a_consF (e_var 0) (a_consF (e_bin opv_add (e_toR (e_bin opv_mul (e_toR e_int) (e_toR (e_var 1)))) (e_toR e_int)) a_nil)))) (e_toR (e_var 1))) (a_consF (e_bin opv_sub (e_toR (e_call (cal_law_roll h TB) D.hr (by decide) rfl D.tk (a_consF (e_var 0) (a_consF (e_bin opv_add (e_toR (e_bin opv_mul (e_toR e_int) (e_toR (e_var 1)))) (e_toR e_int)) a_nil)))) (e_toR (e_var 1))) a_nil)))))
def N_is_whole : List Str := ["thing", "low", "high"]
theorem S_is_whole : FnScope N_is_whole ["thing", "low", "high"] (defScope (top 5)) := sc_ok (by kernel_rfl)
def s_is_whole_1 : SM := (sRet (eAnd (mIsi "int" (mVar 0)) (eAnd (eNot (mIsi "bool" (mVar 0))) (eChain cLe cLe (mVar 1) (mVar 0) (mVar 2)))))
def B_is_whole : SM := s_is_whole_1
def M_is_whole : FM := fnM 3 B_is_whole
theorem cal_is_whole (h : Hy P K mg cs tg) (TB : ∀ p ∈ cs, TabB base mg p.1 p.2) : CalM P w K mg base (tbO cs tg) 1 "is_whole" 3 M_is_whole := by
  obtain ⟨f, fd, c, T, F⟩ := h.f_is_whole
  refine mk_cal (k := 0) (N := N_is_whole) F S_is_whole TB (fun _ _ _ _ _ _ us hl => match us, hl with | [_, _, _], _ => rfl) fun A outer s H E D => ?_
  have S := S_is_whole
  exact (b_one (s_ret (e_and (e_isi (Ts := "int") (by decide) (by rfl) h.n_isinstance boot_isinstance (by rfl) h.n_int PyProof.Rows.boot_int (e_toR (e_var 0))) (e_and (e_not (e_toR (e_isi (Ts := "bool") (by decide) (by rfl) h.n_isinstance boot_isinstance (by rfl) h.n_bool PyProof.Rows.boot_bool (e_toR (e_var 0))))) (e_one (e_chain (opv_le (u64_of D.hr)) (opv_le (u64_of D.hr)) (e_toR (e_var 1)) (e_toR (e_var 0)) (e_toR (e_var 2))))))))
def N_is_bound : List Str := ["thing", "one"]
theorem S_is_bound : FnScope N_is_bound ["thing"] (defScope (top 15)) := sc_ok (by kernel_rfl)
def s_is_bound_1 : SM := (sRet (mC (.bl false)))
def s_is_bound_2 : SM := (sIf (tOrM (tNotM (tVal (mIsi "tuple" (mVar 0)))) (tOrM (tBin cNe (mCallB bLen (aCons (mVar 0) aNil)) (mC (.int 3))) (tNotM (tVal (mAllG (iSeq (mVar 0)) (gNm 1) tYesM (mCall 3 M_is_whole (aCons (mVar 1) (aCons (mUn pNeg (mC (.int 1000000))) (aCons (mC (.int 1000000)) aNil)))) [1]))))) s_is_bound_1 sNil)
def s_is_bound_3 : SM := (sRet (eOr (mBin cNe (mIx (mVar 0) (mC (.int 0))) (mC (.int 0))) (mBin cNe (mIx (mVar 0) (mC (.int 1))) (mC (.int 0)))))
def B_is_bound : SM := (sSeq s_is_bound_2 s_is_bound_3)
def M_is_bound : FM := fnM 2 B_is_bound
theorem cal_is_bound (h : Hy P K mg cs tg) (TB : ∀ p ∈ cs, TabB base mg p.1 p.2) : CalM P w K mg base (tbO cs tg) 5 "is_bound" 1 M_is_bound := by
  obtain ⟨f, fd, c, T, F⟩ := h.f_is_bound
  refine mk_cal (k := 4) (N := N_is_bound) F S_is_bound TB (fun _ _ _ _ _ _ us hl => match us, hl with | [_], _ => rfl) fun A outer s H E D => ?_
  have S := S_is_bound
  exact (b_cons (s_if (t_w (w_or (t_not (t_val (e_toR (e_isi (Ts := "tuple") (by decide) (by rfl) h.n_isinstance boot_isinstance (by rfl) h.n_tuple PyProof.Rows.boot_tuple (e_toR (e_var 0)))))) (w_or (t_cmp (opv_ne (u64_of D.hr)) (e_toR (e_callB (x := "len") cv_len (by rfl) h.n_len boot_len (a_consR (e_toR (e_var 0)) a_nil))) (e_toR e_int) rfl) (w_or1 (t_not (t_val (e_toR (e_allG (own := [("one", 1)]) boot_all D.mem D.cm (dp_of D.hr) rfl h.n_all D.tab D.cd (gn_ok (by kernel_rfl)) S.nd (i_seq (e_var 0)) (by exact fun _ _ _ _ _ => (g_name (i := 1) S.nd rfl (by first | exact Or.inl rfl | exact Or.inr rfl))) (by exact fun _ _ _ _ _ => ts_nil) (by exact fun _ _ _ _ _ => (e_call (cal_is_whole h TB) (D.hr.in1.in1.deeper _) (by decide) rfl takesN (a_consF (e_var 1) (a_consF (e_neg (e_toR (e_glo (x := "FAR") (by rfl) h.c_FAR))) (a_consF (e_glo (x := "FAR") (by rfl) h.c_FAR) a_nil))))))))))))) (b_one (s_ret e_bl)) b_nil)
  (b_one (s_ret (e_or (e_cmp (opv_ne (u64_of D.hr)) (e_toR (e_ix (e_toR (e_var 0)) (e_toR e_int) (fun _ _ => rfl))) (e_toR e_int) rfl) (e_one (e_cmp (opv_ne (u64_of D.hr)) (e_toR (e_ix (e_toR (e_var 0)) (e_toR e_int) (fun _ _ => rfl))) (e_toR e_int) rfl))))))
def N_check_bounds : List Str := ["row", "bound"]
theorem S_check_bounds : FnScope N_check_bounds ["row"] (defScope (top 16)) := sc_ok (by kernel_rfl)
def s_check_bounds_1 : SM := (sRaise "BadNumber")
def s_check_bounds_2 : SM := (sIf (tNotM (tVal (mCall 1 M_is_bound (aCons (mVar 1) aNil)))) s_check_bounds_1 sNil)
def s_check_bounds_3 : SM := (sFor (iSeq (mVar 0)) (gNm 1)
  s_check_bounds_2 [1])
def B_check_bounds : SM := s_check_bounds_3
def M_check_bounds : FM := fnM 2 B_check_bounds
theorem cal_check_bounds (h : Hy P K mg cs tg) (TB : ∀ p ∈ cs, TabB base mg p.1 p.2) : CalM P w K mg base (tbO cs tg) 6 "check_bounds" 1 M_check_bounds := by
  obtain ⟨f, fd, c, T, F⟩ := h.f_check_bounds
  refine mk_cal (k := 5) (N := N_check_bounds) F S_check_bounds TB (fun _ _ _ _ _ _ us hl => match us, hl with | [_], _ => rfl) fun A outer s H E D => ?_
  have S := S_check_bounds
  exact (b_one (s_for (passes_of rfl) D.cm (i_seq (e_var 0)) (g_name (i := 1) S.nd rfl (by first | exact Or.inl rfl | exact Or.inr rfl))
  (b_one (s_if (t_not (t_val (e_toR (e_call (cal_is_bound h TB) D.hr (by decide) rfl D.tk (a_consF (e_var 1) a_nil))))) (b_one (s_raise h.r_BadNumber D.cm D.tk rfl)) b_nil)) [1]))
def N_common : List Str := ["one", "other"]
theorem S_common : FnScope N_common ["one", "other"] (defScope (top 6)) := sc_ok (by kernel_rfl)
def s_common_1 : SM := (sPar [0, 1] (vF (mCallB bAbs (aCons (mVar 0) aNil)) (vF (mCallB bAbs (aCons (mVar 1) aNil)) vNil)))
def s_common_2 : SM := (sPar [0, 1] (vF (mVar 1) (vF (mBin pMod (mVar 0) (mVar 1)) vNil)))
def s_common_3 : SM := (sWhile 20000 (tBin cNe (mVar 1) (mC (.int 0)))
  s_common_2 [])
def s_common_4 : SM := (sRet (mVar 0))
def B_common : SM := (sSeq s_common_1 (sSeq s_common_3 s_common_4))
def M_common : FM := fnM 2 B_common
theorem cal_common (h : Hy P K mg cs tg) (TB : ∀ p ∈ cs, TabB base mg p.1 p.2) : CalM P w K mg base (tbO cs tg) 1 "common" 2 M_common := by
  obtain ⟨f, fd, c, T, F⟩ := h.f_common
  refine mk_cal (k := 0) (N := N_common) F S_common TB (fun _ _ _ _ _ _ us hl => match us, hl with | [_, _], _ => rfl) fun A outer s H E D => ?_
  have S := S_common
  exact (b_cons (s_par2 (ps_par (i := 0) (j := 1) D.cm S.nd rfl rfl (by decide) rfl rfl (v_F (e_callB (x := "abs") cv_abs (by rfl) h.n_abs boot_abs (a_consR (e_toR (e_var 0)) a_nil)) (v_F (e_callB (x := "abs") cv_abs (by rfl) h.n_abs boot_abs (a_consR (e_toR (e_var 1)) a_nil)) v_nil)) (by rfl)))
  (b_cons (s_while 20000 (passes_of rfl) (t_cmp (opv_ne (u64_of D.hr)) (e_toR (e_var 1)) (e_toR e_int) rfl)
  (b_one (s_par2 (ps_par (i := 0) (j := 1) D.cm S.nd rfl rfl (by decide) rfl rfl (v_F (e_var 1) (v_F (e_bin opv_mod (e_toR (e_var 0)) (e_toR (e_var 1))) v_nil)) (by rfl)))) [])
  (b_one (s_ret (e_var 0)))))
def N_part : List Str := ["over", "under", "shared"]
theorem S_part : FnScope N_part ["over", "under"] (defScope (top 7)) := sc_ok (by kernel_rfl)
def s_part_1 : SM := (sRaise "BadNumber")
def s_part_2 : SM := (sIf (tBin cEq (mVar 1) (mC (.int 0))) s_part_1 sNil)
def s_part_3 : SM := (sPar [0, 1] (vF (mUn pNeg (mVar 0)) (vF (mUn pNeg (mVar 1)) vNil)))
def s_part_4 : SM := (sIf (tBin cLt (mVar 1) (mC (.int 0))) s_part_3 sNil)
def s_part_5 : SM := (sSet 2 (mCall 2 M_common (aCons (mVar 0) (aCons (mVar 1) aNil))))
def s_part_6 : SM := (sRet (mTup (aCons (mBin pFdiv (mVar 0) (mVar 2)) (aCons (mBin pFdiv (mVar 1) (mVar 2)) aNil))))
def B_part : SM := (sSeq s_part_2 (sSeq s_part_4 (sSeq s_part_5 s_part_6)))
def M_part : FM := fnM 3 B_part
theorem cal_part (h : Hy P K mg cs tg) (TB : ∀ p ∈ cs, TabB base mg p.1 p.2) : CalM P w K mg base (tbO cs tg) 2 "part" 2 M_part := by
  obtain ⟨f, fd, c, T, F⟩ := h.f_part
  refine mk_cal (k := 1) (N := N_part) F S_part TB (fun _ _ _ _ _ _ us hl => match us, hl with | [_, _], _ => rfl) fun A outer s H E D => ?_
  have S := S_part
  exact (b_cons (s_if (t_cmp (opv_eq (u64_of D.hr)) (e_toR (e_var 1)) (e_toR e_int) rfl) (b_one (s_raise h.r_BadNumber D.cm D.tk rfl)) b_nil)
  (b_cons (s_if (t_cmp (opv_lt (u64_of D.hr)) (e_toR (e_var 1)) (e_toR e_int) rfl) (b_one (s_par2 (ps_par (i := 0) (j := 1) D.cm S.nd rfl rfl (by decide) rfl rfl (v_F (e_neg (e_toR (e_var 0))) (v_F (e_neg (e_toR (e_var 1))) v_nil)) (by rfl)))) b_nil)
  (b_cons (s_set (i := 2) S.nd rfl (by first | exact Or.inl rfl | exact Or.inr rfl) (e_call (cal_common h TB) D.hr (by decide) rfl D.tk (a_consF (e_var 0) (a_consF (e_var 1) a_nil))))
  (b_one (s_ret (e_tup (a_consF (e_bin opv_fdiv (e_toR (e_var 0)) (e_toR (e_var 2))) (a_consF (e_bin opv_fdiv (e_toR (e_var 1)) (e_toR (e_var 2))) a_nil))))))))
def N_times : List Str := ["one", "other"]
theorem S_times : FnScope N_times ["one", "other"] (defScope (top 10)) := sc_ok (by kernel_rfl)
def s_times_1 : SM := (sRet (mCall 2 M_part (aCons (mBin pMul (mIx (mVar 0) (mC (.int 0))) (mIx (mVar 1) (mC (.int 0)))) (aCons (mBin pMul (mIx (mVar 0) (mC (.int 1))) (mIx (mVar 1) (mC (.int 1)))) aNil))))
def B_times : SM := s_times_1
def M_times : FM := fnM 2 B_times
theorem cal_times (h : Hy P K mg cs tg) (TB : ∀ p ∈ cs, TabB base mg p.1 p.2) : CalM P w K mg base (tbO cs tg) 3 "times" 2 M_times := by
  obtain ⟨f, fd, c, T, F⟩ := h.f_times
  refine mk_cal (k := 2) (N := N_times) F S_times TB (fun _ _ _ _ _ _ us hl => match us, hl with | [_, _], _ => rfl) fun A outer s H E D => ?_
  have S := S_times
  exact (b_one (s_ret (e_call (cal_part h TB) D.hr (by decide) rfl D.tk (a_consF (e_bin opv_mul (e_toR (e_ix (e_toR (e_var 0)) (e_toR e_int) (fun _ _ => rfl))) (e_toR (e_ix (e_toR (e_var 1)) (e_toR e_int) (fun _ _ => rfl)))) (a_consF (e_bin opv_mul (e_toR (e_ix (e_toR (e_var 0)) (e_toR e_int) (fun _ _ => rfl))) (e_toR (e_ix (e_toR (e_var 1)) (e_toR e_int) (fun _ _ => rfl)))) a_nil)))))
def N_plus : List Str := ["one", "other"]
theorem S_plus : FnScope N_plus ["one", "other"] (defScope (top 8)) := sc_ok (by kernel_rfl)
def s_plus_1 : SM := (sRet (mCall 2 M_part (aCons (mBin pAdd (mBin pMul (mIx (mVar 0) (mC (.int 0))) (mIx (mVar 1) (mC (.int 1)))) (mBin pMul (mIx (mVar 1) (mC (.int 0))) (mIx (mVar 0) (mC (.int 1))))) (aCons (mBin pMul (mIx (mVar 0) (mC (.int 1))) (mIx (mVar 1) (mC (.int 1)))) aNil))))
def B_plus : SM := s_plus_1
def M_plus : FM := fnM 2 B_plus
theorem cal_plus (h : Hy P K mg cs tg) (TB : ∀ p ∈ cs, TabB base mg p.1 p.2) : CalM P w K mg base (tbO cs tg) 3 "plus" 2 M_plus := by
  obtain ⟨f, fd, c, T, F⟩ := h.f_plus
  refine mk_cal (k := 2) (N := N_plus) F S_plus TB (fun _ _ _ _ _ _ us hl => match us, hl with | [_, _], _ => rfl) fun A outer s H E D => ?_
  have S := S_plus
  exact (b_one (s_ret (e_call (cal_part h TB) D.hr (by decide) rfl D.tk (a_consF (e_bin opv_add (e_toR (e_bin opv_mul (e_toR (e_ix (e_toR (e_var 0)) (e_toR e_int) (fun _ _ => rfl))) (e_toR (e_ix (e_toR (e_var 1)) (e_toR e_int) (fun _ _ => rfl))))) (e_toR (e_bin opv_mul (e_toR (e_ix (e_toR (e_var 1)) (e_toR e_int) (fun _ _ => rfl))) (e_toR (e_ix (e_toR (e_var 0)) (e_toR e_int) (fun _ _ => rfl)))))) (a_consF (e_bin opv_mul (e_toR (e_ix (e_toR (e_var 0)) (e_toR e_int) (fun _ _ => rfl))) (e_toR (e_ix (e_toR (e_var 1)) (e_toR e_int) (fun _ _ => rfl)))) a_nil)))))
def N_minus : List Str := ["one", "other"]
theorem S_minus : FnScope N_minus ["one", "other"] (defScope (top 9)) := sc_ok (by kernel_rfl)
def s_minus_1 : SM := (sRet (mCall 2 M_part (aCons (mBin pSub (mBin pMul (mIx (mVar 0) (mC (.int 0))) (mIx (mVar 1) (mC (.int 1)))) (mBin pMul (mIx (mVar 1) (mC (.int 0))) (mIx (mVar 0) (mC (.int 1))))) (aCons (mBin pMul (mIx (mVar 0) (mC (.int 1))) (mIx (mVar 1) (mC (.int 1)))) aNil))))
def B_minus : SM := s_minus_1
def M_minus : FM := fnM 2 B_minus
theorem cal_minus (h : Hy P K mg cs tg) (TB : ∀ p ∈ cs, TabB base mg p.1 p.2) : CalM P w K mg base (tbO cs tg) 3 "minus" 2 M_minus := by
  obtain ⟨f, fd, c, T, F⟩ := h.f_minus
  refine mk_cal (k := 2) (N := N_minus) F S_minus TB (fun _ _ _ _ _ _ us hl => match us, hl with | [_, _], _ => rfl) fun A outer s H E D => ?_
  have S := S_minus
  exact (b_one (s_ret (e_call (cal_part h TB) D.hr (by decide) rfl D.tk (a_consF (e_bin opv_sub (e_toR (e_bin opv_mul (e_toR (e_ix (e_toR (e_var 0)) (e_toR e_int) (fun _ _ => rfl))) (e_toR (e_ix (e_toR (e_var 1)) (e_toR e_int) (fun _ _ => rfl))))) (e_toR (e_bin opv_mul (e_toR (e_ix (e_toR (e_var 1)) (e_toR e_int) (fun _ _ => rfl))) (e_toR (e_ix (e_toR (e_var 0)) (e_toR e_int) (fun _ _ => rfl)))))) (a_consF (e_bin opv_mul (e_toR (e_ix (e_toR (e_var 0)) (e_toR e_int) (fun _ _ => rfl))) (e_toR (e_ix (e_toR (e_var 1)) (e_toR e_int) (fun _ _ => rfl)))) a_nil)))))
def N_value : List Str := ["bound", "point", "a", "b", "c"]
theorem S_value : FnScope N_value ["bound", "point"] (defScope (top 17)) := sc_ok (by kernel_rfl)
def s_value_1 : SM := (sAsg (gTp 3 (gConsM (gNm 2) (gConsM (gNm 3) (gConsM (gNm 4) gNilM)))) (mVar 0))
def s_value_2 : SM := (sRet (mCall 2 M_minus (aCons (mCall 2 M_plus (aCons (mCall 2 M_times (aCons (mTup (aCons (mVar 2) (aCons (mC (.int 1)) aNil))) (aCons (mIx (mVar 1) (mC (.int 0))) aNil))) (aCons (mCall 2 M_times (aCons (mTup (aCons (mVar 3) (aCons (mC (.int 1)) aNil))) (aCons (mIx (mVar 1) (mC (.int 1))) aNil))) aNil))) (aCons (mTup (aCons (mVar 4) (aCons (mC (.int 1)) aNil))) aNil))))
def B_value : SM := (sSeq s_value_1 s_value_2)
def M_value : FM := fnM 5 B_value
theorem cal_value (h : Hy P K mg cs tg) (TB : ∀ p ∈ cs, TabB base mg p.1 p.2) : CalM P w K mg base (tbO cs tg) 4 "value" 2 M_value := by
  obtain ⟨f, fd, c, T, F⟩ := h.f_value
  refine mk_cal (k := 3) (N := N_value) F S_value TB (fun _ _ _ _ _ _ us hl => match us, hl with | [_, _], _ => rfl) fun A outer s H E D => ?_
  have S := S_value
  exact (b_cons (s_asg (e_var 0) (g_tup D.cm (gs_cons (g_name (i := 2) S.nd rfl (by first | exact Or.inl rfl | exact Or.inr rfl)) (gs_cons (g_name (i := 3) S.nd rfl (by first | exact Or.inl rfl | exact Or.inr rfl)) (gs_cons (g_name (i := 4) S.nd rfl (by first | exact Or.inl rfl | exact Or.inr rfl)) gs_nil)))))
  (b_one (s_ret (e_call (cal_minus h TB) D.hr (by decide) rfl D.tk (a_consF (e_call (cal_plus h TB) D.hr (by decide) rfl D.tk (a_consF (e_call (cal_times h TB) D.hr (by decide) rfl D.tk (a_consF (e_tup (a_consF (e_var 2) (a_consF e_int a_nil))) (a_consF (e_ix (e_toR (e_var 1)) (e_toR e_int) (fun _ _ => rfl)) a_nil))) (a_consF (e_call (cal_times h TB) D.hr (by decide) rfl D.tk (a_consF (e_tup (a_consF (e_var 3) (a_consF e_int a_nil))) (a_consF (e_ix (e_toR (e_var 1)) (e_toR e_int) (fun _ _ => rfl)) a_nil))) a_nil))) (a_consF (e_tup (a_consF (e_var 4) (a_consF e_int a_nil))) a_nil))))))
def N_over : List Str := ["one", "other"]
theorem S_over : FnScope N_over ["one", "other"] (defScope (top 11)) := sc_ok (by kernel_rfl)
def s_over_1 : SM := (sRet (mCall 2 M_part (aCons (mBin pMul (mIx (mVar 0) (mC (.int 0))) (mIx (mVar 1) (mC (.int 1)))) (aCons (mBin pMul (mIx (mVar 0) (mC (.int 1))) (mIx (mVar 1) (mC (.int 0)))) aNil))))
def B_over : SM := s_over_1
def M_over : FM := fnM 2 B_over
theorem cal_over (h : Hy P K mg cs tg) (TB : ∀ p ∈ cs, TabB base mg p.1 p.2) : CalM P w K mg base (tbO cs tg) 3 "over" 2 M_over := by
  obtain ⟨f, fd, c, T, F⟩ := h.f_over
  refine mk_cal (k := 2) (N := N_over) F S_over TB (fun _ _ _ _ _ _ us hl => match us, hl with | [_, _], _ => rfl) fun A outer s H E D => ?_
  have S := S_over
  exact (b_one (s_ret (e_call (cal_part h TB) D.hr (by decide) rfl D.tk (a_consF (e_bin opv_mul (e_toR (e_ix (e_toR (e_var 0)) (e_toR e_int) (fun _ _ => rfl))) (e_toR (e_ix (e_toR (e_var 1)) (e_toR e_int) (fun _ _ => rfl)))) (a_consF (e_bin opv_mul (e_toR (e_ix (e_toR (e_var 0)) (e_toR e_int) (fun _ _ => rfl))) (e_toR (e_ix (e_toR (e_var 1)) (e_toR e_int) (fun _ _ => rfl)))) a_nil)))))
def N_cut : List Str := ["corners", "bound", "found", "k", "one", "other", "first", "second", "much", "x", "y", "point"]
theorem S_cut : FnScope N_cut ["corners", "bound"] (defScope (top 20)) := sc_ok (by kernel_rfl)
def s_cut_1 : SM := (sSetO 2 (mLst aNil))
def s_cut_2 : SM := (sPar [4, 5] (vF (mIx (mVar 0) (mBin pSub (mVar 3) (mC (.int 1)))) (vF (mIx (mVar 0) (mVar 3)) vNil)))
def s_cut_3 : SM := (sPar [6, 7] (vF (mCall 2 M_value (aCons (mVar 1) (aCons (mVar 4) aNil))) (vF (mCall 2 M_value (aCons (mVar 1) (aCons (mVar 5) aNil))) vNil)))
def s_cut_4 : SM := (sSet 8 (mCall 2 M_over (aCons (mVar 6) (aCons (mCall 2 M_minus (aCons (mVar 6) (aCons (mVar 7) aNil))) aNil))))
def s_cut_5 : SM := (sSet 9 (mCall 2 M_plus (aCons (mIx (mVar 4) (mC (.int 0))) (aCons (mCall 2 M_times (aCons (mVar 8) (aCons (mCall 2 M_minus (aCons (mIx (mVar 5) (mC (.int 0))) (aCons (mIx (mVar 4) (mC (.int 0))) aNil))) aNil))) aNil))))
def s_cut_6 : SM := (sSet 10 (mCall 2 M_plus (aCons (mIx (mVar 4) (mC (.int 1))) (aCons (mCall 2 M_times (aCons (mVar 8) (aCons (mCall 2 M_minus (aCons (mIx (mVar 5) (mC (.int 1))) (aCons (mIx (mVar 4) (mC (.int 1))) aNil))) aNil))) aNil))))
def s_cut_7 : SM := (sAppend 2 (mTup (aCons (mVar 9) (aCons (mVar 10) aNil))))
def s_cut_8 : SM := (sIf (tBin cLt (mBin pMul (mIx (mVar 6) (mC (.int 0))) (mIx (mVar 7) (mC (.int 0)))) (mC (.int 0))) (sSeq s_cut_4 (sSeq s_cut_5 (sSeq s_cut_6 s_cut_7))) sNil)
def s_cut_9 : SM := (sAppend 2 (mVar 5))
def s_cut_10 : SM := (sIf (tBin cLe (mIx (mVar 7) (mC (.int 0))) (mC (.int 0))) s_cut_9 sNil)
def s_cut_11 : SM := (sFor (iRng1M (aCons (mCallB bLen (aCons (mVar 0) aNil)) aNil)) (gNm 3)
  (sSeq s_cut_2 (sSeq s_cut_3 (sSeq s_cut_8 s_cut_10))) [3, 4, 5, 6, 7, 8, 9, 10])
def s_cut_12 : SM := (sFrz 2 (sRet (mCallB bTuple (aCons (mComp (iEnumM (aCons (mVar 2) aNil)) (gTp 2 (gConsM (gNm 3) (gConsM (gNm 11) gNilM))) (tOrM (tBin cNe (mVar 11) (mIx (mVar 2) (mBin pSub (mVar 3) (mC (.int 1))))) (tBin cEq (mCallB bLen (aCons (mVar 2) aNil)) (mC (.int 1)))) (mVar 11) [3, 11]) aNil))))
def B_cut : SM := (sSeq s_cut_1 (sSeq s_cut_11 s_cut_12))
def M_cut : FM := fnM 12 B_cut
theorem cal_cut (h : Hy P K mg cs tg) (TB : ∀ p ∈ cs, TabB base mg p.1 p.2) : CalM P w K mg base (tbO cs tg) 5 "cut" 2 M_cut := by
  obtain ⟨f, fd, c, T, F⟩ := h.f_cut
  refine mk_cal (k := 4) (N := N_cut) F S_cut TB (fun _ _ _ _ _ _ us hl => match us, hl with | [_, _], _ => rfl) fun A outer s H E D => ?_
  have S := S_cut
  exact (b_cons (s_setO (i := 2) S.nd rfl (by first | exact Or.inl rfl | exact Or.inr rfl) (e_lst a_nil))
  (b_cons (s_for (passes_of rfl) D.cm (i_range1 rfl h.n_range (a_consR (e_toR (e_callB (x := "len") cv_len (by rfl) h.n_len boot_len (a_consR (e_toR (e_var 0)) a_nil))) a_nil)) (g_name (i := 3) S.nd rfl (by first | exact Or.inl rfl | exact Or.inr rfl))
  (b_cons (s_par2 (ps_par (i := 4) (j := 5) D.cm S.nd rfl rfl (by decide) rfl rfl (v_F (e_ix (e_toR (e_var 0)) (e_toR (e_bin opv_sub (e_toR (e_var 3)) (e_toR e_int))) (fun _ _ => rfl)) (v_F (e_ix (e_toR (e_var 0)) (e_toR (e_var 3)) (fun _ _ => rfl)) v_nil)) (by rfl)))
  (b_cons (s_par2 (ps_par (i := 6) (j := 7) D.cm S.nd rfl rfl (by decide) rfl rfl (v_F (e_call (cal_value h TB) D.hr (by decide) rfl D.tk (a_consF (e_var 1) (a_consF (e_var 4) a_nil))) (v_F (e_call (cal_value h TB) D.hr (by decide) rfl D.tk (a_consF (e_var 1) (a_consF (e_var 5) a_nil))) v_nil)) (by rfl)))
  (b_cons (s_if (t_cmp (opv_lt (u64_of D.hr)) (e_toR (e_bin opv_mul (e_toR (e_ix (e_toR (e_var 6)) (e_toR e_int) (fun _ _ => rfl))) (e_toR (e_ix (e_toR (e_var 7)) (e_toR e_int) (fun _ _ => rfl))))) (e_toR e_int) rfl) (b_cons (s_set (i := 8) S.nd rfl (by first | exact Or.inl rfl | exact Or.inr rfl) (e_call (cal_over h TB) D.hr (by decide) rfl D.tk (a_consF (e_var 6) (a_consF (e_call (cal_minus h TB) D.hr (by decide) rfl D.tk (a_consF (e_var 6) (a_consF (e_var 7) a_nil))) a_nil))))
  (b_cons (s_set (i := 9) S.nd rfl (by first | exact Or.inl rfl | exact Or.inr rfl) (e_call (cal_plus h TB) D.hr (by decide) rfl D.tk (a_consF (e_ix (e_toR (e_var 4)) (e_toR e_int) (fun _ _ => rfl)) (a_consF (e_call (cal_times h TB) D.hr (by decide) rfl D.tk (a_consF (e_var 8) (a_consF (e_call (cal_minus h TB) D.hr (by decide) rfl D.tk (a_consF (e_ix (e_toR (e_var 5)) (e_toR e_int) (fun _ _ => rfl)) (a_consF (e_ix (e_toR (e_var 4)) (e_toR e_int) (fun _ _ => rfl)) a_nil))) a_nil))) a_nil))))
  (b_cons (s_set (i := 10) S.nd rfl (by first | exact Or.inl rfl | exact Or.inr rfl) (e_call (cal_plus h TB) D.hr (by decide) rfl D.tk (a_consF (e_ix (e_toR (e_var 4)) (e_toR e_int) (fun _ _ => rfl)) (a_consF (e_call (cal_times h TB) D.hr (by decide) rfl D.tk (a_consF (e_var 8) (a_consF (e_call (cal_minus h TB) D.hr (by decide) rfl D.tk (a_consF (e_ix (e_toR (e_var 5)) (e_toR e_int) (fun _ _ => rfl)) (a_consF (e_ix (e_toR (e_var 4)) (e_toR e_int) (fun _ _ => rfl)) a_nil))) a_nil))) a_nil))))
  (b_one (s_append (ps_expr (pe_bm PySem.F.plainAttrs_list PySem.F.slot_list_append PySem.F.type_list_append mt_append (pv 2) (pa_cons (e_tup (a_consF (e_var 9) (a_consF (e_var 10) a_nil))) pa_nil)))))))) b_nil)
  (b_one (s_if (t_cmp (opv_le (u64_of D.hr)) (e_toR (e_ix (e_toR (e_var 7)) (e_toR e_int) (fun _ _ => rfl))) (e_toR e_int) rfl) (b_one (s_append (ps_expr (pe_bm PySem.F.plainAttrs_list PySem.F.slot_list_append PySem.F.type_list_append mt_append (pv 2) (pa_cons (e_var 5) pa_nil))))) b_nil))))) [3, 4, 5, 6, 7, 8, 9, 10])
  (b_one (s_frz (i := 2) (s_ret (e_callT (x := "tuple") cv_tuple (by rfl) h.n_tuple boot_tuple (a_consR (e_toR (e_toF (e_lc (own := [("k", 3), ("point", 11)]) D.cm S.nd (i_enum rfl h.n_enumerate (a_consF (e_var 2) a_nil)) (blk_ok (by kernel_rfl)) (by exact fun _ _ _ _ _ => (g_tup D.cm (gs_cons (g_name (i := 3) S.nd rfl (by first | exact Or.inl rfl | exact Or.inr rfl)) (gs_cons (g_name (i := 11) S.nd rfl (by first | exact Or.inl rfl | exact Or.inr rfl)) gs_nil)))) (by exact fun _ _ _ _ _ => (ts_one (t_w (w_or (t_cmp (opv_ne (u64_of D.hr)) (e_toR (e_var 11)) (e_toR (e_ix (e_toR (e_var 2)) (e_toR (e_bin opv_sub (e_toR (e_var 3)) (e_toR e_int))) (fun _ _ => rfl))) rfl) (w_or1 (t_cmp (opv_eq (u64_of D.hr)) (e_toR (e_callB (x := "len") cv_len (by rfl) h.n_len boot_len (a_consR (e_toR (e_var 2)) a_nil))) (e_toR e_int) rfl)))))) (by exact fun _ _ _ _ _ => (e_var 11))))) a_nil)))))))
def N_left_of : List Str := ["row", "box", "left", "low", "right", "high", "corners", "bound", "x", "y"]
theorem S_left_of : FnScope N_left_of ["row", "box"] (defScope (top 21)) := sc_ok (by kernel_rfl)
def s_left_of_1 : SM := (sExpr (mCall 1 M_check_bounds (aCons (mVar 0) aNil)))
def s_left_of_2 : SM := (sAsg (gTp 4 (gConsM (gNm 2) (gConsM (gNm 3) (gConsM (gNm 4) (gConsM (gNm 5) gNilM))))) (mVar 1))
def s_left_of_3 : SM := (sRaise "BadShape")
def s_left_of_4 : SM := (sIf (tOrM (tNotM (tBin cLt (mVar 2) (mVar 4))) (tNotM (tBin cLt (mVar 3) (mVar 5)))) s_left_of_3 sNil)
def s_left_of_5 : SM := (sSet 6 (mCallB bTuple (aCons (mComp (iSeq (mTup (aCons (mTup (aCons (mVar 2) (aCons (mVar 3) aNil))) (aCons (mTup (aCons (mVar 4) (aCons (mVar 3) aNil))) (aCons (mTup (aCons (mVar 4) (aCons (mVar 5) aNil))) (aCons (mTup (aCons (mVar 2) (aCons (mVar 5) aNil))) aNil)))))) (gTp 2 (gConsM (gNm 8) (gConsM (gNm 9) gNilM))) tYesM (mTup (aCons (mCall 2 M_part (aCons (mVar 8) (aCons (mC (.int 1)) aNil))) (aCons (mCall 2 M_part (aCons (mVar 9) (aCons (mC (.int 1)) aNil))) aNil))) [8, 9]) aNil)))
def s_left_of_6 : SM := (sSet 6 (mCall 2 M_cut (aCons (mVar 6) (aCons (mVar 7) aNil))))
def s_left_of_7 : SM := (sFor (iSeq (mVar 0)) (gNm 7)
  s_left_of_6 [7])
def s_left_of_8 : SM := (sRet (mVar 6))
def B_left_of : SM := (sSeq s_left_of_1 (sSeq s_left_of_2 (sSeq s_left_of_4 (sSeq s_left_of_5 (sSeq s_left_of_7 s_left_of_8)))))
def M_left_of : FM := fnM 10 B_left_of
theorem cal_left_of (h : Hy P K mg cs tg) (TB : ∀ p ∈ cs, TabB base mg p.1 p.2) : CalM P w K mg base (tbO cs tg) 7 "left_of" 2 M_left_of := by
  obtain ⟨f, fd, c, T, F⟩ := h.f_left_of
  refine mk_cal (k := 6) (N := N_left_of) F S_left_of TB (fun _ _ _ _ _ _ us hl => match us, hl with | [_, _], _ => rfl) fun A outer s H E D => ?_
  have S := S_left_of
  exact (b_cons (s_expr (e_call (cal_check_bounds h TB) D.hr (by decide) rfl D.tk (a_consF (e_var 0) a_nil)))
  (b_cons (s_asg (e_var 1) (g_tup D.cm (gs_cons (g_name (i := 2) S.nd rfl (by first | exact Or.inl rfl | exact Or.inr rfl)) (gs_cons (g_name (i := 3) S.nd rfl (by first | exact Or.inl rfl | exact Or.inr rfl)) (gs_cons (g_name (i := 4) S.nd rfl (by first | exact Or.inl rfl | exact Or.inr rfl)) (gs_cons (g_name (i := 5) S.nd rfl (by first | exact Or.inl rfl | exact Or.inr rfl)) gs_nil))))))
  (b_cons (s_if (t_w (w_or (t_not (t_cmp (opv_lt (u64_of D.hr)) (e_toR (e_var 2)) (e_toR (e_var 4)) rfl)) (w_or1 (t_not (t_cmp (opv_lt (u64_of D.hr)) (e_toR (e_var 3)) (e_toR (e_var 5)) rfl))))) (b_one (s_raise h.r_BadShape D.cm D.tk rfl)) b_nil)
  (b_cons (s_set (i := 6) S.nd rfl (by first | exact Or.inl rfl | exact Or.inr rfl) (e_callT (x := "tuple") cv_tuple (by rfl) h.n_tuple boot_tuple (a_consR (e_toR (e_toF (e_lc (own := [("x", 8), ("y", 9)]) D.cm S.nd (i_seq (e_tup (a_consF (e_tup (a_consF (e_var 2) (a_consF (e_var 3) a_nil))) (a_consF (e_tup (a_consF (e_var 4) (a_consF (e_var 3) a_nil))) (a_consF (e_tup (a_consF (e_var 4) (a_consF (e_var 5) a_nil))) (a_consF (e_tup (a_consF (e_var 2) (a_consF (e_var 5) a_nil))) a_nil)))))) (blk_ok (by kernel_rfl)) (by exact fun _ _ _ _ _ => (g_tup D.cm (gs_cons (g_name (i := 8) S.nd rfl (by first | exact Or.inl rfl | exact Or.inr rfl)) (gs_cons (g_name (i := 9) S.nd rfl (by first | exact Or.inl rfl | exact Or.inr rfl)) gs_nil)))) (by exact fun _ _ _ _ _ => ts_nil) (by exact fun _ _ _ _ _ => (e_tup (a_consF (e_call (cal_part h TB) D.hr (by decide) rfl takesN (a_consF (e_var 8) (a_consF e_int a_nil))) (a_consF (e_call (cal_part h TB) D.hr (by decide) rfl takesN (a_consF (e_var 9) (a_consF e_int a_nil))) a_nil))))))) a_nil)))
  (b_cons (s_for (passes_of rfl) D.cm (i_seq (e_var 0)) (g_name (i := 7) S.nd rfl (by first | exact Or.inl rfl | exact Or.inr rfl))
  (b_one (s_set (i := 6) S.nd rfl (by first | exact Or.inl rfl | exact Or.inr rfl) (e_call (cal_cut h TB) D.hr (by decide) rfl D.tk (a_consF (e_var 6) (a_consF (e_var 7) a_nil))))) [7])
  (b_one (s_ret (e_var 6))))))))
def N_double_area : List Str := ["corners", "found", "k", "one", "other"]
theorem S_double_area : FnScope N_double_area ["corners"] (defScope (top 22)) := sc_ok (by kernel_rfl)
def s_double_area_1 : SM := (sSet 1 (mTup (aCons (mC (.int 0)) (aCons (mC (.int 1)) aNil))))
def s_double_area_2 : SM := (sPar [3, 4] (vF (mIx (mVar 0) (mBin pSub (mVar 2) (mC (.int 1)))) (vF (mIx (mVar 0) (mVar 2)) vNil)))
def s_double_area_3 : SM := (sSet 1 (mCall 2 M_plus (aCons (mVar 1) (aCons (mCall 2 M_minus (aCons (mCall 2 M_times (aCons (mIx (mVar 3) (mC (.int 0))) (aCons (mIx (mVar 4) (mC (.int 1))) aNil))) (aCons (mCall 2 M_times (aCons (mIx (mVar 3) (mC (.int 1))) (aCons (mIx (mVar 4) (mC (.int 0))) aNil))) aNil))) aNil))))
def s_double_area_4 : SM := (sFor (iRng1M (aCons (mCallB bLen (aCons (mVar 0) aNil)) aNil)) (gNm 2)
  (sSeq s_double_area_2 s_double_area_3) [2, 3, 4])
def s_double_area_5 : SM := (sRet (mVar 1))
def B_double_area : SM := (sSeq s_double_area_1 (sSeq s_double_area_4 s_double_area_5))
def M_double_area : FM := fnM 5 B_double_area
theorem cal_double_area (h : Hy P K mg cs tg) (TB : ∀ p ∈ cs, TabB base mg p.1 p.2) : CalM P w K mg base (tbO cs tg) 4 "double_area" 1 M_double_area := by
  obtain ⟨f, fd, c, T, F⟩ := h.f_double_area
  refine mk_cal (k := 3) (N := N_double_area) F S_double_area TB (fun _ _ _ _ _ _ us hl => match us, hl with | [_], _ => rfl) fun A outer s H E D => ?_
  have S := S_double_area
  exact (b_cons (s_set (i := 1) S.nd rfl (by first | exact Or.inl rfl | exact Or.inr rfl) (e_tup (a_consF e_int (a_consF e_int a_nil))))
  (b_cons (s_for (passes_of rfl) D.cm (i_range1 rfl h.n_range (a_consR (e_toR (e_callB (x := "len") cv_len (by rfl) h.n_len boot_len (a_consR (e_toR (e_var 0)) a_nil))) a_nil)) (g_name (i := 2) S.nd rfl (by first | exact Or.inl rfl | exact Or.inr rfl))
  (b_cons (s_par2 (ps_par (i := 3) (j := 4) D.cm S.nd rfl rfl (by decide) rfl rfl (v_F (e_ix (e_toR (e_var 0)) (e_toR (e_bin opv_sub (e_toR (e_var 2)) (e_toR e_int))) (fun _ _ => rfl)) (v_F (e_ix (e_toR (e_var 0)) (e_toR (e_var 2)) (fun _ _ => rfl)) v_nil)) (by rfl)))
  (b_one (s_set (i := 1) S.nd rfl (by first | exact Or.inl rfl | exact Or.inr rfl) (e_call (cal_plus h TB) D.hr (by decide) rfl D.tk (a_consF (e_var 1) (a_consF (e_call (cal_minus h TB) D.hr (by decide) rfl D.tk (a_consF (e_call (cal_times h TB) D.hr (by decide) rfl D.tk (a_consF (e_ix (e_toR (e_var 3)) (e_toR e_int) (fun _ _ => rfl)) (a_consF (e_ix (e_toR (e_var 4)) (e_toR e_int) (fun _ _ => rfl)) a_nil))) (a_consF (e_call (cal_times h TB) D.hr (by decide) rfl D.tk (a_consF (e_ix (e_toR (e_var 3)) (e_toR e_int) (fun _ _ => rfl)) (a_consF (e_ix (e_toR (e_var 4)) (e_toR e_int) (fun _ _ => rfl)) a_nil))) a_nil))) a_nil)))))) [2, 3, 4])
  (b_one (s_ret (e_var 1)))))
def N_law_area : List Str := ["row", "here"]
theorem S_law_area : FnScope N_law_area ["row", "here"] (defScope (top 35)) := sc_ok (by kernel_rfl)
def s_law_area_1 : SM := (sRet (mCall 1 M_double_area (aCons (mCall 2 M_left_of (aCons (mVar 0) (aCons (mVar 1) aNil))) aNil)))
def B_law_area : SM := s_law_area_1
def M_law_area : FM := fnM 2 B_law_area
theorem cal_law_area (h : Hy P K mg cs tg) (TB : ∀ p ∈ cs, TabB base mg p.1 p.2) : CalM P w K mg base (tbO cs tg) 8 "_law_area" 2 M_law_area := by
  obtain ⟨f, fd, c, T, F⟩ := h.f_law_area
  refine mk_cal (k := 7) (N := N_law_area) F S_law_area TB (fun _ _ _ _ _ _ us hl => match us, hl with | [_, _], _ => rfl) fun A outer s H E D => ?_
  have S := S_law_area
  exact (b_one (s_ret (e_call (cal_double_area h TB) D.hr (by decide) rfl D.tk (a_consF (e_call (cal_left_of h TB) D.hr (by decide) rfl D.tk (a_consF (e_var 0) (a_consF (e_var 1) a_nil))) a_nil))))
def N_corner_of : List Str := ["one", "other", "under"]
theorem S_corner_of : FnScope N_corner_of ["one", "other"] (defScope (top 19)) := sc_ok (by kernel_rfl)
def s_corner_of_1 : SM := (sSet 2 (mBin pSub (mBin pMul (mIx (mVar 0) (mC (.int 0))) (mIx (mVar 1) (mC (.int 1)))) (mBin pMul (mIx (mVar 0) (mC (.int 1))) (mIx (mVar 1) (mC (.int 0))))))
def s_corner_of_2 : SM := (sRet (mC .non))
def s_corner_of_3 : SM := (sIf (tBin cEq (mVar 2) (mC (.int 0))) s_corner_of_2 sNil)
def s_corner_of_4 : SM := (sRet (mTup (aCons (mCall 2 M_part (aCons (mBin pSub (mBin pMul (mIx (mVar 0) (mC (.int 2))) (mIx (mVar 1) (mC (.int 1)))) (mBin pMul (mIx (mVar 0) (mC (.int 1))) (mIx (mVar 1) (mC (.int 2))))) (aCons (mVar 2) aNil))) (aCons (mCall 2 M_part (aCons (mBin pSub (mBin pMul (mIx (mVar 0) (mC (.int 0))) (mIx (mVar 1) (mC (.int 2)))) (mBin pMul (mIx (mVar 0) (mC (.int 2))) (mIx (mVar 1) (mC (.int 0))))) (aCons (mVar 2) aNil))) aNil))))
def B_corner_of : SM := (sSeq s_corner_of_1 (sSeq s_corner_of_3 s_corner_of_4))
def M_corner_of : FM := fnM 3 B_corner_of
theorem cal_corner_of (h : Hy P K mg cs tg) (TB : ∀ p ∈ cs, TabB base mg p.1 p.2) : CalM P w K mg base (tbO cs tg) 3 "corner_of" 2 M_corner_of := by
  obtain ⟨f, fd, c, T, F⟩ := h.f_corner_of
  refine mk_cal (k := 2) (N := N_corner_of) F S_corner_of TB (fun _ _ _ _ _ _ us hl => match us, hl with | [_, _], _ => rfl) fun A outer s H E D => ?_
  have S := S_corner_of
  exact (b_cons (s_set (i := 2) S.nd rfl (by first | exact Or.inl rfl | exact Or.inr rfl) (e_bin opv_sub (e_toR (e_bin opv_mul (e_toR (e_ix (e_toR (e_var 0)) (e_toR e_int) (fun _ _ => rfl))) (e_toR (e_ix (e_toR (e_var 1)) (e_toR e_int) (fun _ _ => rfl))))) (e_toR (e_bin opv_mul (e_toR (e_ix (e_toR (e_var 0)) (e_toR e_int) (fun _ _ => rfl))) (e_toR (e_ix (e_toR (e_var 1)) (e_toR e_int) (fun _ _ => rfl)))))))
  (b_cons (s_if (t_cmp (opv_eq (u64_of D.hr)) (e_toR (e_var 2)) (e_toR e_int) rfl) (b_one (s_ret e_non)) b_nil)
  (b_one (s_ret (e_tup (a_consF (e_call (cal_part h TB) D.hr (by decide) rfl D.tk (a_consF (e_bin opv_sub (e_toR (e_bin opv_mul (e_toR (e_ix (e_toR (e_var 0)) (e_toR e_int) (fun _ _ => rfl))) (e_toR (e_ix (e_toR (e_var 1)) (e_toR e_int) (fun _ _ => rfl))))) (e_toR (e_bin opv_mul (e_toR (e_ix (e_toR (e_var 0)) (e_toR e_int) (fun _ _ => rfl))) (e_toR (e_ix (e_toR (e_var 1)) (e_toR e_int) (fun _ _ => rfl)))))) (a_consF (e_var 2) a_nil))) (a_consF (e_call (cal_part h TB) D.hr (by decide) rfl D.tk (a_consF (e_bin opv_sub (e_toR (e_bin opv_mul (e_toR (e_ix (e_toR (e_var 0)) (e_toR e_int) (fun _ _ => rfl))) (e_toR (e_ix (e_toR (e_var 1)) (e_toR e_int) (fun _ _ => rfl))))) (e_toR (e_bin opv_mul (e_toR (e_ix (e_toR (e_var 0)) (e_toR e_int) (fun _ _ => rfl))) (e_toR (e_ix (e_toR (e_var 1)) (e_toR e_int) (fun _ _ => rfl)))))) (a_consF (e_var 2) a_nil))) a_nil)))))))
def N_tried : List Str := ["row", "found", "k", "one", "a", "b", "c", "much", "other"]
theorem S_tried : FnScope N_tried ["row"] (defScope (top 24)) := sc_ok (by kernel_rfl)
def s_tried_1 : SM := (sSetO 1 (mLst (aCons (mTup (aCons (mTup (aCons (mC (.int 0)) (aCons (mC (.int 1)) aNil))) (aCons (mTup (aCons (mC (.int 0)) (aCons (mC (.int 1)) aNil))) aNil))) aNil)))
def s_tried_2 : SM := (sAsg (gTp 3 (gConsM (gNm 4) (gConsM (gNm 5) (gConsM (gNm 6) gNilM)))) (mVar 3))
def s_tried_3 : SM := (sSet 7 (mBin pAdd (mBin pMul (mVar 4) (mVar 4)) (mBin pMul (mVar 5) (mVar 5))))
def s_tried_4 : SM := (sAppend 1 (mTup (aCons (mCall 2 M_part (aCons (mBin pMul (mVar 4) (mVar 6)) (aCons (mVar 7) aNil))) (aCons (mCall 2 M_part (aCons (mBin pMul (mVar 5) (mVar 6)) (aCons (mVar 7) aNil))) aNil))))
def s_tried_5 : SM := (sExtend 1 (mComp (iSeq (mSlice (mVar 0) pN (pS (mVar 2)))) (gNm 8) (tBin cNotN (mCall 2 M_corner_of (aCons (mVar 3) (aCons (mVar 8) aNil))) (mC .non)) (mCall 2 M_corner_of (aCons (mVar 3) (aCons (mVar 8) aNil))) [8]))
def s_tried_6 : SM := (sFor (iEnumM (aCons (mVar 0) aNil)) (gTp 2 (gConsM (gNm 2) (gConsM (gNm 3) gNilM)))
  (sSeq s_tried_2 (sSeq s_tried_3 (sSeq s_tried_4 s_tried_5))) [2, 3, 4, 5, 6, 7])
def s_tried_7 : SM := (sFrz 1 (sRet (mVar 1)))
def B_tried : SM := (sSeq s_tried_1 (sSeq s_tried_6 s_tried_7))
def M_tried : FM := fnM 9 B_tried
theorem cal_tried (h : Hy P K mg cs tg) (TB : ∀ p ∈ cs, TabB base mg p.1 p.2) : CalM P w K mg base (tbO cs tg) 4 "tried" 1 M_tried := by
  obtain ⟨f, fd, c, T, F⟩ := h.f_tried
  refine mk_cal (k := 3) (N := N_tried) F S_tried TB (fun _ _ _ _ _ _ us hl => match us, hl with | [_], _ => rfl) fun A outer s H E D => ?_
  have S := S_tried
  exact (b_cons (s_setO (i := 1) S.nd rfl (by first | exact Or.inl rfl | exact Or.inr rfl) (e_lst (a_consF (e_tup (a_consF (e_tup (a_consF e_int (a_consF e_int a_nil))) (a_consF (e_tup (a_consF e_int (a_consF e_int a_nil))) a_nil))) a_nil)))
  (b_cons (s_for (passes_of rfl) D.cm (i_enum rfl h.n_enumerate (a_consF (e_var 0) a_nil)) (g_tup D.cm (gs_cons (g_name (i := 2) S.nd rfl (by first | exact Or.inl rfl | exact Or.inr rfl)) (gs_cons (g_name (i := 3) S.nd rfl (by first | exact Or.inl rfl | exact Or.inr rfl)) gs_nil)))
  (b_cons (s_asg (e_var 3) (g_tup D.cm (gs_cons (g_name (i := 4) S.nd rfl (by first | exact Or.inl rfl | exact Or.inr rfl)) (gs_cons (g_name (i := 5) S.nd rfl (by first | exact Or.inl rfl | exact Or.inr rfl)) (gs_cons (g_name (i := 6) S.nd rfl (by first | exact Or.inl rfl | exact Or.inr rfl)) gs_nil)))))
  (b_cons (s_set (i := 7) S.nd rfl (by first | exact Or.inl rfl | exact Or.inr rfl) (e_bin opv_add (e_toR (e_bin opv_mul (e_toR (e_var 4)) (e_toR (e_var 4)))) (e_toR (e_bin opv_mul (e_toR (e_var 5)) (e_toR (e_var 5))))))
  (b_cons (s_append (ps_expr (pe_bm PySem.F.plainAttrs_list PySem.F.slot_list_append PySem.F.type_list_append mt_append (pv 1) (pa_cons (e_tup (a_consF (e_call (cal_part h TB) D.hr (by decide) rfl D.tk (a_consF (e_bin opv_mul (e_toR (e_var 4)) (e_toR (e_var 6))) (a_consF (e_var 7) a_nil))) (a_consF (e_call (cal_part h TB) D.hr (by decide) rfl D.tk (a_consF (e_bin opv_mul (e_toR (e_var 5)) (e_toR (e_var 6))) (a_consF (e_var 7) a_nil))) a_nil))) pa_nil))))
  (b_one (s_extend (ps_expr (pe_bm PySem.F.plainAttrs_list PySem.F.slot_list_extend PySem.F.type_list_extend mt_extend (pv 1) (pa_cons (e_lc (own := [("other", 8)]) D.cm S.nd (i_seq (e_slice (e_toR (e_var 0)) p_none (p_some (e_toR (e_var 2))))) (blk_ok (by kernel_rfl)) (by exact fun _ _ _ _ _ => (g_name (i := 8) S.nd rfl (by first | exact Or.inl rfl | exact Or.inr rfl))) (by exact fun _ _ _ _ _ => (ts_one (t_cmp opv_isnot (e_toR (e_call (cal_corner_of h TB) D.hr (by decide) rfl takesN (a_consF (e_var 3) (a_consF (e_var 8) a_nil)))) (e_toR e_non) rfl))) (by exact fun _ _ _ _ _ => (e_call (cal_corner_of h TB) D.hr (by decide) rfl takesN (a_consF (e_var 3) (a_consF (e_var 8) a_nil))))) pa_nil)))))))) [2, 3, 4, 5, 6, 7])
  (b_one (s_frz (i := 1) (s_ret (e_var 1))))))
def N_stands : List Str := ["one", "other", "gap"]
theorem S_stands : FnScope N_stands ["one", "other"] (defScope (top 12)) := sc_ok (by kernel_rfl)
def s_stands_1 : SM := (sSet 2 (mBin pSub (mBin pMul (mIx (mVar 0) (mC (.int 0))) (mIx (mVar 1) (mC (.int 1)))) (mBin pMul (mIx (mVar 1) (mC (.int 0))) (mIx (mVar 0) (mC (.int 1))))))
def s_stands_2 : SM := (sRet (mBin pSub (mBin cGt (mVar 2) (mC (.int 0))) (mBin cLt (mVar 2) (mC (.int 0)))))
def B_stands : SM := (sSeq s_stands_1 s_stands_2)
def M_stands : FM := fnM 3 B_stands
theorem cal_stands (h : Hy P K mg cs tg) (TB : ∀ p ∈ cs, TabB base mg p.1 p.2) : CalM P w K mg base (tbO cs tg) 1 "stands" 2 M_stands := by
  obtain ⟨f, fd, c, T, F⟩ := h.f_stands
  refine mk_cal (k := 0) (N := N_stands) F S_stands TB (fun _ _ _ _ _ _ us hl => match us, hl with | [_, _], _ => rfl) fun A outer s H E D => ?_
  have S := S_stands
  exact (b_cons (s_set (i := 2) S.nd rfl (by first | exact Or.inl rfl | exact Or.inr rfl) (e_bin opv_sub (e_toR (e_bin opv_mul (e_toR (e_ix (e_toR (e_var 0)) (e_toR e_int) (fun _ _ => rfl))) (e_toR (e_ix (e_toR (e_var 1)) (e_toR e_int) (fun _ _ => rfl))))) (e_toR (e_bin opv_mul (e_toR (e_ix (e_toR (e_var 1)) (e_toR e_int) (fun _ _ => rfl))) (e_toR (e_ix (e_toR (e_var 0)) (e_toR e_int) (fun _ _ => rfl)))))))
  (b_one (s_ret (e_bin opv_sub (e_toR (e_cmp (opv_gt (u64_of D.hr)) (e_toR (e_var 2)) (e_toR e_int) rfl)) (e_toR (e_cmp (opv_lt (u64_of D.hr)) (e_toR (e_var 2)) (e_toR e_int) rfl))))))
def N_is_within : List Str := ["row", "point", "bound"]
theorem S_is_within : FnScope N_is_within ["row", "point"] (defScope (top 18)) := sc_ok (by kernel_rfl)
def s_is_within_1 : SM := (sRet (mAllG (iSeq (mVar 0)) (gNm 2) tYesM (mBin cLe (mCall 2 M_stands (aCons (mCall 2 M_value (aCons (mVar 2) (aCons (mVar 1) aNil))) (aCons (mTup (aCons (mC (.int 0)) (aCons (mC (.int 1)) aNil))) aNil))) (mC (.int 0))) [2]))
def B_is_within : SM := s_is_within_1
def M_is_within : FM := fnM 3 B_is_within
theorem cal_is_within (h : Hy P K mg cs tg) (TB : ∀ p ∈ cs, TabB base mg p.1 p.2) : CalM P w K mg base (tbO cs tg) 8 "is_within" 2 M_is_within := by
  obtain ⟨f, fd, c, T, F⟩ := h.f_is_within
  refine mk_cal (k := 7) (N := N_is_within) F S_is_within TB (fun _ _ _ _ _ _ us hl => match us, hl with | [_, _], _ => rfl) fun A outer s H E D => ?_
  have S := S_is_within
  exact (b_one (s_ret (e_allG (own := [("bound", 2)]) boot_all D.mem D.cm (dp_of D.hr) rfl h.n_all D.tab D.cd (gn_ok (by kernel_rfl)) S.nd (i_seq (e_var 0)) (by exact fun _ _ _ _ _ => (g_name (i := 2) S.nd rfl (by first | exact Or.inl rfl | exact Or.inr rfl))) (by exact fun _ _ _ _ _ => ts_nil) (by exact fun _ _ _ _ _ => (e_cmp (opv_le (u64_of (D.hr.in1.in1.deeper _))) (e_toR (e_call (cal_stands h TB) (D.hr.in1.in1.deeper _) (by decide) rfl takesN (a_consF (e_call (cal_value h TB) (D.hr.in1.in1.deeper _) (by decide) rfl takesN (a_consF (e_var 2) (a_consF (e_var 1) a_nil))) (a_consF (e_tup (a_consF e_int (a_consF e_int a_nil))) a_nil)))) (e_toR e_int) rfl)))))
def N_a_point : List Str := ["row", "point"]
theorem S_a_point : FnScope N_a_point ["row"] (defScope (top 23)) := sc_ok (by kernel_rfl)
def s_a_point_1 : SM := (sExpr (mCall 1 M_check_bounds (aCons (mVar 0) aNil)))
def s_a_point_2 : SM := (sRet (mVar 1))
def s_a_point_3 : SM := (sIf (tVal (mCall 2 M_is_within (aCons (mVar 0) (aCons (mVar 1) aNil)))) s_a_point_2 sNil)
def s_a_point_4 : SM := (sFor (iSeq (mCall 1 M_tried (aCons (mVar 0) aNil))) (gNm 1)
  s_a_point_3 [1])
def s_a_point_5 : SM := (sRet (mC .non))
def B_a_point : SM := (sSeq s_a_point_1 (sSeq s_a_point_4 s_a_point_5))
def M_a_point : FM := fnM 2 B_a_point
theorem cal_a_point (h : Hy P K mg cs tg) (TB : ∀ p ∈ cs, TabB base mg p.1 p.2) : CalM P w K mg base (tbO cs tg) 9 "a_point" 1 M_a_point := by
  obtain ⟨f, fd, c, T, F⟩ := h.f_a_point
  refine mk_cal (k := 8) (N := N_a_point) F S_a_point TB (fun _ _ _ _ _ _ us hl => match us, hl with | [_], _ => rfl) fun A outer s H E D => ?_
  have S := S_a_point
  exact (b_cons (s_expr (e_call (cal_check_bounds h TB) D.hr (by decide) rfl D.tk (a_consF (e_var 0) a_nil)))
  (b_cons (s_for (passes_of rfl) D.cm (i_seq (e_call (cal_tried h TB) D.hr (by decide) rfl D.tk (a_consF (e_var 0) a_nil))) (g_name (i := 1) S.nd rfl (by first | exact Or.inl rfl | exact Or.inr rfl))
  (b_one (s_if (t_val (e_toR (e_call (cal_is_within h TB) D.hr (by decide) rfl D.tk (a_consF (e_var 0) (a_consF (e_var 1) a_nil))))) (b_one (s_ret (e_var 1))) b_nil)) [1])
  (b_one (s_ret e_non))))
def N_of_two : List Str := ["row", "j", "k", "one", "other", "much", "many", "n"]
theorem S_of_two : FnScope N_of_two ["row", "j", "k"] (defScope (top 26)) := sc_ok (by kernel_rfl)
def s_of_two_1 : SM := (sPar [3, 4] (vF (mIx (mVar 0) (mVar 1)) (vF (mIx (mVar 0) (mVar 2)) vNil)))
def s_of_two_2 : SM := (sRet (mC .non))
def s_of_two_3 : SM := (sIf (tOrM (tBin cNe (mBin pMul (mIx (mVar 3) (mC (.int 0))) (mIx (mVar 4) (mC (.int 1)))) (mBin pMul (mIx (mVar 3) (mC (.int 1))) (mIx (mVar 4) (mC (.int 0))))) (tBin cGt (mBin pAdd (mBin pMul (mIx (mVar 3) (mC (.int 0))) (mIx (mVar 4) (mC (.int 0)))) (mBin pMul (mIx (mVar 3) (mC (.int 1))) (mIx (mVar 4) (mC (.int 1))))) (mC (.int 0)))) s_of_two_2 sNil)
def s_of_two_4 : SM := (sAsg (gTp 2 (gConsM (gNm 5) (gConsM (gNm 6) gNilM))) (mTup (aCons (mBin pAdd (mCallB bAbs (aCons (mIx (mVar 4) (mC (.int 0))) aNil)) (mCallB bAbs (aCons (mIx (mVar 4) (mC (.int 1))) aNil))) (aCons (mBin pAdd (mCallB bAbs (aCons (mIx (mVar 3) (mC (.int 0))) aNil)) (mCallB bAbs (aCons (mIx (mVar 3) (mC (.int 1))) aNil))) aNil))))
def s_of_two_5 : SM := (sIf (tBin cGe (mBin pAdd (mBin pMul (mVar 5) (mIx (mVar 3) (mC (.int 2)))) (mBin pMul (mVar 6) (mIx (mVar 4) (mC (.int 2))))) (mC (.int 0))) s_of_two_2 sNil)
def s_of_two_6 : SM := (sRet (mCallB bTuple (aCons (mComp (iRng1M (aCons (mCallB bLen (aCons (mVar 0) aNil)) aNil)) (gNm 7) tYesM (eIf (tBin cEq (mVar 7) (mVar 1)) (mVar 5) (eIf (tBin cEq (mVar 7) (mVar 2)) (mVar 6) (mC (.int 0)))) [7]) aNil)))
def B_of_two : SM := (sSeq s_of_two_1 (sSeq s_of_two_3 (sSeq s_of_two_4 (sSeq s_of_two_5 s_of_two_6))))
def M_of_two : FM := fnM 8 B_of_two
theorem cal_of_two (h : Hy P K mg cs tg) (TB : ∀ p ∈ cs, TabB base mg p.1 p.2) : CalM P w K mg base (tbO cs tg) 1 "of_two" 3 M_of_two := by
  obtain ⟨f, fd, c, T, F⟩ := h.f_of_two
  refine mk_cal (k := 0) (N := N_of_two) F S_of_two TB (fun _ _ _ _ _ _ us hl => match us, hl with | [_, _, _], _ => rfl) fun A outer s H E D => ?_
  have S := S_of_two
  exact (b_cons (s_par2 (ps_par (i := 3) (j := 4) D.cm S.nd rfl rfl (by decide) rfl rfl (v_F (e_ix (e_toR (e_var 0)) (e_toR (e_var 1)) (fun _ _ => rfl)) (v_F (e_ix (e_toR (e_var 0)) (e_toR (e_var 2)) (fun _ _ => rfl)) v_nil)) (by rfl)))
  (b_cons (s_if (t_w (w_or (t_cmp (opv_ne (u64_of D.hr)) (e_toR (e_bin opv_mul (e_toR (e_ix (e_toR (e_var 3)) (e_toR e_int) (fun _ _ => rfl))) (e_toR (e_ix (e_toR (e_var 4)) (e_toR e_int) (fun _ _ => rfl))))) (e_toR (e_bin opv_mul (e_toR (e_ix (e_toR (e_var 3)) (e_toR e_int) (fun _ _ => rfl))) (e_toR (e_ix (e_toR (e_var 4)) (e_toR e_int) (fun _ _ => rfl))))) rfl) (w_or1 (t_cmp (opv_gt (u64_of D.hr)) (e_toR (e_bin opv_add (e_toR (e_bin opv_mul (e_toR (e_ix (e_toR (e_var 3)) (e_toR e_int) (fun _ _ => rfl))) (e_toR (e_ix (e_toR (e_var 4)) (e_toR e_int) (fun _ _ => rfl))))) (e_toR (e_bin opv_mul (e_toR (e_ix (e_toR (e_var 3)) (e_toR e_int) (fun _ _ => rfl))) (e_toR (e_ix (e_toR (e_var 4)) (e_toR e_int) (fun _ _ => rfl))))))) (e_toR e_int) rfl)))) (b_one (s_ret e_non)) b_nil)
  (b_cons (s_asg (e_tup (a_consF (e_bin opv_add (e_toR (e_callB (x := "abs") cv_abs (by rfl) h.n_abs boot_abs (a_consR (e_toR (e_ix (e_toR (e_var 4)) (e_toR e_int) (fun _ _ => rfl))) a_nil))) (e_toR (e_callB (x := "abs") cv_abs (by rfl) h.n_abs boot_abs (a_consR (e_toR (e_ix (e_toR (e_var 4)) (e_toR e_int) (fun _ _ => rfl))) a_nil)))) (a_consF (e_bin opv_add (e_toR (e_callB (x := "abs") cv_abs (by rfl) h.n_abs boot_abs (a_consR (e_toR (e_ix (e_toR (e_var 3)) (e_toR e_int) (fun _ _ => rfl))) a_nil))) (e_toR (e_callB (x := "abs") cv_abs (by rfl) h.n_abs boot_abs (a_consR (e_toR (e_ix (e_toR (e_var 3)) (e_toR e_int) (fun _ _ => rfl))) a_nil)))) a_nil))) (g_tup D.cm (gs_cons (g_name (i := 5) S.nd rfl (by first | exact Or.inl rfl | exact Or.inr rfl)) (gs_cons (g_name (i := 6) S.nd rfl (by first | exact Or.inl rfl | exact Or.inr rfl)) gs_nil))))
  (b_cons (s_if (t_cmp (opv_ge (u64_of D.hr)) (e_toR (e_bin opv_add (e_toR (e_bin opv_mul (e_toR (e_var 5)) (e_toR (e_ix (e_toR (e_var 3)) (e_toR e_int) (fun _ _ => rfl))))) (e_toR (e_bin opv_mul (e_toR (e_var 6)) (e_toR (e_ix (e_toR (e_var 4)) (e_toR e_int) (fun _ _ => rfl))))))) (e_toR e_int) rfl) (b_one (s_ret e_non)) b_nil)
  (b_one (s_ret (e_callT (x := "tuple") cv_tuple (by rfl) h.n_tuple boot_tuple (a_consR (e_toR (e_toF (e_lc (own := [("n", 7)]) D.cm S.nd (i_range1 rfl h.n_range (a_consR (e_toR (e_callB (x := "len") cv_len (by rfl) h.n_len boot_len (a_consR (e_toR (e_var 0)) a_nil))) a_nil)) (blk_ok (by kernel_rfl)) (by exact fun _ _ _ _ _ => (g_name (i := 7) S.nd rfl (by first | exact Or.inl rfl | exact Or.inr rfl))) (by exact fun _ _ _ _ _ => ts_nil) (by exact fun _ _ _ _ _ => (e_if (t_cmp (opv_eq (u64_of D.hr)) (e_toR (e_var 7)) (e_toR (e_var 1)) rfl) (e_var 5) (e_if (t_cmp (opv_eq (u64_of D.hr)) (e_toR (e_var 7)) (e_toR (e_var 2)) rfl) (e_var 6) e_int)))))) a_nil))))))))
def N_of_three : List Str := ["row", "i", "j", "k", "one", "two", "three", "first", "second", "weights", "much", "n"]
theorem S_of_three : FnScope N_of_three ["row", "i", "j", "k"] (defScope (top 27)) := sc_ok (by kernel_rfl)
def s_of_three_1 : SM := (sPar [4, 5, 6] (vF (mIx (mVar 0) (mVar 1)) (vF (mIx (mVar 0) (mVar 2)) (vF (mIx (mVar 0) (mVar 3)) vNil))))
def s_of_three_2 : SM := (sPar [7, 8] (vF (mBin pSub (mBin pMul (mIx (mVar 5) (mC (.int 0))) (mIx (mVar 6) (mC (.int 1)))) (mBin pMul (mIx (mVar 5) (mC (.int 1))) (mIx (mVar 6) (mC (.int 0))))) (vF (mBin pSub (mBin pMul (mIx (mVar 6) (mC (.int 0))) (mIx (mVar 4) (mC (.int 1)))) (mBin pMul (mIx (mVar 6) (mC (.int 1))) (mIx (mVar 4) (mC (.int 0))))) vNil)))
def s_of_three_3 : SM := (sSet 9 (mLst (aCons (mVar 7) (aCons (mVar 8) (aCons (mBin pSub (mBin pMul (mIx (mVar 4) (mC (.int 0))) (mIx (mVar 5) (mC (.int 1)))) (mBin pMul (mIx (mVar 4) (mC (.int 1))) (mIx (mVar 5) (mC (.int 0))))) aNil)))))
def s_of_three_4 : SM := (sSet 9 (mComp (iSeq (mVar 9)) (gNm 10) tYesM (mUn pNeg (mVar 10)) [10]))
def s_of_three_5 : SM := (sIf (tBin cLt (mCallB bMinD (aCons (mVar 9) aNil)) (mC (.int 0))) s_of_three_4 sNil)
def s_of_three_6 : SM := (sRet (mC .non))
def s_of_three_7 : SM := (sIf (tOrM (tBin cLt (mCallB bMinD (aCons (mVar 9) aNil)) (mC (.int 0))) (tBin cGe (mBin pAdd (mBin pAdd (mBin pMul (mIx (mVar 9) (mC (.int 0))) (mIx (mVar 4) (mC (.int 2)))) (mBin pMul (mIx (mVar 9) (mC (.int 1))) (mIx (mVar 5) (mC (.int 2))))) (mBin pMul (mIx (mVar 9) (mC (.int 2))) (mIx (mVar 6) (mC (.int 2))))) (mC (.int 0)))) s_of_three_6 sNil)
def s_of_three_8 : SM := (sRet (mCallB bTuple (aCons (mComp (iRng1M (aCons (mCallB bLen (aCons (mVar 0) aNil)) aNil)) (gNm 11) tYesM (mGetID (mDzip (aCons (mTup (aCons (mVar 1) (aCons (mVar 2) (aCons (mVar 3) aNil)))) (aCons (mVar 9) aNil))) (mVar 11) (mC (.int 0))) [11]) aNil)))
def B_of_three : SM := (sSeq s_of_three_1 (sSeq s_of_three_2 (sSeq s_of_three_3 (sSeq s_of_three_5 (sSeq s_of_three_7 s_of_three_8)))))
def M_of_three : FM := fnM 12 B_of_three
theorem cal_of_three (h : Hy P K mg cs tg) (TB : ∀ p ∈ cs, TabB base mg p.1 p.2) : CalM P w K mg base (tbO cs tg) 1 "of_three" 4 M_of_three := by
  obtain ⟨f, fd, c, T, F⟩ := h.f_of_three
  refine mk_cal (k := 0) (N := N_of_three) F S_of_three TB (fun _ _ _ _ _ _ us hl => match us, hl with | [_, _, _, _], _ => rfl) fun A outer s H E D => ?_
  have S := S_of_three
  exact (b_cons (s_par3 (ps_par3 (i := 4) (j := 5) (l := 6) D.cm S.nd rfl rfl rfl (by decide) (by decide) (by decide) rfl rfl rfl (v_F (e_ix (e_toR (e_var 0)) (e_toR (e_var 1)) (fun _ _ => rfl)) (v_F (e_ix (e_toR (e_var 0)) (e_toR (e_var 2)) (fun _ _ => rfl)) (v_F (e_ix (e_toR (e_var 0)) (e_toR (e_var 3)) (fun _ _ => rfl)) v_nil))) (by rfl)))
  (b_cons (s_par2 (ps_par (i := 7) (j := 8) D.cm S.nd rfl rfl (by decide) rfl rfl (v_F (e_bin opv_sub (e_toR (e_bin opv_mul (e_toR (e_ix (e_toR (e_var 5)) (e_toR e_int) (fun _ _ => rfl))) (e_toR (e_ix (e_toR (e_var 6)) (e_toR e_int) (fun _ _ => rfl))))) (e_toR (e_bin opv_mul (e_toR (e_ix (e_toR (e_var 5)) (e_toR e_int) (fun _ _ => rfl))) (e_toR (e_ix (e_toR (e_var 6)) (e_toR e_int) (fun _ _ => rfl)))))) (v_F (e_bin opv_sub (e_toR (e_bin opv_mul (e_toR (e_ix (e_toR (e_var 6)) (e_toR e_int) (fun _ _ => rfl))) (e_toR (e_ix (e_toR (e_var 4)) (e_toR e_int) (fun _ _ => rfl))))) (e_toR (e_bin opv_mul (e_toR (e_ix (e_toR (e_var 6)) (e_toR e_int) (fun _ _ => rfl))) (e_toR (e_ix (e_toR (e_var 4)) (e_toR e_int) (fun _ _ => rfl)))))) v_nil)) (by rfl)))
  (b_cons (s_set (i := 9) S.nd rfl (by first | exact Or.inl rfl | exact Or.inr rfl) (e_toF (e_lst (a_consF (e_var 7) (a_consF (e_var 8) (a_consF (e_bin opv_sub (e_toR (e_bin opv_mul (e_toR (e_ix (e_toR (e_var 4)) (e_toR e_int) (fun _ _ => rfl))) (e_toR (e_ix (e_toR (e_var 5)) (e_toR e_int) (fun _ _ => rfl))))) (e_toR (e_bin opv_mul (e_toR (e_ix (e_toR (e_var 4)) (e_toR e_int) (fun _ _ => rfl))) (e_toR (e_ix (e_toR (e_var 5)) (e_toR e_int) (fun _ _ => rfl)))))) a_nil))))))
  (b_cons (s_if (t_cmp (opv_lt (u64_of D.hr)) (e_toR (e_callB (x := "min") (cv_minD D.cm (u100_of D.hr)) (by rfl) h.n_min boot_min (a_consR (e_toR (e_var 9)) a_nil))) (e_toR e_int) rfl) (b_one (s_set (i := 9) S.nd rfl (by first | exact Or.inl rfl | exact Or.inr rfl) (e_toF (e_lc (own := [("much", 10)]) D.cm S.nd (i_seq (e_var 9)) (blk_ok (by kernel_rfl)) (by exact fun _ _ _ _ _ => (g_name (i := 10) S.nd rfl (by first | exact Or.inl rfl | exact Or.inr rfl))) (by exact fun _ _ _ _ _ => ts_nil) (by exact fun _ _ _ _ _ => (e_neg (e_toR (e_var 10)))))))) b_nil)
  (b_cons (s_if (t_w (w_or (t_cmp (opv_lt (u64_of D.hr)) (e_toR (e_callB (x := "min") (cv_minD D.cm (u100_of D.hr)) (by rfl) h.n_min boot_min (a_consR (e_toR (e_var 9)) a_nil))) (e_toR e_int) rfl) (w_or1 (t_cmp (opv_ge (u64_of D.hr)) (e_toR (e_bin opv_add (e_toR (e_bin opv_add (e_toR (e_bin opv_mul (e_toR (e_ix (e_toR (e_var 9)) (e_toR e_int) (fun _ _ => rfl))) (e_toR (e_ix (e_toR (e_var 4)) (e_toR e_int) (fun _ _ => rfl))))) (e_toR (e_bin opv_mul (e_toR (e_ix (e_toR (e_var 9)) (e_toR e_int) (fun _ _ => rfl))) (e_toR (e_ix (e_toR (e_var 5)) (e_toR e_int) (fun _ _ => rfl))))))) (e_toR (e_bin opv_mul (e_toR (e_ix (e_toR (e_var 9)) (e_toR e_int) (fun _ _ => rfl))) (e_toR (e_ix (e_toR (e_var 6)) (e_toR e_int) (fun _ _ => rfl))))))) (e_toR e_int) rfl)))) (b_one (s_ret e_non)) b_nil)
  (b_one (s_ret (e_callT (x := "tuple") cv_tuple (by rfl) h.n_tuple boot_tuple (a_consR (e_toR (e_toF (e_lc (own := [("n", 11)]) D.cm S.nd (i_range1 rfl h.n_range (a_consR (e_toR (e_callB (x := "len") cv_len (by rfl) h.n_len boot_len (a_consR (e_toR (e_var 0)) a_nil))) a_nil)) (blk_ok (by kernel_rfl)) (by exact fun _ _ _ _ _ => (g_name (i := 11) S.nd rfl (by first | exact Or.inl rfl | exact Or.inr rfl))) (by exact fun _ _ _ _ _ => ts_nil) (by exact fun _ _ _ _ _ => (e_getID (u1_of D.hr) (e_dzip D.cm rfl h.n_dict rfl h.n_zip (a_consF (e_tup (a_consF (e_var 1) (a_consF (e_var 2) (a_consF (e_var 3) a_nil)))) (a_consF (e_var 9) a_nil))) (e_toR (e_var 11)) e_int))))) a_nil)))))))))
def N_refutation : List Str := ["row", "k", "j", "found", "i"]
theorem S_refutation : FnScope N_refutation ["row"] (defScope (top 25)) := sc_ok (by kernel_rfl)
def s_refutation_1 : SM := (sExpr (mCall 1 M_check_bounds (aCons (mVar 0) aNil)))
def s_refutation_2 : SM := (sSet 3 (mCall 3 M_of_two (aCons (mVar 0) (aCons (mVar 2) (aCons (mVar 1) aNil)))))
def s_refutation_3 : SM := (sRet (mVar 3))
def s_refutation_4 : SM := (sIf (tBin cNotN (mVar 3) (mC .non)) s_refutation_3 sNil)
def s_refutation_5 : SM := (sFor (iRng1M (aCons (mVar 1) aNil)) (gNm 2)
  (sSeq s_refutation_2 s_refutation_4) [2, 3])
def s_refutation_6 : SM := (sFor (iRng1M (aCons (mCallB bLen (aCons (mVar 0) aNil)) aNil)) (gNm 1)
  s_refutation_5 [1, 2, 3])
def s_refutation_7 : SM := (sSet 3 (mCall 4 M_of_three (aCons (mVar 0) (aCons (mVar 4) (aCons (mVar 2) (aCons (mVar 1) aNil))))))
def s_refutation_8 : SM := (sFor (iRng1M (aCons (mVar 2) aNil)) (gNm 4)
  (sSeq s_refutation_7 s_refutation_4) [3, 4])
def s_refutation_9 : SM := (sFor (iRng1M (aCons (mVar 1) aNil)) (gNm 2)
  s_refutation_8 [2, 3, 4])
def s_refutation_10 : SM := (sFor (iRng1M (aCons (mCallB bLen (aCons (mVar 0) aNil)) aNil)) (gNm 1)
  s_refutation_9 [1, 2, 3, 4])
def s_refutation_11 : SM := (sRet (mC .non))
def B_refutation : SM := (sSeq s_refutation_1 (sSeq s_refutation_6 (sSeq s_refutation_10 s_refutation_11)))
def M_refutation : FM := fnM 5 B_refutation
theorem cal_refutation (h : Hy P K mg cs tg) (TB : ∀ p ∈ cs, TabB base mg p.1 p.2) : CalM P w K mg base (tbO cs tg) 7 "refutation" 1 M_refutation := by
  obtain ⟨f, fd, c, T, F⟩ := h.f_refutation
  refine mk_cal (k := 6) (N := N_refutation) F S_refutation TB (fun _ _ _ _ _ _ us hl => match us, hl with | [_], _ => rfl) fun A outer s H E D => ?_
  have S := S_refutation
  exact (b_cons (s_expr (e_call (cal_check_bounds h TB) D.hr (by decide) rfl D.tk (a_consF (e_var 0) a_nil)))
  (b_cons (s_for (passes_of rfl) D.cm (i_range1 rfl h.n_range (a_consR (e_toR (e_callB (x := "len") cv_len (by rfl) h.n_len boot_len (a_consR (e_toR (e_var 0)) a_nil))) a_nil)) (g_name (i := 1) S.nd rfl (by first | exact Or.inl rfl | exact Or.inr rfl))
  (b_one (s_for (passes_of rfl) D.cm (i_range1 rfl h.n_range (a_consR (e_toR (e_var 1)) a_nil)) (g_name (i := 2) S.nd rfl (by first | exact Or.inl rfl | exact Or.inr rfl))
  (b_cons (s_set (i := 3) S.nd rfl (by first | exact Or.inl rfl | exact Or.inr rfl) (e_call (cal_of_two h TB) D.hr (by decide) rfl D.tk (a_consF (e_var 0) (a_consF (e_var 2) (a_consF (e_var 1) a_nil)))))
  (b_one (s_if (t_cmp opv_isnot (e_toR (e_var 3)) (e_toR e_non) rfl) (b_one (s_ret (e_var 3))) b_nil))) [2, 3])) [1, 2, 3])
  (b_cons (s_for (passes_of rfl) D.cm (i_range1 rfl h.n_range (a_consR (e_toR (e_callB (x := "len") cv_len (by rfl) h.n_len boot_len (a_consR (e_toR (e_var 0)) a_nil))) a_nil)) (g_name (i := 1) S.nd rfl (by first | exact Or.inl rfl | exact Or.inr rfl))
  (b_one (s_for (passes_of rfl) D.cm (i_range1 rfl h.n_range (a_consR (e_toR (e_var 1)) a_nil)) (g_name (i := 2) S.nd rfl (by first | exact Or.inl rfl | exact Or.inr rfl))
  (b_one (s_for (passes_of rfl) D.cm (i_range1 rfl h.n_range (a_consR (e_toR (e_var 2)) a_nil)) (g_name (i := 4) S.nd rfl (by first | exact Or.inl rfl | exact Or.inr rfl))
  (b_cons (s_set (i := 3) S.nd rfl (by first | exact Or.inl rfl | exact Or.inr rfl) (e_call (cal_of_three h TB) D.hr (by decide) rfl D.tk (a_consF (e_var 0) (a_consF (e_var 4) (a_consF (e_var 2) (a_consF (e_var 1) a_nil))))))
  (b_one (s_if (t_cmp opv_isnot (e_toR (e_var 3)) (e_toR e_non) rfl) (b_one (s_ret (e_var 3))) b_nil))) [3, 4])) [2, 3, 4])) [1, 2, 3, 4])
  (b_one (s_ret e_non)))))
def N_is_ahead : List Str := ["one", "other", "first"]
theorem S_is_ahead : FnScope N_is_ahead ["one", "other"] (defScope (top 29)) := sc_ok (by kernel_rfl)
def s_is_ahead_1 : SM := (sSet 2 (mCall 2 M_stands (aCons (mIx (mVar 0) (mC (.int 0))) (aCons (mIx (mVar 1) (mC (.int 0))) aNil))))
def s_is_ahead_2 : SM := (sRet (eOr (mBin cLt (mVar 2) (mC (.int 0))) (eAnd (mBin cEq (mVar 2) (mC (.int 0))) (mBin cLt (mCall 2 M_stands (aCons (mIx (mVar 0) (mC (.int 1))) (aCons (mIx (mVar 1) (mC (.int 1))) aNil))) (mC (.int 0))))))
def B_is_ahead : SM := (sSeq s_is_ahead_1 s_is_ahead_2)
def M_is_ahead : FM := fnM 3 B_is_ahead
theorem cal_is_ahead (h : Hy P K mg cs tg) (TB : ∀ p ∈ cs, TabB base mg p.1 p.2) : CalM P w K mg base (tbO cs tg) 2 "is_ahead" 2 M_is_ahead := by
  obtain ⟨f, fd, c, T, F⟩ := h.f_is_ahead
  refine mk_cal (k := 1) (N := N_is_ahead) F S_is_ahead TB (fun _ _ _ _ _ _ us hl => match us, hl with | [_, _], _ => rfl) fun A outer s H E D => ?_
  have S := S_is_ahead
  exact (b_cons (s_set (i := 2) S.nd rfl (by first | exact Or.inl rfl | exact Or.inr rfl) (e_call (cal_stands h TB) D.hr (by decide) rfl D.tk (a_consF (e_ix (e_toR (e_var 0)) (e_toR e_int) (fun _ _ => rfl)) (a_consF (e_ix (e_toR (e_var 1)) (e_toR e_int) (fun _ _ => rfl)) a_nil))))
  (b_one (s_ret (e_or (e_cmp (opv_lt (u64_of D.hr)) (e_toR (e_var 2)) (e_toR e_int) rfl) (e_one (e_and (e_cmp (opv_eq (u64_of D.hr)) (e_toR (e_var 2)) (e_toR e_int) rfl) (e_one (e_cmp (opv_lt (u64_of D.hr)) (e_toR (e_call (cal_stands h TB) D.hr (by decide) rfl D.tk (a_consF (e_ix (e_toR (e_var 0)) (e_toR e_int) (fun _ _ => rfl)) (a_consF (e_ix (e_toR (e_var 1)) (e_toR e_int) (fun _ _ => rfl)) a_nil)))) (e_toR e_int) rfl))))))))
def N_greatest : List Str := ["row", "box", "goal", "best", "corner", "here", "order"]
theorem S_greatest : FnScope N_greatest ["row", "box", "goal"] (defScope (top 28)) := sc_ok (by kernel_rfl)
def s_greatest_1 : SM := (sSet 3 (mC .non))
def s_greatest_2 : SM := (sSet 5 (mCall 2 M_plus (aCons (mCall 2 M_times (aCons (mTup (aCons (mIx (mVar 2) (mC (.int 0))) (aCons (mC (.int 1)) aNil))) (aCons (mIx (mVar 4) (mC (.int 0))) aNil))) (aCons (mCall 2 M_times (aCons (mTup (aCons (mIx (mVar 2) (mC (.int 1))) (aCons (mC (.int 1)) aNil))) (aCons (mIx (mVar 4) (mC (.int 1))) aNil))) aNil))))
def s_greatest_3 : SM := (sSet 6 (eIf (tBin cIsN (mVar 3) (mC .non)) (mC (.int 1)) (mCall 2 M_stands (aCons (mVar 5) (aCons (mIx (mVar 3) (mC (.int 0))) aNil)))))
def s_greatest_4 : SM := (sSet 3 (mTup (aCons (mVar 5) (aCons (mVar 4) aNil))))
def s_greatest_5 : SM := (sIf (tOrM (tBin cGt (mVar 6) (mC (.int 0))) (tAndM (tBin cEq (mVar 6) (mC (.int 0))) (tVal (mCall 2 M_is_ahead (aCons (mVar 4) (aCons (mIx (mVar 3) (mC (.int 1))) aNil)))))) s_greatest_4 sNil)
def s_greatest_6 : SM := (sFor (iSeq (mCall 2 M_left_of (aCons (mVar 0) (aCons (mVar 1) aNil)))) (gNm 4)
  (sSeq s_greatest_2 (sSeq s_greatest_3 s_greatest_5)) [4, 5, 6])
def s_greatest_7 : SM := (sRet (mVar 3))
def B_greatest : SM := (sSeq s_greatest_1 (sSeq s_greatest_6 s_greatest_7))
def M_greatest : FM := fnM 7 B_greatest
theorem cal_greatest (h : Hy P K mg cs tg) (TB : ∀ p ∈ cs, TabB base mg p.1 p.2) : CalM P w K mg base (tbO cs tg) 8 "greatest" 3 M_greatest := by
  obtain ⟨f, fd, c, T, F⟩ := h.f_greatest
  refine mk_cal (k := 7) (N := N_greatest) F S_greatest TB (fun _ _ _ _ _ _ us hl => match us, hl with | [_, _, _], _ => rfl) fun A outer s H E D => ?_
  have S := S_greatest
  exact (b_cons (s_set (i := 3) S.nd rfl (by first | exact Or.inl rfl | exact Or.inr rfl) e_non)
  (b_cons (s_for (passes_of rfl) D.cm (i_seq (e_call (cal_left_of h TB) D.hr (by decide) rfl D.tk (a_consF (e_var 0) (a_consF (e_var 1) a_nil)))) (g_name (i := 4) S.nd rfl (by first | exact Or.inl rfl | exact Or.inr rfl))
  (b_cons (s_set (i := 5) S.nd rfl (by first | exact Or.inl rfl | exact Or.inr rfl) (e_call (cal_plus h TB) D.hr (by decide) rfl D.tk (a_consF (e_call (cal_times h TB) D.hr (by decide) rfl D.tk (a_consF (e_tup (a_consF (e_ix (e_toR (e_var 2)) (e_toR e_int) (fun _ _ => rfl)) (a_consF e_int a_nil))) (a_consF (e_ix (e_toR (e_var 4)) (e_toR e_int) (fun _ _ => rfl)) a_nil))) (a_consF (e_call (cal_times h TB) D.hr (by decide) rfl D.tk (a_consF (e_tup (a_consF (e_ix (e_toR (e_var 2)) (e_toR e_int) (fun _ _ => rfl)) (a_consF e_int a_nil))) (a_consF (e_ix (e_toR (e_var 4)) (e_toR e_int) (fun _ _ => rfl)) a_nil))) a_nil))))
  (b_cons (s_set (i := 6) S.nd rfl (by first | exact Or.inl rfl | exact Or.inr rfl) (e_if (t_cmp opv_is (e_toR (e_var 3)) (e_toR e_non) rfl) e_int (e_call (cal_stands h TB) D.hr (by decide) rfl D.tk (a_consF (e_var 5) (a_consF (e_ix (e_toR (e_var 3)) (e_toR e_int) (fun _ _ => rfl)) a_nil)))))
  (b_one (s_if (t_w (w_or (t_cmp (opv_gt (u64_of D.hr)) (e_toR (e_var 6)) (e_toR e_int) rfl) (w_or1 (t_w (w_and (t_cmp (opv_eq (u64_of D.hr)) (e_toR (e_var 6)) (e_toR e_int) rfl) (w_and1 (t_val (e_toR (e_call (cal_is_ahead h TB) D.hr (by decide) rfl D.tk (a_consF (e_var 4) (a_consF (e_ix (e_toR (e_var 3)) (e_toR e_int) (fun _ _ => rfl)) a_nil))))))))))) (b_one (s_set (i := 3) S.nd rfl (by first | exact Or.inl rfl | exact Or.inr rfl) (e_tup (a_consF (e_var 5) (a_consF (e_var 4) a_nil))))) b_nil)))) [4, 5, 6])
  (b_one (s_ret (e_var 3)))))
def N_law : List Str := ["script", "box", "dice", "row", "k", "a", "b", "corners", "area", "rest", "c", "goal", "most", "least"]
theorem S_law : FnScope N_law ["script"] (defScope (top 36)) := sc_ok (by kernel_rfl)
def s_law_1 : SM := (sSet 1 (mTup (aCons (mBin pSub (mC (.int 0)) (mC (.int 5))) (aCons (mBin pSub (mC (.int 0)) (mC (.int 5))) (aCons (mC (.int 5)) (aCons (mC (.int 5)) aNil))))))
def s_law_2 : SM := (sSetO 3 (mLst aNil))
def s_law_3 : SM := (sAsg (gTp 2 (gConsM (gNm 5) (gConsM (gNm 6) gNilM))) (mCall 2 M_law_point (aCons (mVar 2) (aCons (mC (.int 3)) aNil))))
def s_law_4 : SM := (sAppend 3 (mTup (aCons (mVar 5) (aCons (mVar 6) (aCons (mBin pSub (mCall 2 M_law_roll (aCons (mVar 2) (aCons (mC (.int 13)) aNil))) (mC (.int 6))) aNil)))))
def s_law_5 : SM := (sIf (tBin cNe (mTup (aCons (mVar 5) (aCons (mVar 6) aNil))) (mTup (aCons (mC (.int 0)) (aCons (mC (.int 0)) aNil)))) s_law_4 sNil)
def s_law_6 : SM := (sFor (iRng1M (aCons (mCall 2 M_law_roll (aCons (mVar 2) (aCons (mC (.int 6)) aNil))) aNil)) (gNm 4)
  (sSeq s_law_3 s_law_5) [4, 5, 6])
def s_law_7 : SM := (sFrz 3 (sPar [7, 8] (vF (mCall 2 M_left_of (aCons (mVar 3) (aCons (mVar 1) aNil))) (vF (mCall 2 M_law_area (aCons (mVar 3) (aCons (mVar 1) aNil))) vNil))))
def s_law_8 : SM := (sRet (mC (.bl false)))
def s_law_9 : SM := (sIf (tBin cNe (mCall 2 M_law_area (aCons (mLstRev (mVar 3)) (aCons (mVar 1) aNil))) (mVar 8)) s_law_8 sNil)
def s_law_10 : SM := (sIf (tBin cNe (mCallN bSorted3 (aCons (mCall 2 M_left_of (aCons (mLstRev (mVar 3)) (aCons (mVar 1) aNil))) aNil)) (mCallN bSorted3 (aCons (mVar 7) aNil))) s_law_8 sNil)
def s_law_11 : SM := (sIf (tOrM (tBin cNe (mCall 2 M_left_of (aCons (mBin pAdd (mVar 3) (mVar 3)) (aCons (mVar 1) aNil))) (mVar 7)) (tBin cNe (mCall 2 M_law_area (aCons (mComp (iSeq (mVar 3)) (gTp 3 (gConsM (gNm 5) (gConsM (gNm 6) (gConsM (gNm 10) gNilM)))) tYesM (mTup (aCons (mBin pMul (mC (.int 3)) (mVar 5)) (aCons (mBin pMul (mC (.int 3)) (mVar 6)) (aCons (mBin pMul (mC (.int 3)) (mVar 10)) aNil)))) [5, 6, 10]) (aCons (mVar 1) aNil))) (mVar 8))) s_law_8 sNil)
def s_law_12 : SM := (sIf (tOrM (tAndM (tBin cNe (mVar 7) (mTup aNil)) (tBin cIsN (mCall 1 M_a_point (aCons (mVar 3) aNil)) (mC .non))) (tBin cNe (mBin cIsN (mCall 1 M_a_point (aCons (mVar 3) aNil)) (mC .non)) (mBin cIsN (mCall 1 M_a_point (aCons (mLstRev (mVar 3)) aNil)) (mC .non)))) s_law_8 sNil)
def s_law_13 : SM := (sIf (tBin cNe (mBin cIsN (mCall 1 M_refutation (aCons (mLstRev (mVar 3)) aNil)) (mC .non)) (mBin cIsN (mCall 1 M_refutation (aCons (mVar 3) aNil)) (mC .non))) s_law_8 sNil)
def s_law_14 : SM := (sSet 9 (mBin pAdd (mSlice (mVar 3) pN (pS (mVar 4))) (mSlice (mVar 3) (pS (mBin pAdd (mVar 4) (mC (.int 1)))) pN)))
def s_law_15 : SM := (sAsg (gTp 3 (gConsM (gNm 5) (gConsM (gNm 6) (gConsM (gNm 10) gNilM)))) (mIx (mVar 3) (mVar 4)))
def s_law_16 : SM := (sIf (tBin cLt (mCall 2 M_stands (aCons (mCall 2 M_law_area (aCons (mVar 9) (aCons (mVar 1) aNil))) (aCons (mVar 8) aNil))) (mC (.int 0))) s_law_8 sNil)
def s_law_17 : SM := (sIf (tBin cNe (mCall 2 M_plus (aCons (mVar 8) (aCons (mCall 2 M_law_area (aCons (mBin pAdd (mVar 9) (mLst (aCons (mTup (aCons (mBin pSub (mC (.int 0)) (mVar 5)) (aCons (mBin pSub (mC (.int 0)) (mVar 6)) (aCons (mBin pSub (mC (.int 0)) (mVar 10)) aNil)))) aNil))) (aCons (mVar 1) aNil))) aNil))) (mCall 2 M_law_area (aCons (mVar 9) (aCons (mVar 1) aNil)))) s_law_8 sNil)
def s_law_18 : SM := (sFor (iRng1M (aCons (mCallB bLen (aCons (mVar 3) aNil)) aNil)) (gNm 4)
  (sSeq s_law_14 (sSeq s_law_15 (sSeq s_law_16 s_law_17))) [4, 5, 6, 9, 10])
def s_law_19 : SM := (sSet 11 (mCall 2 M_law_point (aCons (mVar 2) (aCons (mC (.int 3)) aNil))))
def s_law_20 : SM := (sPar [12, 13] (vF (mCall 3 M_greatest (aCons (mVar 3) (aCons (mVar 1) (aCons (mVar 11) aNil)))) (vF (mCall 3 M_greatest (aCons (mVar 3) (aCons (mVar 1) (aCons (mTup (aCons (mBin pSub (mC (.int 0)) (mIx (mVar 11) (mC (.int 0)))) (aCons (mBin pSub (mC (.int 0)) (mIx (mVar 11) (mC (.int 1)))) aNil))) aNil)))) vNil)))
def s_law_21 : SM := (sIf (tOrM (tBin cNe (mBin cIsN (mVar 12) (mC .non)) (mBin cEq (mVar 7) (mTup aNil))) (tBin cNe (mBin cIsN (mVar 13) (mC .non)) (mBin cEq (mVar 7) (mTup aNil)))) s_law_8 sNil)
def s_law_22 : SM := (sIf (tAndM (tBin cNotN (mVar 12) (mC .non)) (tBin cLt (mCall 2 M_stands (aCons (mCall 2 M_plus (aCons (mIx (mVar 12) (mC (.int 0))) (aCons (mIx (mVar 13) (mC (.int 0))) aNil))) (aCons (mTup (aCons (mC (.int 0)) (aCons (mC (.int 1)) aNil))) aNil))) (mC (.int 0)))) s_law_8 sNil)
def s_law_23 : SM := (sIf (tAndM (tBin cNe (mVar 8) (mTup (aCons (mC (.int 0)) (aCons (mC (.int 1)) aNil)))) (tBin cGt (mIx (mCall 2 M_minus (aCons (mTup (aCons (mC (.int 0)) (aCons (mC (.int 1)) aNil))) (aCons (mVar 8) aNil))) (mC (.int 0))) (mC (.int 0)))) s_law_8 sNil)
def s_law_24 : SM := (sFor (iSeq (mCall 2 M_law_rounds (aCons (mVar 0) (aCons (mC (.int 3)) aNil)))) (gNm 2)
  (sSeq s_law_2 (sSeq s_law_6 (sSeq s_law_7 (sSeq s_law_9 (sSeq s_law_10 (sSeq s_law_11 (sSeq s_law_12 (sSeq s_law_13 (sSeq s_law_18 (sSeq s_law_19 (sSeq s_law_20 (sSeq s_law_21 (sSeq s_law_22 s_law_23))))))))))))) [2, 3, 4, 5, 6, 7, 8, 9, 10, 11, 12, 13])
def s_law_25 : SM := (sRet (mC (.bl true)))
def B_law : SM := (sSeq s_law_1 (sSeq s_law_24 s_law_25))
def M_law : FM := fnM 14 B_law
theorem ok_law {f : Addr} {fd : FuncData} {c T : Addr} (h : Hy P K mg cs tg) (TB : ∀ p ∈ cs, TabB base mg p.1 p.2) (F : FnAt K mg cs tg none "law" (top 36) f fd c T) : FnOk P w K mg base (L2.CX P w) 10 f fd ["script"] (spM K mg (tbO cs tg) 1 M_law) := by
  refine mk_fn (k := 9) (N := N_law) (ps := ["script"]) F S_law TB fun A outer s H E D => ?_
  have S := S_law
  exact (b_cons (s_set (i := 1) S.nd rfl (by first | exact Or.inl rfl | exact Or.inr rfl) (e_tup (a_consF (e_bin opv_sub (e_toR e_int) (e_toR e_int)) (a_consF (e_bin opv_sub (e_toR e_int) (e_toR e_int)) (a_consF e_int (a_consF e_int a_nil))))))
  (b_cons (s_for (passes_of rfl) D.cm (i_seq (e_call (cal_law_rounds h TB) D.hr (by decide) rfl D.tk (a_consF (e_var 0) (a_consF e_int a_nil)))) (g_name (i := 2) S.nd rfl (by first | exact Or.inl rfl | exact Or.inr rfl))
  (b_cons (s_setO (i := 3) S.nd rfl (by first | exact Or.inl rfl | exact Or.inr rfl) (e_lst a_nil))
  (b_cons (s_for (passes_of rfl) D.cm (i_range1 rfl h.n_range (a_consR (e_toR (e_call (cal_law_roll h TB) D.hr (by decide) rfl D.tk (a_consF (e_var 2) (a_consF e_int a_nil)))) a_nil)) (g_name (i := 4) S.nd rfl (by first | exact Or.inl rfl | exact Or.inr rfl))
  (b_cons (s_asg (e_call (cal_law_point h TB) D.hr (by decide) rfl D.tk (a_consF (e_var 2) (a_consF e_int a_nil))) (g_tup D.cm (gs_cons (g_name (i := 5) S.nd rfl (by first | exact Or.inl rfl | exact Or.inr rfl)) (gs_cons (g_name (i := 6) S.nd rfl (by first | exact Or.inl rfl | exact Or.inr rfl)) gs_nil))))
  (b_one (s_if (t_cmp (opv_ne (u64_of D.hr)) (e_toR (e_tup (a_consF (e_var 5) (a_consF (e_var 6) a_nil)))) (e_toR (e_tup (a_consF e_int (a_consF e_int a_nil)))) rfl) (b_one (s_append (ps_expr (pe_bm PySem.F.plainAttrs_list PySem.F.slot_list_append PySem.F.type_list_append mt_append (pv 3) (pa_cons (e_tup (a_consF (e_var 5) (a_consF (e_var 6) (a_consF (e_bin opv_sub (e_toR (e_call (cal_law_roll h TB) D.hr (by decide) rfl D.tk (a_consF (e_var 2) (a_consF e_int a_nil)))) (e_toR e_int)) a_nil)))) pa_nil))))) b_nil))) [4, 5, 6])
  (b_cons (s_frz (i := 3) (s_par2 (ps_par (i := 7) (j := 8) D.cm S.nd rfl rfl (by decide) rfl rfl (v_F (e_call (cal_left_of h TB) D.hr (by decide) rfl D.tk (a_consF (e_var 3) (a_consF (e_var 1) a_nil))) (v_F (e_call (cal_law_area h TB) D.hr (by decide) rfl D.tk (a_consF (e_var 3) (a_consF (e_var 1) a_nil))) v_nil)) (by rfl))))
  (b_cons (s_if (t_cmp (opv_ne (u64_of D.hr)) (e_toR (e_call (cal_law_area h TB) D.hr (by decide) rfl D.tk (a_consF (e_toF (e_listRev D.cm rfl h.n_list rfl h.n_reversed (e_toR (e_var 3)))) (a_consF (e_var 1) a_nil)))) (e_toR (e_var 8)) rfl) (b_one (s_ret e_bl)) b_nil)
  (b_cons (s_if (t_cmp (opv_ne (u64_of D.hr)) (e_toR (e_toF (e_callBN (x := "sorted") (cn_sorted3 D.cm (u100_of D.hr)) (by rfl) h.n_sorted boot_sorted (a_consR (e_toR (e_call (cal_left_of h TB) D.hr (by decide) rfl D.tk (a_consF (e_toF (e_listRev D.cm rfl h.n_list rfl h.n_reversed (e_toR (e_var 3)))) (a_consF (e_var 1) a_nil)))) a_nil)))) (e_toR (e_toF (e_callBN (x := "sorted") (cn_sorted3 D.cm (u100_of D.hr)) (by rfl) h.n_sorted boot_sorted (a_consR (e_toR (e_var 7)) a_nil)))) rfl) (b_one (s_ret e_bl)) b_nil)
  (b_cons (s_if (t_w (w_or (t_cmp (opv_ne (u64_of D.hr)) (e_toR (e_call (cal_left_of h TB) D.hr (by decide) rfl D.tk (a_consF (e_bin opv_add (e_toR (e_var 3)) (e_toR (e_var 3))) (a_consF (e_var 1) a_nil)))) (e_toR (e_var 7)) rfl) (w_or1 (t_cmp (opv_ne (u64_of D.hr)) (e_toR (e_call (cal_law_area h TB) D.hr (by decide) rfl D.tk (a_consF (e_toF (e_lc (own := [("a", 5), ("b", 6), ("c", 10)]) D.cm S.nd (i_seq (e_var 3)) (blk_ok (by kernel_rfl)) (by exact fun _ _ _ _ _ => (g_tup D.cm (gs_cons (g_name (i := 5) S.nd rfl (by first | exact Or.inl rfl | exact Or.inr rfl)) (gs_cons (g_name (i := 6) S.nd rfl (by first | exact Or.inl rfl | exact Or.inr rfl)) (gs_cons (g_name (i := 10) S.nd rfl (by first | exact Or.inl rfl | exact Or.inr rfl)) gs_nil))))) (by exact fun _ _ _ _ _ => ts_nil) (by exact fun _ _ _ _ _ => (e_tup (a_consF (e_bin opv_mul (e_toR e_int) (e_toR (e_var 5))) (a_consF (e_bin opv_mul (e_toR e_int) (e_toR (e_var 6))) (a_consF (e_bin opv_mul (e_toR e_int) (e_toR (e_var 10))) a_nil))))))) (a_consF (e_var 1) a_nil)))) (e_toR (e_var 8)) rfl)))) (b_one (s_ret e_bl)) b_nil)
  (b_cons (s_if (t_w (w_or (t_w (w_and (t_cmp (opv_ne (u64_of D.hr)) (e_toR (e_var 7)) (e_toR (e_tup a_nil)) rfl) (w_and1 (t_cmp opv_is (e_toR (e_call (cal_a_point h TB) D.hr (by decide) rfl D.tk (a_consF (e_var 3) a_nil))) (e_toR e_non) rfl)))) (w_or1 (t_cmp (opv_ne (u64_of D.hr)) (e_toR (e_cmp opv_is (e_toR (e_call (cal_a_point h TB) D.hr (by decide) rfl D.tk (a_consF (e_var 3) a_nil))) (e_toR e_non) rfl)) (e_toR (e_cmp opv_is (e_toR (e_call (cal_a_point h TB) D.hr (by decide) rfl D.tk (a_consF (e_toF (e_listRev D.cm rfl h.n_list rfl h.n_reversed (e_toR (e_var 3)))) a_nil))) (e_toR e_non) rfl)) rfl)))) (b_one (s_ret e_bl)) b_nil)
  (b_cons (s_if (t_cmp (opv_ne (u64_of D.hr)) (e_toR (e_cmp opv_is (e_toR (e_call (cal_refutation h TB) D.hr (by decide) rfl D.tk (a_consF (e_toF (e_listRev D.cm rfl h.n_list rfl h.n_reversed (e_toR (e_var 3)))) a_nil))) (e_toR e_non) rfl)) (e_toR (e_cmp opv_is (e_toR (e_call (cal_refutation h TB) D.hr (by decide) rfl D.tk (a_consF (e_var 3) a_nil))) (e_toR e_non) rfl)) rfl) (b_one (s_ret e_bl)) b_nil)
  (b_cons (s_for (passes_of rfl) D.cm (i_range1 rfl h.n_range (a_consR (e_toR (e_callB (x := "len") cv_len (by rfl) h.n_len boot_len (a_consR (e_toR (e_var 3)) a_nil))) a_nil)) (g_name (i := 4) S.nd rfl (by first | exact Or.inl rfl | exact Or.inr rfl))
  (b_cons (s_set (i := 9) S.nd rfl (by first | exact Or.inl rfl | exact Or.inr rfl) (e_bin opv_add (e_toR (e_slice (e_toR (e_var 3)) p_none (p_some (e_toR (e_var 4))))) (e_toR (e_slice (e_toR (e_var 3)) (p_some (e_toR (e_bin opv_add (e_toR (e_var 4)) (e_toR e_int)))) p_none))))
  (b_cons (s_asg (e_ix (e_toR (e_var 3)) (e_toR (e_var 4)) (fun _ _ => rfl)) (g_tup D.cm (gs_cons (g_name (i := 5) S.nd rfl (by first | exact Or.inl rfl | exact Or.inr rfl)) (gs_cons (g_name (i := 6) S.nd rfl (by first | exact Or.inl rfl | exact Or.inr rfl)) (gs_cons (g_name (i := 10) S.nd rfl (by first | exact Or.inl rfl | exact Or.inr rfl)) gs_nil)))))
  (b_cons (s_if (t_cmp (opv_lt (u64_of D.hr)) (e_toR (e_call (cal_stands h TB) D.hr (by decide) rfl D.tk (a_consF (e_call (cal_law_area h TB) D.hr (by decide) rfl D.tk (a_consF (e_var 9) (a_consF (e_var 1) a_nil))) (a_consF (e_var 8) a_nil)))) (e_toR e_int) rfl) (b_one (s_ret e_bl)) b_nil)
  (b_one (s_if (t_cmp (opv_ne (u64_of D.hr)) (e_toR (e_call (cal_plus h TB) D.hr (by decide) rfl D.tk (a_consF (e_var 8) (a_consF (e_call (cal_law_area h TB) D.hr (by decide) rfl D.tk (a_consF (e_bin opv_add (e_toR (e_var 9)) (e_toR (e_toF (e_lst (a_consF (e_tup (a_consF (e_bin opv_sub (e_toR e_int) (e_toR (e_var 5))) (a_consF (e_bin opv_sub (e_toR e_int) (e_toR (e_var 6))) (a_consF (e_bin opv_sub (e_toR e_int) (e_toR (e_var 10))) a_nil)))) a_nil))))) (a_consF (e_var 1) a_nil))) a_nil)))) (e_toR (e_call (cal_law_area h TB) D.hr (by decide) rfl D.tk (a_consF (e_var 9) (a_consF (e_var 1) a_nil)))) rfl) (b_one (s_ret e_bl)) b_nil))))) [4, 5, 6, 9, 10])
  (b_cons (s_set (i := 11) S.nd rfl (by first | exact Or.inl rfl | exact Or.inr rfl) (e_call (cal_law_point h TB) D.hr (by decide) rfl D.tk (a_consF (e_var 2) (a_consF e_int a_nil))))
  (b_cons (s_par2 (ps_par (i := 12) (j := 13) D.cm S.nd rfl rfl (by decide) rfl rfl (v_F (e_call (cal_greatest h TB) D.hr (by decide) rfl D.tk (a_consF (e_var 3) (a_consF (e_var 1) (a_consF (e_var 11) a_nil)))) (v_F (e_call (cal_greatest h TB) D.hr (by decide) rfl D.tk (a_consF (e_var 3) (a_consF (e_var 1) (a_consF (e_tup (a_consF (e_bin opv_sub (e_toR e_int) (e_toR (e_ix (e_toR (e_var 11)) (e_toR e_int) (fun _ _ => rfl)))) (a_consF (e_bin opv_sub (e_toR e_int) (e_toR (e_ix (e_toR (e_var 11)) (e_toR e_int) (fun _ _ => rfl)))) a_nil))) a_nil)))) v_nil)) (by rfl)))
  (b_cons (s_if (t_w (w_or (t_cmp (opv_ne (u64_of D.hr)) (e_toR (e_cmp opv_is (e_toR (e_var 12)) (e_toR e_non) rfl)) (e_toR (e_cmp (opv_eq (u64_of D.hr)) (e_toR (e_var 7)) (e_toR (e_tup a_nil)) rfl)) rfl) (w_or1 (t_cmp (opv_ne (u64_of D.hr)) (e_toR (e_cmp opv_is (e_toR (e_var 13)) (e_toR e_non) rfl)) (e_toR (e_cmp (opv_eq (u64_of D.hr)) (e_toR (e_var 7)) (e_toR (e_tup a_nil)) rfl)) rfl)))) (b_one (s_ret e_bl)) b_nil)
  (b_cons (s_if (t_w (w_and (t_cmp opv_isnot (e_toR (e_var 12)) (e_toR e_non) rfl) (w_and1 (t_cmp (opv_lt (u64_of D.hr)) (e_toR (e_call (cal_stands h TB) D.hr (by decide) rfl D.tk (a_consF (e_call (cal_plus h TB) D.hr (by decide) rfl D.tk (a_consF (e_ix (e_toR (e_var 12)) (e_toR e_int) (fun _ _ => rfl)) (a_consF (e_ix (e_toR (e_var 13)) (e_toR e_int) (fun _ _ => rfl)) a_nil))) (a_consF (e_tup (a_consF e_int (a_consF e_int a_nil))) a_nil)))) (e_toR e_int) rfl)))) (b_one (s_ret e_bl)) b_nil)
  (b_one (s_if (t_w (w_and (t_cmp (opv_ne (u64_of D.hr)) (e_toR (e_var 8)) (e_toR (e_tup (a_consF e_int (a_consF e_int a_nil)))) rfl) (w_and1 (t_cmp (opv_gt (u64_of D.hr)) (e_toR (e_ix (e_toR (e_call (cal_minus h TB) D.hr (by decide) rfl D.tk (a_consF (e_tup (a_consF e_int (a_consF e_int a_nil))) (a_consF (e_var 8) a_nil)))) (e_toR e_int) (fun _ _ => rfl))) (e_toR e_int) rfl)))) (b_one (s_ret e_bl)) b_nil))))))))))))))) [2, 3, 4, 5, 6, 7, 8, 9, 10, 11, 12, 13])
  (b_one (s_ret e_bl))))
def d_law_dice : He.DefD := ⟨("_law_dice", none), "_law_dice", "_law_dice", defArgs (top 31), defBody (top 31), defScope (top 31), [], []⟩
def d_law_rounds : He.DefD := ⟨("_law_rounds", none), "_law_rounds", "_law_rounds", defArgs (top 33), defBody (top 33), defScope (top 33), [], []⟩
def d_law_roll : He.DefD := ⟨("_law_roll", none), "_law_roll", "_law_roll", defArgs (top 32), defBody (top 32), defScope (top 32), [], []⟩
def d_law_point : He.DefD := ⟨("_law_point", none), "_law_point", "_law_point", defArgs (top 34), defBody (top 34), defScope (top 34), [], []⟩
def d_is_whole : He.DefD := ⟨("is_whole", none), "is_whole", "is_whole", defArgs (top 5), defBody (top 5), defScope (top 5), [], []⟩
def d_is_bound : He.DefD := ⟨("is_bound", none), "is_bound", "is_bound", defArgs (top 15), defBody (top 15), defScope (top 15), [], []⟩
def d_check_bounds : He.DefD := ⟨("check_bounds", none), "check_bounds", "check_bounds", defArgs (top 16), defBody (top 16), defScope (top 16), [], []⟩
def d_common : He.DefD := ⟨("common", none), "common", "common", defArgs (top 6), defBody (top 6), defScope (top 6), [], []⟩
def d_part : He.DefD := ⟨("part", none), "part", "part", defArgs (top 7), defBody (top 7), defScope (top 7), [], []⟩
def d_times : He.DefD := ⟨("times", none), "times", "times", defArgs (top 10), defBody (top 10), defScope (top 10), [], []⟩
def d_plus : He.DefD := ⟨("plus", none), "plus", "plus", defArgs (top 8), defBody (top 8), defScope (top 8), [], []⟩
def d_minus : He.DefD := ⟨("minus", none), "minus", "minus", defArgs (top 9), defBody (top 9), defScope (top 9), [], []⟩
def d_value : He.DefD := ⟨("value", none), "value", "value", defArgs (top 17), defBody (top 17), defScope (top 17), [], []⟩
def d_over : He.DefD := ⟨("over", none), "over", "over", defArgs (top 11), defBody (top 11), defScope (top 11), [], []⟩
def d_cut : He.DefD := ⟨("cut", none), "cut", "cut", defArgs (top 20), defBody (top 20), defScope (top 20), [], []⟩
def d_left_of : He.DefD := ⟨("left_of", none), "left_of", "left_of", defArgs (top 21), defBody (top 21), defScope (top 21), [], []⟩
def d_double_area : He.DefD := ⟨("double_area", none), "double_area", "double_area", defArgs (top 22), defBody (top 22), defScope (top 22), [], []⟩
def d_law_area : He.DefD := ⟨("_law_area", none), "_law_area", "_law_area", defArgs (top 35), defBody (top 35), defScope (top 35), [], []⟩
def d_corner_of : He.DefD := ⟨("corner_of", none), "corner_of", "corner_of", defArgs (top 19), defBody (top 19), defScope (top 19), [], []⟩
def d_tried : He.DefD := ⟨("tried", none), "tried", "tried", defArgs (top 24), defBody (top 24), defScope (top 24), [], []⟩
def d_stands : He.DefD := ⟨("stands", none), "stands", "stands", defArgs (top 12), defBody (top 12), defScope (top 12), [], []⟩
def d_is_within : He.DefD := ⟨("is_within", none), "is_within", "is_within", defArgs (top 18), defBody (top 18), defScope (top 18), [], []⟩
def d_a_point : He.DefD := ⟨("a_point", none), "a_point", "a_point", defArgs (top 23), defBody (top 23), defScope (top 23), [], []⟩
def d_of_two : He.DefD := ⟨("of_two", none), "of_two", "of_two", defArgs (top 26), defBody (top 26), defScope (top 26), [], []⟩
def d_of_three : He.DefD := ⟨("of_three", none), "of_three", "of_three", defArgs (top 27), defBody (top 27), defScope (top 27), [], []⟩
def d_refutation : He.DefD := ⟨("refutation", none), "refutation", "refutation", defArgs (top 25), defBody (top 25), defScope (top 25), [], []⟩
def d_is_ahead : He.DefD := ⟨("is_ahead", none), "is_ahead", "is_ahead", defArgs (top 29), defBody (top 29), defScope (top 29), [], []⟩
def d_greatest : He.DefD := ⟨("greatest", none), "greatest", "greatest", defArgs (top 28), defBody (top 28), defScope (top 28), [], []⟩
def d_law : He.DefD := ⟨("law", none), "law", "law", defArgs (top 36), defBody (top 36), defScope (top 36), [], []⟩
def fn : List He.DefD := [d_law_dice, d_law_rounds, d_law_roll, d_law_point, d_is_whole, d_is_bound, d_check_bounds, d_common, d_part, d_times, d_plus, d_minus, d_value, d_over, d_cut, d_left_of, d_double_area, d_law_area, d_corner_of, d_tried, d_stands, d_is_within, d_a_point, d_of_two, d_of_three, d_refutation, d_is_ahead, d_greatest, d_law]
def lts : List (Option Str) := [(none : Option Str), (none : Option Str), (none : Option Str), (none : Option Str), (none : Option Str), (none : Option Str), (none : Option Str), (none : Option Str), (none : Option Str), (none : Option Str), (none : Option Str), (none : Option Str), (none : Option Str), (none : Option Str), (none : Option Str), (none : Option Str), (none : Option Str), (none : Option Str), (none : Option Str), (none : Option Str), (none : Option Str), (none : Option Str), (none : Option Str), (none : Option Str), (none : Option Str), (none : Option Str), (none : Option Str), (none : Option Str), (none : Option Str)]
def fa : List He.Fa := [.glo "_law_dice", .glo "_law_rounds", .glo "_law_roll", .glo "_law_point", .glo "is_whole", .glo "is_bound", .glo "check_bounds", .glo "common", .glo "part", .glo "times", .glo "plus", .glo "minus", .glo "value", .glo "over", .glo "cut", .glo "left_of", .glo "double_area", .glo "_law_area", .glo "corner_of", .glo "tried", .glo "stands", .glo "is_within", .glo "a_point", .glo "of_two", .glo "of_three", .glo "refutation", .glo "is_ahead", .glo "greatest", .glo "law", .free "abs", .free "all", .free "bool", .free "dict", .free "enumerate", .free "int", .free "isinstance", .free "len", .free "list", .free "min", .free "range", .free "reversed", .free "sorted", .free "tuple", .free "zip"]
abbrev R : PySem.W.OpenRow := PySem.W.OpenLaw.row PySem.Challenge.rw_maproom_k17_half_planes_cut_in_any_order
def cn : List (Str × PV) := [("FAR", (.int 1000000))]
def xr : List Str := ["BadNumber", "BadShape"]
def vf : List Str := []
def xa : List (Str × Str × String) := []
def xp : List (Str × Str) := []
def pb (K : PySem.W.Frag) : Bool := cn.all (cnB K) && (xr.all (xcB K) && ((XS.all fun x => XS.all fun y => xmB K (x, y)) && ((xa.all fun z => xaB K z.1 z.2.1 z.2.2) && (vf.all (fgB K) && xp.all fun z => papB R.prog.main.file K z.1 z.2))))
abbrev hk : PySem.W.Hook := hookP 6 fa fn pb
def ob (s : PySem.W.SharedT) : AlT := obsP 6 fa fn pb (HandSHeadRun.getT s)
theorem ob_eq (s : PySem.W.SharedT) : ob s = hk.obs s.abs := obsP_eq (HandSHeadRun.getT_eq s)
theorem run (w : World) : HandSHeadRun.RunEq R (PySem.W.view R.prog [36]) hk ob 5000 [("MapError" : Str), ("BadNumber" : Str), ("BadShape" : Str), ("is_whole" : Str), ("common" : Str), ("part" : Str), ("plus" : Str), ("minus" : Str), ("times" : Str), ("over" : Str), ("stands" : Str), ("FAR" : Str), ("is_bound" : Str), ("check_bounds" : Str), ("value" : Str), ("is_within" : Str), ("corner_of" : Str), ("cut" : Str), ("left_of" : Str), ("double_area" : Str), ("a_point" : Str), ("tried" : Str), ("refutation" : Str), ("of_two" : Str), ("of_three" : Str), ("greatest" : Str), ("is_ahead" : Str), ("_law_dice" : Str), ("_law_roll" : Str), ("_law_rounds" : Str), ("_law_point" : Str), ("_law_area" : Str)] w := by
  intro os
  kernel_rfl
theorem hy {K : PySem.W.Frag} {h : Heap} {mg : Str → Option Value} {cs : List (Addr × Addr)} (G : h.Ns mainGlobals mg) (S : SaysP fa fn pb h K cs) : Hy R.prog K mg cs (tgOf cs lts) := by
  have X := S.kin
  have c := S.says
  obtain ⟨z1, z2⟩ := Bool.and_eq_true_iff.mp S.pb_
  obtain ⟨z2, z3⟩ := Bool.and_eq_true_iff.mp z2
  obtain ⟨z3, z4⟩ := Bool.and_eq_true_iff.mp z3
  obtain ⟨z4, z5⟩ := Bool.and_eq_true_iff.mp z4
  obtain ⟨z5, z6⟩ := Bool.and_eq_true_iff.mp z5
  have xm : ∀ y ∈ XS, ∀ z ∈ XS, XmF K mg y z := fun y hy z hz => xm_ok X G (List.all_eq_true.mp (List.all_eq_true.mp z3 y hy) z hz)
  exact {
    n_abs := He.free_ok X G (c.fact 29 (f := .free "abs") rfl)
    n_all := He.free_ok X G (c.fact 30 (f := .free "all") rfl)
    n_bool := He.free_ok X G (c.fact 31 (f := .free "bool") rfl)
    n_dict := He.free_ok X G (c.fact 32 (f := .free "dict") rfl)
    n_enumerate := He.free_ok X G (c.fact 33 (f := .free "enumerate") rfl)
    n_int := He.free_ok X G (c.fact 34 (f := .free "int") rfl)
    n_isinstance := He.free_ok X G (c.fact 35 (f := .free "isinstance") rfl)
    n_len := He.free_ok X G (c.fact 36 (f := .free "len") rfl)
    n_list := He.free_ok X G (c.fact 37 (f := .free "list") rfl)
    n_min := He.free_ok X G (c.fact 38 (f := .free "min") rfl)
    n_range := He.free_ok X G (c.fact 39 (f := .free "range") rfl)
    n_reversed := He.free_ok X G (c.fact 40 (f := .free "reversed") rfl)
    n_sorted := He.free_ok X G (c.fact 41 (f := .free "sorted") rfl)
    n_tuple := He.free_ok X G (c.fact 42 (f := .free "tuple") rfl)
    n_zip := He.free_ok X G (c.fact 43 (f := .free "zip") rfl)
    c_FAR := con_ok X G (List.all_eq_true.mp z1 ("FAR", (.int 1000000)) (by simp [cn]))
    r_BadNumber := xc_ok X G (List.all_eq_true.mp z2 "BadNumber" (by simp [xr]))
    r_BadShape := xc_ok X G (List.all_eq_true.mp z2 "BadShape" (by simp [xr]))
    g_BadNumber := (xm "BadNumber" (by simp [XS]) "BadNumber" (by simp [XS])).elim fun C hC => ⟨_, hC.choose_spec.1⟩
    g_BadShape := (xm "BadShape" (by simp [XS]) "BadShape" (by simp [XS])).elim fun C hC => ⟨_, hC.choose_spec.1⟩
    xm := xm
    f_law_dice := fnAt_of (c.def_ 0 (d := d_law_dice) rfl) (S.at (lts := lts) 0 (d := d_law_dice) rfl rfl) (He.glo_ok X G (c.fact 0 (f := .glo "_law_dice") rfl))
    f_law_rounds := fnAt_of (c.def_ 1 (d := d_law_rounds) rfl) (S.at (lts := lts) 1 (d := d_law_rounds) rfl rfl) (He.glo_ok X G (c.fact 1 (f := .glo "_law_rounds") rfl))
    f_law_roll := fnAt_of (c.def_ 2 (d := d_law_roll) rfl) (S.at (lts := lts) 2 (d := d_law_roll) rfl rfl) (He.glo_ok X G (c.fact 2 (f := .glo "_law_roll") rfl))
    f_law_point := fnAt_of (c.def_ 3 (d := d_law_point) rfl) (S.at (lts := lts) 3 (d := d_law_point) rfl rfl) (He.glo_ok X G (c.fact 3 (f := .glo "_law_point") rfl))
    f_is_whole := fnAt_of (c.def_ 4 (d := d_is_whole) rfl) (S.at (lts := lts) 4 (d := d_is_whole) rfl rfl) (He.glo_ok X G (c.fact 4 (f := .glo "is_whole") rfl))
    f_is_bound := fnAt_of (c.def_ 5 (d := d_is_bound) rfl) (S.at (lts := lts) 5 (d := d_is_bound) rfl rfl) (He.glo_ok X G (c.fact 5 (f := .glo "is_bound") rfl))
    f_check_bounds := fnAt_of (c.def_ 6 (d := d_check_bounds) rfl) (S.at (lts := lts) 6 (d := d_check_bounds) rfl rfl) (He.glo_ok X G (c.fact 6 (f := .glo "check_bounds") rfl))
    f_common := fnAt_of (c.def_ 7 (d := d_common) rfl) (S.at (lts := lts) 7 (d := d_common) rfl rfl) (He.glo_ok X G (c.fact 7 (f := .glo "common") rfl))
    f_part := fnAt_of (c.def_ 8 (d := d_part) rfl) (S.at (lts := lts) 8 (d := d_part) rfl rfl) (He.glo_ok X G (c.fact 8 (f := .glo "part") rfl))
    f_times := fnAt_of (c.def_ 9 (d := d_times) rfl) (S.at (lts := lts) 9 (d := d_times) rfl rfl) (He.glo_ok X G (c.fact 9 (f := .glo "times") rfl))
    f_plus := fnAt_of (c.def_ 10 (d := d_plus) rfl) (S.at (lts := lts) 10 (d := d_plus) rfl rfl) (He.glo_ok X G (c.fact 10 (f := .glo "plus") rfl))
    f_minus := fnAt_of (c.def_ 11 (d := d_minus) rfl) (S.at (lts := lts) 11 (d := d_minus) rfl rfl) (He.glo_ok X G (c.fact 11 (f := .glo "minus") rfl))
    f_value := fnAt_of (c.def_ 12 (d := d_value) rfl) (S.at (lts := lts) 12 (d := d_value) rfl rfl) (He.glo_ok X G (c.fact 12 (f := .glo "value") rfl))
    f_over := fnAt_of (c.def_ 13 (d := d_over) rfl) (S.at (lts := lts) 13 (d := d_over) rfl rfl) (He.glo_ok X G (c.fact 13 (f := .glo "over") rfl))
    f_cut := fnAt_of (c.def_ 14 (d := d_cut) rfl) (S.at (lts := lts) 14 (d := d_cut) rfl rfl) (He.glo_ok X G (c.fact 14 (f := .glo "cut") rfl))
    f_left_of := fnAt_of (c.def_ 15 (d := d_left_of) rfl) (S.at (lts := lts) 15 (d := d_left_of) rfl rfl) (He.glo_ok X G (c.fact 15 (f := .glo "left_of") rfl))
    f_double_area := fnAt_of (c.def_ 16 (d := d_double_area) rfl) (S.at (lts := lts) 16 (d := d_double_area) rfl rfl) (He.glo_ok X G (c.fact 16 (f := .glo "double_area") rfl))
    f_law_area := fnAt_of (c.def_ 17 (d := d_law_area) rfl) (S.at (lts := lts) 17 (d := d_law_area) rfl rfl) (He.glo_ok X G (c.fact 17 (f := .glo "_law_area") rfl))
    f_corner_of := fnAt_of (c.def_ 18 (d := d_corner_of) rfl) (S.at (lts := lts) 18 (d := d_corner_of) rfl rfl) (He.glo_ok X G (c.fact 18 (f := .glo "corner_of") rfl))
    f_tried := fnAt_of (c.def_ 19 (d := d_tried) rfl) (S.at (lts := lts) 19 (d := d_tried) rfl rfl) (He.glo_ok X G (c.fact 19 (f := .glo "tried") rfl))
    f_stands := fnAt_of (c.def_ 20 (d := d_stands) rfl) (S.at (lts := lts) 20 (d := d_stands) rfl rfl) (He.glo_ok X G (c.fact 20 (f := .glo "stands") rfl))
    f_is_within := fnAt_of (c.def_ 21 (d := d_is_within) rfl) (S.at (lts := lts) 21 (d := d_is_within) rfl rfl) (He.glo_ok X G (c.fact 21 (f := .glo "is_within") rfl))
    f_a_point := fnAt_of (c.def_ 22 (d := d_a_point) rfl) (S.at (lts := lts) 22 (d := d_a_point) rfl rfl) (He.glo_ok X G (c.fact 22 (f := .glo "a_point") rfl))
    f_of_two := fnAt_of (c.def_ 23 (d := d_of_two) rfl) (S.at (lts := lts) 23 (d := d_of_two) rfl rfl) (He.glo_ok X G (c.fact 23 (f := .glo "of_two") rfl))
    f_of_three := fnAt_of (c.def_ 24 (d := d_of_three) rfl) (S.at (lts := lts) 24 (d := d_of_three) rfl rfl) (He.glo_ok X G (c.fact 24 (f := .glo "of_three") rfl))
    f_refutation := fnAt_of (c.def_ 25 (d := d_refutation) rfl) (S.at (lts := lts) 25 (d := d_refutation) rfl rfl) (He.glo_ok X G (c.fact 25 (f := .glo "refutation") rfl))
    f_is_ahead := fnAt_of (c.def_ 26 (d := d_is_ahead) rfl) (S.at (lts := lts) 26 (d := d_is_ahead) rfl rfl) (He.glo_ok X G (c.fact 26 (f := .glo "is_ahead") rfl))
    f_greatest := fnAt_of (c.def_ 27 (d := d_greatest) rfl) (S.at (lts := lts) 27 (d := d_greatest) rfl rfl) (He.glo_ok X G (c.fact 27 (f := .glo "greatest") rfl))
    f_law := fnAt_of (c.def_ 28 (d := d_law) rfl) (S.at (lts := lts) 28 (d := d_law) rfl rfl) (He.glo_ok X G (c.fact 28 (f := .glo "law") rfl))
  }
end K17
open PySem PySem.W PySem.Calls PyProof.Rows in
theorem K17.holds_of (hlaw : ∀ ns : List Int, ns.length ≤ 63 → (∀ z ∈ ns, Builtin.Int.intBits z ≤ 1048576) → ∃ s', K17.M_law [Mp.pInts ns] [] = .ok (.bl true) s') : PySem.Challenge.rw_maproom_k17_half_planes_cut_in_any_order.Holds := by
  w_on; o_law
  refine HandSHeadRun.head_any (r := OpenLaw.row PySem.Challenge.rw_maproom_k17_half_planes_cut_in_any_order) (q := view (OpenLaw.row PySem.Challenge.rw_maproom_k17_half_planes_cut_in_any_order).prog [36]) (H := K17.hk) (ob := K17.ob) (M := 5000) (loose := [("MapError" : Str), ("BadNumber" : Str), ("BadShape" : Str), ("is_whole" : Str), ("common" : Str), ("part" : Str), ("plus" : Str), ("minus" : Str), ("times" : Str), ("over" : Str), ("stands" : Str), ("FAR" : Str), ("is_bound" : Str), ("check_bounds" : Str), ("value" : Str), ("is_within" : Str), ("corner_of" : Str), ("cut" : Str), ("left_of" : Str), ("double_area" : Str), ("a_point" : Str), ("tried" : Str), ("refutation" : Str), ("of_two" : Str), ("of_three" : Str), ("greatest" : Str), ("is_ahead" : Str), ("_law_dice" : Str), ("_law_roll" : Str), ("_law_rounds" : Str), ("_law_point" : Str), ("_law_area" : Str)]) (d := HandSHeadRun.topDef (OpenLaw.row PySem.Challenge.rw_maproom_k17_half_planes_cut_in_any_order).prog 36) (kwd := []) K17.ob_eq
    (by kernel_rfl) (fun s => by kernel_rfl) K17.run (by kernel_rfl) (by kernel_rfl) (by kernel_rfl) (by rfl) (by first | assumption | decide +kernel) (by decide +kernel) ⟨rfl, rfl, rfl, rfl, rfl, by decide +kernel⟩ ?hw ?hc
  case hw => w_witness2
  case hc =>
    refine Mp.law_endP (l := PySem.Challenge.rw_maproom_k17_half_planes_cut_in_any_order) (n := 63) (k := 10) (x := "law") (pn := "script") (M := K17.M_law) (lts := K17.lts) rfl (by decide) (by kernel_rfl) ⟨rfl, by decide, by decide⟩ (by kernel_rfl) ?F hlaw
    intro w K mg h cs G S
    obtain ⟨f, fd, c0, T, F⟩ := (K17.hy G S).f_law
    refine ⟨f, fd, F.glo, fun s u => L2.FunD.bindsA (ps := ["script"]) F.fun_ (fun _ _ _ _ _ _ us hl => match us, hl with | [_], _ => rfl) s [u] rfl, fun base b1 b2 TB => ?_⟩
    exact K17.ok_law (K17.hy G S) TB F
end
section
set_option maxRecDepth 100000
set_option maxHeartbeats 1000000
namespace Mp
open PySem L2
theorem forL_find {α : Type} {gt : PV → MEnv → Option MEnv} {body : SM} {ks : List Nat} {env : MEnv} {st : Sto} (f : α → PV) (p : α → Bool) (v : α → PV) : ∀ xs : List α,
    (∀ a ∈ xs, ∃ e1, gt (f a) env = some e1 ∧ (p a = false → ∃ e, body e1 st = .nx e st ∧ killE ks e = env) ∧ (p a = true → body e1 st = .rt (v a) st)) → forL gt body ks (xs.map f) env st = match xs.find? p with | some a => .rt (v a) st | none => .nx env st
  | [], _ => rfl
  | a :: xs, h => by
    obtain ⟨e1, h1, h2, h3⟩ := h a List.mem_cons_self
    have ih := forL_find (gt := gt) (body := body) (ks := ks) (env := env) (st := st) f p v xs fun b hb => h b (List.mem_cons_of_mem _ hb)
    rw [List.map_cons]
    unfold forL
    rw [h1]
    dsimp only
    cases q : p a with
    | true =>
      rw [h3 q]
      dsimp only
      rw [List.find?_cons, q]
    | false =>
      obtain ⟨e, k1, k2⟩ := h2 q
      rw [k1]
      dsimp only
      rw [k2, ih, List.find?_cons, q]
theorem allL_all {α : Type} {gt : PV → MEnv → Option MEnv} {me : EM} {env : MEnv} {st : Sto} (f : α → PV) (p : α → Bool) : ∀ xs : List α, (∀ a ∈ xs, ∃ e1, gt (f a) env = some e1 ∧ me e1 st = .ok (.bl (p a)) st) → allL gt tYesM me (xs.map f) env st = .ok (xs.all p) st
  | [], _ => rfl
  | a :: xs, h => by
    obtain ⟨e1, h1, h2⟩ := h a List.mem_cons_self
    have ih := allL_all (gt := gt) (me := me) (env := env) (st := st) f p xs fun b hb => h b (List.mem_cons_of_mem _ hb)
    rw [List.map_cons, List.all_cons]
    unfold allL
    simp only [h1, tYesM, ev_bindX, if_true, h2]
    cases q : p a with
    | true => simp only [ih, Bool.true_and]
    | false => simp only [Bool.false_and]
theorem allG_ev {α : Type} {mi : AM} {gt : PV → MEnv → Option MEnv} {me : EM} {vs : List Nat} {env : MEnv} {st : Sto} (f : α → PV) (p : α → Bool) (xs : List α) (hi : mi env st = .ok (xs.map f) st) (hn : noOwn vs env = true) (h : ∀ a ∈ xs, ∃ e1, gt (f a) (killE vs env) = some e1 ∧ me e1 st = .ok (.bl (p a)) st) :
    mAllG mi gt tYesM me vs env st = .ok (.bl (xs.all p)) st := by
  unfold mAllG
  rw [hi, ev_bindR, hn, if_pos rfl, allL_all f p xs h, ev_bindX]
theorem mv_ok {i : Nat} {env : MEnv} {v : PV} {st : Sto} (h : env[i]? = some (.pv v)) : mVar i env st = .ok v st := by unfold mVar; rw [h]
end Mp
end
section
set_option maxHeartbeats 1000000
namespace RG
open Mp
abbrev Spn := Int × Int
def Cov (xs : List Spn) (x : Int) : Prop := ∃ p ∈ xs, p.1 ≤ x ∧ x < p.2
def stepJ (b : List Spn) (p : Spn) : List Spn := match b.getLast? with
  | none => [p]
  | some q => if p.1 ≤ q.2 then b.dropLast ++ [(q.1, if p.2 > q.2 then p.2 else q.2)] else b ++ [p]
def Bd (p : Spn) : Prop := p.1 < p.2 ∧ -100 ≤ p.1 ∧ p.2 ≤ 100
structure Good (b : List Spn) : Prop where
  sep : b.Pairwise fun p q => p.2 < q.1
  bd : ∀ p ∈ b, Bd p
theorem cov_append {xs ys : List Spn} {x : Int} : Cov (xs ++ ys) x ↔ Cov xs x ∨ Cov ys x := by
  unfold Cov
  constructor
  · rintro ⟨p, hp, h⟩
    rcases List.mem_append.mp hp with hp | hp
    · exact .inl ⟨p, hp, h⟩
    · exact .inr ⟨p, hp, h⟩
  · rintro (⟨p, hp, h⟩ | ⟨p, hp, h⟩)
    · exact ⟨p, List.mem_append_left _ hp, h⟩
    · exact ⟨p, List.mem_append_right _ hp, h⟩
theorem cov_one {p : Spn} {x : Int} : Cov [p] x ↔ p.1 ≤ x ∧ x < p.2 := by
  unfold Cov; simp
theorem cov_cons {p : Spn} {xs : List Spn} {x : Int} : Cov (p :: xs) x ↔ (p.1 ≤ x ∧ x < p.2) ∨ Cov xs x := by
  rw [show p :: xs = [p] ++ xs from rfl, cov_append, cov_one]
theorem step_ok {b : List Spn} {a : Spn} (hb : Good b) (ha : Bd a) (ho : ∀ p ∈ b, p.1 ≤ a.1) : Good (stepJ b a) ∧ (∀ x, Cov (stepJ b a) x ↔ Cov b x ∨ (a.1 ≤ x ∧ x < a.2)) ∧ (stepJ b a).length ≤ b.length + 1 ∧ ∀ p ∈ stepJ b a, p.1 ≤ a.1 := by
  rcases List.eq_nil_or_concat b with rfl | ⟨b', q, eb⟩
  rotate_left
  all_goals try (rw [List.concat_eq_append] at eb; subst eb)
  rotate_left
  · refine ⟨⟨?_, ?_⟩, fun x => ?_, ?_, ?_⟩
    · simp [stepJ]
    · intro p hp; simp [stepJ] at hp; subst hp; exact ha
    · simp only [stepJ, List.getLast?_nil]; rw [cov_one]; simp [Cov]
    · simp [stepJ]
    · intro p hp; simp [stepJ] at hp; subst hp; omega
  · have hl : (b' ++ [q]).getLast? = some q := by simp
    have hq : Bd q := hb.bd q (by simp)
    have hqa := ho q (by simp)
    have hs := List.pairwise_append.mp hb.sep
    unfold Bd at ha hq
    by_cases hc : a.1 ≤ q.2
    · have e : stepJ (b' ++ [q]) a = b' ++ [(q.1, if a.2 > q.2 then a.2 else q.2)] := by simp [stepJ, hc]
      rw [e]
      refine ⟨⟨?_, ?_⟩, fun x => ?_, by simp, ?_⟩
      · rw [List.pairwise_append]
        refine ⟨hs.1, by simp, fun p hp r hr => ?_⟩
        rw [List.mem_singleton.mp hr]
        exact hs.2.2 p hp q (by simp)
      · intro p hp
        rcases List.mem_append.mp hp with hp | hp
        · exact hb.bd p (by simp [hp])
        · rw [List.mem_singleton.mp hp]
          unfold Bd
          dsimp only
          split <;> omega
      · rw [cov_append, cov_append, cov_one, cov_one]
        dsimp only
        split <;> (constructor <;> intro h <;> rcases h with h | h <;> first | exact .inl h | exact .inl (.inl h) | (rcases h with h | h <;> first | exact .inl h | (right; omega)) | (by_cases hx : x < q.2 <;> first | exact .inl (.inr (by omega)) | exact .inr (by omega)) | (right; omega))
      · intro p hp
        rcases List.mem_append.mp hp with hp | hp
        · exact ho p (by simp [hp])
        · rw [List.mem_singleton.mp hp]; exact hqa
    · have e : stepJ (b' ++ [q]) a = b' ++ [q] ++ [a] := by simp [stepJ, hc]
      rw [e]
      refine ⟨⟨?_, ?_⟩, fun x => ?_, by simp, ?_⟩
      · rw [List.pairwise_append]
        refine ⟨hb.sep, by simp, fun p hp r hr => ?_⟩
        rw [List.mem_singleton.mp hr]
        rcases List.mem_append.mp hp with hp | hp
        · have := hs.2.2 p hp q (by simp); omega
        · rw [List.mem_singleton.mp hp]; omega
      · intro p hp
        rcases List.mem_append.mp hp with hp | hp
        · exact hb.bd p hp
        · rw [List.mem_singleton.mp hp]; exact ha
      · rw [cov_append, cov_one]
      · intro p hp
        rcases List.mem_append.mp hp with hp | hp
        · exact ho p hp
        · rw [List.mem_singleton.mp hp]; omega
theorem fold_ok : ∀ (ys b : List Spn), ys.Pairwise (fun p q => p.1 ≤ q.1) → (∀ p ∈ b, ∀ q ∈ ys, p.1 ≤ q.1) → Good b → (∀ q ∈ ys, Bd q) →
    Good (ys.foldl stepJ b) ∧ (∀ x, Cov (ys.foldl stepJ b) x ↔ Cov b x ∨ Cov ys x) ∧ (ys.foldl stepJ b).length ≤ b.length + ys.length
  | [], b, _, _, hb, _ => ⟨hb, fun x => by simp [Cov], by simp⟩
  | a :: ys, b, hp, ho, hb, hd => by
    obtain ⟨h1, h2, h3, h4⟩ := step_ok hb (hd a List.mem_cons_self) fun p hp => ho p hp a List.mem_cons_self
    rw [List.pairwise_cons] at hp
    obtain ⟨k1, k2, k3⟩ := fold_ok ys (stepJ b a) hp.2 (fun p hp' q hq => Int.le_trans (h4 p hp') (hp.1 q hq)) h1 fun q hq => hd q (List.mem_cons_of_mem _ hq)
    refine ⟨k1, fun x => ?_, ?_⟩
    · rw [List.foldl_cons, k2, h2, cov_cons, or_assoc]
    · rw [List.foldl_cons, List.length_cons]; omega
def joined (xs : List Spn) : List Spn := (srt xs).foldl stepJ []
end RG
end
section
set_option maxHeartbeats 1000000
namespace RG
open Mp
abbrev Row := Int × Int × List Spn
abbrev Blk := Int × Int × Int × Int
def pairs (es : List Int) : List (Int × Int) := es.zip es.tail
def inR (R : List Row) (x y : Int) : Prop := ∃ r ∈ R, r.1 ≤ y ∧ y < r.2.1 ∧ Cov r.2.2 x
def addRow (f : List Row) (lo hi : Int) (sp : List Spn) : List Row := if sp = [] then f else match f.getLast? with
  | none => [(lo, hi, sp)]
  | some q => if q.2.1 = lo ∧ q.2.2 = sp then f.dropLast ++ [(q.1, hi, sp)] else f ++ [(lo, hi, sp)]
structure WR (R : List Row) : Prop where
  up : R.Pairwise fun p q => p.2.1 ≤ q.1
  row : ∀ r ∈ R, r.1 < r.2.1 ∧ r.2.2 ≠ [] ∧ Good r.2.2
def build (ps : List (Int × Int)) (F : Int → Int → List Spn) (f : List Row) : List Row := ps.foldl (fun f p => addRow f p.1 p.2 (F p.1 p.2)) f
theorem WR.nil : WR [] := ⟨by simp, by simp⟩
end RG
end
section
set_option maxHeartbeats 1000000
namespace RG
open Mp
def cv (s : List Spn) (x : Int) : Bool := s.any fun p => decide (p.1 ≤ x) && decide (x < p.2)
abbrev Keep := Bool × Bool × Bool
def tr (p q : Bool) (k : Keep) : Bool := (p && !q && k.1) || ((q && !p && k.2.1) || (p && q && k.2.2))
def ends (s : List Spn) : List Int := s.flatMap fun p => [p.1, p.2]
def spf (s t : List Spn) (k : Keep) : List Spn := (pairs (iSort (ends (s ++ t)))).filter fun p => tr (cv s p.1) (cv t p.1) k
def spansPut (s t : List Spn) (k : Keep) : List Spn := joined (spf s t k)
def spansAt : List Row → Int → List Spn
  | [], _ => []
  | r :: R, h => if r.1 ≤ h ∧ h < r.2.1 then r.2.2 else spansAt R h
theorem WR.tail {r : Row} {R : List Row} (h : WR (r :: R)) : WR R := ⟨(List.pairwise_cons.mp h.up).2, fun q hq => h.row q (List.mem_cons_of_mem _ hq)⟩
def hts (R : List Row) : List Int := R.flatMap fun r => [r.1, r.2.1]
def put (a b : List Row) (k : Keep) : List Row := build (pairs (iSort (hts (a ++ b)))) (fun lo _ => spansPut (spansAt a lo) (spansAt b lo) k) []
end RG
end
section
set_option maxHeartbeats 1000000
namespace RG
open Mp
def bhts (bl : List Blk) : List Int := bl.flatMap fun b => [b.2.1, b.2.2.2]
def bsp (bl : List Blk) (lo hi : Int) : List Spn := (bl.filter fun b => decide (b.2.1 ≤ lo) && decide (hi ≤ b.2.2.2)).map fun b => (b.1, b.2.2.1)
def region (bl : List Blk) : List Row := build (pairs (iSort (bhts bl))) (fun lo hi => joined (bsp bl lo hi)) []
def less (a b : List Row) : List Row := put a b (true, false, false)
def outside (R : List Row) (b : Blk) : List Row := less (region [b]) R
def un (f : List Pt) (ls : List (List Pt)) : List Pt := ls.foldl (fun f c => f ++ c.filter fun p => !decide (p ∈ f)) f
theorem un_ok : ∀ (ls : List (List Pt)) (f : List Pt), f.Nodup → (∀ c ∈ ls, c.Nodup) → (un f ls).Nodup ∧ ∀ p, p ∈ un f ls ↔ p ∈ f ∨ ∃ c ∈ ls, p ∈ c
  | [], f, h, _ => ⟨h, fun p => by simp [un]⟩
  | c :: ls, f, h, hc => by
    have h1 : (f ++ c.filter fun p => !decide (p ∈ f)).Nodup := by
      rw [List.nodup_append]
      refine ⟨h, (hc c List.mem_cons_self).sublist List.filter_sublist, fun a ha b hb e => ?_⟩
      subst e
      have := (List.mem_filter.mp hb).2
      simp [ha] at this
    obtain ⟨k1, k2⟩ := un_ok ls _ h1 fun d hd => hc d (List.mem_cons_of_mem _ hd)
    refine ⟨k1, fun p => ?_⟩
    show p ∈ un (f ++ c.filter fun p => !decide (p ∈ f)) ls ↔ _
    rw [k2, List.mem_append, List.mem_filter]
    constructor
    · rintro ((z | z) | ⟨d, hd, z⟩)
      · exact .inl z
      · exact .inr ⟨c, List.mem_cons_self, z.1⟩
      · exact .inr ⟨d, List.mem_cons_of_mem _ hd, z⟩
    · rintro (z | ⟨d, hd, z⟩)
      · exact .inl (.inl z)
      · rcases List.mem_cons.mp hd with rfl | hd
        · by_cases hp : p ∈ f
          · exact .inl (.inl hp)
          · exact .inl (.inr ⟨z, by simp [hp]⟩)
        · exact .inr ⟨d, hd, z⟩
end RG
end
section
set_option maxHeartbeats 1000000
namespace RG
open Mp Ge
section
variable {L m : Int} {bl : List Blk}
end
end RG
end
section
set_option maxRecDepth 100000
set_option maxHeartbeats 1000000
namespace Mp
open PySem L2
theorem call_ok {n : Nat} {M : FM} {ms : AM} {env : MEnv} {st s : Sto} {args : List PV} {r : MRes PV} (h : ms env st = .ok args s) (hm : M args s = r) (hl : args.length = n := by rfl) : mCall n M ms env st = r := by
  rw [ev_call, h, ev_bindR, if_pos hl, hm]
theorem a1_ok {m : EM} {env : MEnv} {st s : Sto} {v : PV} (h : m env st = .ok v s) : aCons m aNil env st = .ok [v] s := by rw [ev_aCons, h]; rfl
theorem set_ok {i : Nat} {m : EM} {env : MEnv} {st s : Sto} {v : PV} (h : m env st = .ok v s) : sSet i m env st = .nx (env.set i (.pv v)) s := by rw [ev_set, h]; rfl
theorem ret_ok {m : EM} {env : MEnv} {st s : Sto} {v : PV} (h : m env st = .ok v s) : sRet m env st = .rt v s := by rw [ev_ret, h]; rfl
theorem expr_ok {m : EM} {env : MEnv} {st s : Sto} {v : PV} (h : m env st = .ok v s) : sExpr m env st = .nx env s := by rw [ev_expr, h]; rfl
theorem callB_ok {g : Sto → List PV → Option PV} {ms : AM} {env : MEnv} {st s : Sto} {args : List PV} {v : PV} (h : ms env st = .ok args s) (hg : g s args = some v) : mCallB g ms env st = .ok v s := by rw [ev_callB, h, ev_bindR, hg]; rfl
theorem callN_ok {g : Sto → List PV → Option (List PV)} {ms : AM} {env : MEnv} {st s : Sto} {args v : List PV} (h : ms env st = .ok args s) (hg : g s args = some v) : mCallN g ms env st = .ok (.lst v) s := by rw [ev_callN, h, ev_bindR, hg]; rfl
theorem a2_ok {m : EM} {ms : AM} {env : MEnv} {st s s2 : Sto} {v : PV} {vs : List PV} (h : m env st = .ok v s) (h2 : ms env s = .ok vs s2) : aCons m ms env st = .ok (v :: vs) s2 := by rw [ev_aCons, h, ev_bindR, h2]; rfl
end Mp
end
section
set_option maxRecDepth 100000
set_option maxHeartbeats 1000000
namespace Mp
open PySem L2
mutual
theorem pvEq_refl : ∀ (n : Nat) (v : PV), pd n v = true → pvEq v v = true
  | _, .non, _ => rfl
  | _, .bl b, _ => by unfold pvEq; simp
  | _, .int i, _ => by unfold pvEq; simp
  | _, .str s, _ => by unfold pvEq; simp
  | 0, .tup _, h => by unfold pd at h; cases h
  | 0, .lst _, h => by unfold pd at h; cases h
  | n + 1, .tup xs, h => by unfold pd at h; unfold pvEq; exact pvEqs_refl n xs h
  | n + 1, .lst xs, h => by unfold pd at h; unfold pvEq; exact pvEqs_refl n xs h
  | _, .ref _, h => by unfold pd at h; cases h
  | _, .fn _, h => by unfold pd at h; cases h
  | _, .dct _ _, h => by unfold pd at h; cases h
theorem pvEqs_refl : ∀ (n : Nat) (xs : List PV), pds n xs = true → pvEqs xs xs = true
  | _, [], _ => by unfold pvEqs; rfl
  | n, x :: xs, h => by
    unfold pds at h
    rw [Bool.and_eq_true] at h
    unfold pvEqs
    rw [pvEq_refl n x h.1, pvEqs_refl n xs h.2]
    rfl
end
theorem cNe_same {v : PV} (h : isD v = true) : cNe v v = some (.bl false) := by
  have e : pvEq v v = true := pvEq_refl _ v (by unfold isD at h; exact h)
  unfold cNe; rw [h, e]; rfl
theorem tne_ok {a b : EM} {env : MEnv} {s s1 s2 : Sto} {x y : PV} (ha : a env s = .ok x s1) (hb : b env s1 = .ok y s2) (hc : cNe x y = some (.bl false)) : tBin cNe a b env s = .ok false s2 := by
  rw [ev_tbin, ha, ev_bindR, hb, ev_bindR, hc]
theorem tsame_ok {a b : EM} {env : MEnv} {s s1 s2 : Sto} {x : PV} (ha : a env s = .ok x s1) (hb : b env s1 = .ok x s2) (hd : isD x = true) : tBin cNe a b env s = .ok false s2 := tne_ok ha hb (cNe_same hd)
theorem tor_ok {a b : TM} {env : MEnv} {s s1 s2 : Sto} (ha : a env s = .ok false s1) (hb : b env s1 = .ok false s2) : tOrM a b env s = .ok false s2 := by
  rw [ev_or, ha, ev_bindR]; exact hb
theorem tnot_ok {a : TM} {env : MEnv} {s s1 : Sto} (ha : a env s = .ok true s1) : tNotM a env s = .ok false s1 := by
  rw [ev_not, ha]; rfl
theorem tval_ok {a : EM} {c : Bool} {env : MEnv} {s s1 : Sto} (ha : a env s = .ok (.bl c) s1) : tVal a env s = .ok c s1 := by
  rw [ev_val, ha]; rfl
theorem ifF_ok {t : TM} {a : SM} {env : MEnv} {s s1 : Sto} (h : t env s = .ok false s1) : sIf t a sNil env s = .nx env s1 := by rw [ev_if, h]; rfl
theorem ifT_ok {t : TM} {a b : SM} {env : MEnv} {s s1 : Sto} (h : t env s = .ok true s1) : sIf t a b env s = a env s1 := by rw [ev_if, h]; rfl
theorem bin_ok {g : PV → PV → Option PV} {a b : EM} {env : MEnv} {s s1 s2 : Sto} {x y z : PV} (ha : a env s = .ok x s1) (hb : b env s1 = .ok y s2) (h : g x y = some z) : mBin g a b env s = .ok z s2 := by
  rw [ev_bin, ha, ev_bindR, hb, ev_bindR, h]; rfl
theorem ix_ok {a b : EM} {env : MEnv} {s s1 s2 : Sto} {x y z : PV} (ha : a env s = .ok x s1) (hb : b env s1 = .ok y s2) (h : ixV s2 x y = some z) : mIx a b env s = .ok z s2 := by
  rw [ev_ix, ha, ev_bindR, hb, ev_bindR, h]; rfl
theorem tbin_ok {g : PV → PV → Option PV} {a b : EM} {env : MEnv} {s s1 s2 : Sto} {x y : PV} {c : Bool} (ha : a env s = .ok x s1) (hb : b env s1 = .ok y s2) (h : g x y = some (.bl c)) : tBin g a b env s = .ok c s2 := by
  rw [ev_tbin, ha, ev_bindR, hb, ev_bindR, h]
theorem tup_ok {ms : AM} {env : MEnv} {s s1 : Sto} {vs : List PV} (h : ms env s = .ok vs s1) (hl : vs.length ≤ 1000 := by simp) : mTup ms env s = .ok (.tup vs) s1 := by
  rw [ev_tup, h, ev_bindR, if_pos hl]
theorem lst_ok {ms : AM} {env : MEnv} {s s1 : Sto} {vs : List PV} (h : ms env s = .ok vs s1) (hl : vs.length ≤ 1000 := by simp) : mLst ms env s = .ok (.lst vs) s1 := by
  rw [ev_lst, h, ev_bindR, if_pos hl]
theorem asg_ok {gt : PV → MEnv → Option MEnv} {m : EM} {env e : MEnv} {s s1 : Sto} {v : PV} (h : m env s = .ok v s1) (hg : gt v env = some e) : sAsg gt m env s = .nx e s1 := by
  rw [ev_asg, h, ev_bindF, hg]
theorem un_ok {g : PV → Option PV} {a : EM} {env : MEnv} {s s1 : Sto} {x z : PV} (ha : a env s = .ok x s1) (h : g x = some z) : mUn g a env s = .ok z s1 := by
  rw [ev_un, ha, ev_bindR, h]; rfl
theorem eIf_ok {t : TM} {a b : EM} {env : MEnv} {s s1 : Sto} {c : Bool} (h : t env s = .ok c s1) : eIf t a b env s = if c then a env s1 else b env s1 := by
  rw [ev_eif, h, ev_bindR]
theorem app_ok {i : Nat} {m : EM} {env : MEnv} {s s1 : Sto} {v : PV} {xs : List PV} (g : env[i]? = some (.own (.lst xs))) (h : m env s = .ok v s1) (hl : xs.length < 1000000) : sAppend i m env s = .nx (env.set i (.own (.lst (xs ++ [v])))) s1 := by
  unfold sAppend; simp only [g, h, ev_bindF, if_pos (show xs.length < big from hl)]
theorem ext_ok {i : Nat} {m : EM} {env : MEnv} {s s1 : Sto} {xs ys : List PV} (g : env[i]? = some (.own (.lst xs))) (h : m env s = .ok (.lst ys) s1) (hl : xs.length + ys.length < 1000000) : sExtend i m env s = .nx (env.set i (.own (.lst (xs ++ ys)))) s1 := by
  unfold sExtend; simp only [g, h, ev_bindF, if_pos (show xs.length + ys.length < big from hl)]
theorem setO_ok {i : Nat} {m : EM} {env : MEnv} {s s1 : Sto} {xs : List PV} (h : m env s = .ok (.lst xs) s1) : sSetO i m env s = .nx (env.set i (.own (.lst xs))) s1 := by
  unfold sSetO; rw [h]; rfl
theorem cNe_bl (a b : Bool) : cNe (.bl a) (.bl b) = some (.bl (a != b)) := by unfold cNe; simp only [isD, pd, pvEq]; rfl
def pointB : SM := (sRet (mTup (aCons (mBin pSub (mCall 2 (fnM 3 rollB) (aCons (mVar 0) (aCons (mBin pAdd (mBin pMul (mC (.int 2)) (mVar 1)) (mC (.int 1))) aNil))) (mVar 1)) (aCons (mBin pSub (mCall 2 (fnM 3 rollB) (aCons (mVar 0) (aCons (mBin pAdd (mBin pMul (mC (.int 2)) (mVar 1)) (mC (.int 1))) aNil))) (mVar 1)) aNil))))
section
variable {k : Nat} {st js : Sto}
def Gk (k : Nat) (st : Sto) : Prop := Gs k st ∧ st.all okO = true
theorem Gs.app' (g : Gs k st) : Gs k (st ++ js) := fun i hi => by
  obtain ⟨a, b, c, h⟩ := g i hi
  exact ⟨a, b, c, by rw [List.getElem?_append_left (List.getElem?_eq_some_iff.mp h).1]; exact h⟩
theorem Gk.app (g : Gk k st) (h : ∀ o ∈ js, okO o = true) : Gk k (st ++ js) := ⟨Gs.app' g.1, by rw [List.all_append, g.2, Bool.true_and]; exact List.all_eq_true.mpr h⟩
theorem Gk.of {k : Nat} {st : Sto} (g : Ga k st) : Gk k st := ⟨g.2, g.ok⟩
theorem roll_gk {n : Nat} {m : Int} (g : Gk k st) (hn : n < k) (h0 : 0 < m) (h1 : m < 1000000000) : ∃ v st', fnM 3 rollB [.ref n, .int m] st = .ok (.int v) st' ∧ 0 ≤ v ∧ v < m ∧ Gk k st' ∧ st'.length = st.length := by
  obtain ⟨v, a, b, c, e, h2, h3⟩ := roll_spec (g.1 n hn) h0 h1
  have hl : n < st.length := by obtain ⟨_, _, _, h⟩ := g.1 n hn; exact (List.getElem?_eq_some_iff.mp h).1
  refine ⟨v, _, e, h2, h3, ⟨fun i hi => GD.set hl (g.1 i hi), ?_⟩, List.length_set⟩
  rw [List.all_eq_true]
  intro o ho
  rcases List.mem_or_eq_of_mem_set ho with ho | rfl
  · exact List.all_eq_true.mp g.2 o ho
  · simp [okO, noLs, noL]
theorem rollK {n i : Nat} {m : Int} {me : EM} {env : MEnv} (g : Gk k st) (hn : n < k) (hi : env[i]? = some (.pv (.ref n))) (hm : me env st = .ok (.int m) st) (h0 : 0 < m) (h1 : m < 1000000000) :
    ∃ v st', mCall 2 (fnM 3 rollB) (aCons (mVar i) (aCons me aNil)) env st = .ok (.int v) st' ∧ 0 ≤ v ∧ v < m ∧ Gk k st' ∧ st'.length = st.length := by
  obtain ⟨v, st', e, h⟩ := roll_gk g hn h0 h1
  exact ⟨v, st', call_ok (a2_ok (mv_ok hi) (a1_ok hm)) e, h⟩
end
theorem pointK {k n : Nat} {st : Sto} {m : Int} (g : Gk k st) (hn : n < k) (h0 : 0 ≤ m ∧ m ≤ 1000) : ∃ (p : Pt) (st' : Sto), fnM 2 pointB [.ref n, .int m] st = .ok (tp p) st' ∧ (-m ≤ p.1 ∧ p.1 ≤ m ∧ -m ≤ p.2 ∧ p.2 ≤ m) ∧ Gk k st' ∧ st'.length = st.length := by
  have hm : ∀ s, mBin pAdd (mBin pMul (mC (.int 2)) (mVar 1)) (mC (.int 1)) [.pv (.ref n), .pv (.int m)] s = .ok (.int (2 * m + 1)) s := fun s => bin_ok (bin_ok ev_C (mv_ok rfl) (mul_small (by omega))) ev_C pAdd_int
  obtain ⟨v, s1, e1, h1, h2, g1, l1⟩ := rollK (i := 0) (m := 2 * m + 1) (env := [.pv (.ref n), .pv (.int m)]) g hn rfl (hm st) (by omega) (by omega)
  obtain ⟨u, s2, e2, h3, h4, g2, l2⟩ := rollK (i := 0) (m := 2 * m + 1) (env := [.pv (.ref n), .pv (.int m)]) g1 hn rfl (hm s1) (by omega) (by omega)
  refine ⟨(v - m, u - m), s2, ?_, by dsimp only; omega, g2, by omega⟩
  refine fnM_rt ?_
  show pointB [.pv (.ref n), .pv (.int m)] st = _
  exact ret_ok (tup_ok (a2_ok (bin_ok e1 (mv_ok rfl) pSub_int) (a1_ok (bin_ok e2 (mv_ok rfl) pSub_int))))
end Mp
end
section
set_option maxRecDepth 100000
set_option maxHeartbeats 1000000
namespace Pg
abbrev Q2 := Rat × Rat
abbrev HP := Int × Int × Int
def tr (a b c : Q2) : Rat := (b.1 - a.1) * (c.2 - a.2) - (b.2 - a.2) * (c.1 - a.1)
def vl (h : HP) (p : Q2) : Rat := (h.1 : Rat) * p.1 + (h.2.1 : Rat) * p.2 - (h.2.2 : Rat)
def W (t : Rat) (u v : Q2) : Q2 := ((1 - t) * u.1 + t * v.1, (1 - t) * u.2 + t * v.2)
theorem tr_rot (a b c : Q2) : tr a b c = tr b c a := by unfold tr; grind
theorem tr_sw (a b c : Q2) : tr a c b = - tr a b c := by unfold tr; grind
theorem tr_aa (a b : Q2) : tr a a b = 0 := by unfold tr; grind
theorem tr_bb (a b : Q2) : tr a b b = 0 := by unfold tr; grind
theorem tr_ab (a b : Q2) : tr a b a = 0 := by unfold tr; grind
theorem tr_W1 (t : Rat) (u v b c : Q2) : tr (W t u v) b c = (1 - t) * tr u b c + t * tr v b c := by unfold tr W; grind
theorem tr_W2 (t : Rat) (u v a c : Q2) : tr a (W t u v) c = (1 - t) * tr a u c + t * tr a v c := by unfold tr W; grind
theorem tr_W3 (t : Rat) (u v a b : Q2) : tr a b (W t u v) = (1 - t) * tr a b u + t * tr a b v := by unfold tr W; grind
theorem vl_W (h : HP) (t : Rat) (u v : Q2) : vl h (W t u v) = (1 - t) * vl h u + t * vl h v := by unfold vl W; grind
theorem W_1 (u v : Q2) : W 1 u v = v := by unfold W; exact Prod.ext (by dsimp only; grind) (by dsimp only; grind)
theorem W_0 (u v : Q2) : W 0 u v = u := by unfold W; exact Prod.ext (by dsimp only; grind) (by dsimp only; grind)
theorem line_id (h : HP) (A B D p : Q2) (hA : vl h A = 0) (hB : vl h B = 0) : vl h p * tr A B D = vl h D * tr A B p := by
  unfold vl tr at *; grind
theorem cone_id (f : HP) (P V N p : Q2) : tr P V N * (vl f p - vl f V) = tr V N p * (vl f P - vl f V) + tr P V p * (vl f N - vl f V) := by
  unfold vl tr; grind
theorem mul_nn {a b : Rat} (h1 : 0 ≤ a) (h2 : 0 ≤ b) : 0 ≤ a * b := Rat.mul_nonneg h1 h2
theorem mul_pp {a b : Rat} (h1 : 0 < a) (h2 : 0 < b) : 0 < a * b := Rat.mul_pos h1 h2
theorem add_nn {a b : Rat} (h1 : 0 ≤ a) (h2 : 0 ≤ b) : 0 ≤ a + b := by grind
structure Cy (n : Nat) (U : Nat → Q2) : Prop where
  n3 : 3 ≤ n
  per : ∀ i, U (i + n) = U i
  pos : ∀ a b c, a < b → b < c → c < a + n → 0 < tr (U a) (U b) (U c)
section
variable {n : Nat} {U : Nat → Q2} {i j k m : Nat} {r s t : Rat}
theorem Cy.nn (C : Cy n U) {a b c : Nat} (h1 : a ≤ b) (h2 : b ≤ c) (h3 : c ≤ a + n) : 0 ≤ tr (U a) (U b) (U c) := by
  rcases Nat.lt_or_eq_of_le h1 with h1 | rfl
  · rcases Nat.lt_or_eq_of_le h2 with h2 | rfl
    · rcases Nat.lt_or_eq_of_le h3 with h3 | rfl
      · exact Rat.le_of_lt (C.pos a b c h1 h2 h3)
      · rw [C.per, tr_ab]; exact Rat.le_refl
    · rw [tr_bb]; exact Rat.le_refl
  · rw [tr_aa]; exact Rat.le_refl
def pt (U : Nat → Q2) (k : Nat) (t : Rat) : Q2 := W t (U k) (U (k + 1))
theorem Cy.keys (C : Cy n U) (hr : 0 < r ∧ r ≤ 1) (hs : 0 < s ∧ s ≤ 1) (ht : 0 < t ∧ t ≤ 1) (h1 : i < j) (h2 : j < k) (h3 : k < i + n) : 0 < tr (pt U i r) (pt U j s) (pt U k t) := by
  have p := C.pos (i + 1) (j + 1) (k + 1) (by omega) (by omega) (by omega)
  have n1 := C.nn (a := i) (b := j) (c := k) (by omega) (by omega) (by omega)
  have n2 := C.nn (a := i) (b := j) (c := k + 1) (by omega) (by omega) (by omega)
  have n3 := C.nn (a := i) (b := j + 1) (c := k) (by omega) (by omega) (by omega)
  have n4 := C.nn (a := i) (b := j + 1) (c := k + 1) (by omega) (by omega) (by omega)
  have n5 := C.nn (a := i + 1) (b := j) (c := k) (by omega) (by omega) (by omega)
  have n6 := C.nn (a := i + 1) (b := j) (c := k + 1) (by omega) (by omega) (by omega)
  have n7 := C.nn (a := i + 1) (b := j + 1) (c := k) (by omega) (by omega) (by omega)
  unfold pt
  have e : ∀ a b : Q2, 0 ≤ tr a b (U k) → 0 ≤ tr a b (U (k + 1)) → 0 ≤ tr a b (W t (U k) (U (k + 1))) := fun a b x y => by
    rw [tr_W3]; exact add_nn (mul_nn (by grind) x) (mul_nn (by grind) y)
  have q1 := e _ _ n1 n2
  have q2 := e _ _ n3 n4
  have q3 := e _ _ n5 n6
  have q4 : 0 < tr (U (i + 1)) (U (j + 1)) (W t (U k) (U (k + 1))) := by
    rw [tr_W3]
    have := mul_pp ht.1 p
    have := mul_nn (show (0 : Rat) ≤ 1 - t by grind) n7
    grind
  rw [tr_W1, tr_W2, tr_W2]
  have w1 := mul_nn (show (0 : Rat) ≤ 1 - r by grind) (add_nn (mul_nn (show (0 : Rat) ≤ 1 - s by grind) q1) (mul_nn (show (0 : Rat) ≤ s by grind) q2))
  have w2 := mul_nn (show (0 : Rat) ≤ 1 - s by grind) q3
  have w3 := mul_pp hs.1 q4
  have w4 := mul_pp hr.1 (show (0 : Rat) < (1 - s) * tr (U (i + 1)) (U j) (W t (U k) (U (k + 1))) + s * tr (U (i + 1)) (U (j + 1)) (W t (U k) (U (k + 1))) by grind)
  grind
theorem pt_1 : pt U k 1 = U (k + 1) := W_1 _ _
theorem Cy.same_end (C : Cy n U) (hr : 0 < r ∧ r ≤ 1) (ht : 0 < t ∧ t < 1) (h1 : i < k) (h3 : k < i + n) (hx : i + 1 = k → r < 1) : 0 < tr (pt U i r) (pt U k t) (U (k + 1)) := by
  have e : tr (pt U i r) (pt U k t) (U (k + 1)) = (1 - t) * ((1 - r) * tr (U i) (U k) (U (k + 1)) + r * tr (U (i + 1)) (U k) (U (k + 1))) := by
    unfold pt; rw [tr_W1, tr_W2, tr_W2, tr_bb, tr_bb]; grind
  rw [e]
  have n1 := C.nn (a := i) (b := k) (c := k + 1) (by omega) (by omega) (by omega)
  have n2 := C.nn (a := i + 1) (b := k) (c := k + 1) (by omega) (by omega) (by omega)
  have w1 := mul_nn (show (0 : Rat) ≤ 1 - r by grind) n1
  have w2 := mul_nn (show (0 : Rat) ≤ r by grind) n2
  refine mul_pp (by grind) ?_
  by_cases q : i + 1 = k
  · have p := C.pos i k (k + 1) (by omega) (by omega) (by have := C.n3; omega)
    have := mul_pp (show (0 : Rat) < 1 - r by have := hx q; grind) p
    grind
  · have p := C.pos (i + 1) k (k + 1) (by omega) (by omega) (by omega)
    have := mul_pp hr.1 p
    grind
theorem Cy.same_beg (C : Cy n U) (hs : 0 < s ∧ s ≤ 1) (ht : 0 < t ∧ t < 1) (h1 : k < m) (h3 : m < k + n) (hx : m + 1 = k + n → s < 1) : 0 < tr (pt U k t) (U (k + 1)) (pt U m s) := by
  have e : tr (pt U k t) (U (k + 1)) (pt U m s) = (1 - t) * ((1 - s) * tr (U k) (U (k + 1)) (U m) + s * tr (U k) (U (k + 1)) (U (m + 1))) := by
    unfold pt; rw [tr_W1, tr_W3, tr_aa, ]; grind
  rw [e]
  have n1 := C.nn (a := k) (b := k + 1) (c := m) (by omega) (by omega) (by omega)
  have n2 := C.nn (a := k) (b := k + 1) (c := m + 1) (by omega) (by omega) (by omega)
  have w1 := mul_nn (show (0 : Rat) ≤ 1 - s by grind) n1
  have w2 := mul_nn (show (0 : Rat) ≤ s by grind) n2
  refine mul_pp (by grind) ?_
  by_cases q : m + 1 = k + n
  · have p := C.pos k (k + 1) m (by omega) (by have := C.n3; omega) (by omega)
    have := mul_pp (show (0 : Rat) < 1 - s by have := hx q; grind) p
    grind
  · have p := C.pos k (k + 1) (m + 1) (by omega) (by omega) (by omega)
    have := mul_pp hs.1 p
    grind
end
def SC : List Q2 → Prop
  | [] => True
  | a :: L => L.Pairwise (fun b c => 0 < tr a b c) ∧ SC L
theorem SC.get : ∀ {L : List Q2}, SC L → ∀ {i j k : Nat}, i < j → j < k → k < L.length → 0 < tr (L.getD i (0, 0)) (L.getD j (0, 0)) (L.getD k (0, 0))
  | [], _, i, j, k, _, _, h => by simp at h
  | a :: L, h, 0, j + 1, k + 1, _, h2, h3 => by
    have h3 : k < L.length := by simpa using h3
    have := List.pairwise_iff_getElem.mp h.1 j k (by omega) h3 (by omega)
    simpa [List.getElem?_eq_getElem h3, List.getElem?_eq_getElem (show j < L.length by omega)] using this
  | a :: L, h, i + 1, j + 1, k + 1, h1, h2, h3 => by
    have := SC.get h.2 (i := i) (j := j) (k := k) (by omega) (by omega) (by simpa using h3)
    simpa using this
def cyc (L : List Q2) (i : Nat) : Q2 := L.getD ((i + (L.length - 1)) % L.length) (0, 0)
theorem cyc_per (L : List Q2) (i : Nat) : cyc L (i + L.length) = cyc L i := by
  unfold cyc
  rw [show i + L.length + (L.length - 1) = i + (L.length - 1) + L.length by omega, Nat.add_mod_right]
theorem cyc_s {L : List Q2} {k : Nat} (h : k < L.length) : cyc L (k + 1) = L.getD k (0, 0) := by
  unfold cyc
  rw [show k + 1 + (L.length - 1) = k + L.length by omega, Nat.add_mod_right, Nat.mod_eq_of_lt h]
theorem cyc_mod (L : List Q2) (i : Nat) (h : L ≠ []) : ∃ k, k < L.length ∧ cyc L i = L.getD k (0, 0) := ⟨(i + (L.length - 1)) % L.length, Nat.mod_lt _ (List.length_pos_iff.mpr h), rfl⟩
theorem getD_mem {L : List Q2} {k : Nat} (h : k < L.length) : L.getD k (0, 0) ∈ L := by
  rw [List.getD_eq_getElem?_getD, List.getElem?_eq_getElem h]; exact List.getElem_mem _
theorem cyc_mem {L : List Q2} {i : Nat} (h : L ≠ []) : cyc L i ∈ L := by
  obtain ⟨k, hk, e⟩ := cyc_mod L i h
  rw [e]; exact getD_mem hk
theorem mem_cyc {L : List Q2} {p : Q2} (h : p ∈ L) : ∃ k, k < L.length ∧ p = cyc L (k + 1) := by
  obtain ⟨k, hk, e⟩ := List.mem_iff_getElem.mp h
  refine ⟨k, hk, ?_⟩
  rw [cyc_s hk, List.getD_eq_getElem?_getD, List.getElem?_eq_getElem hk]
  exact e.symm
theorem mod2 {x n : Nat} (h : x < 2 * n) : x % n = if x < n then x else x - n := by
  split
  · rename_i c; exact Nat.mod_eq_of_lt c
  · rename_i c
    rw [Nat.mod_eq_sub_mod (by omega), Nat.mod_eq_of_lt (by omega)]
theorem SC.cy {L : List Q2} (h : SC L) (h3 : 3 ≤ L.length) : Cy L.length (cyc L) where
  n3 := h3
  per := cyc_per L
  pos := fun a b c h1 h2 h4 => by
    unfold cyc
    generalize L.length - 1 = z
    have hx := Nat.mod_lt (a + z) (show 0 < L.length by omega)
    have e1 : (b + z) % L.length = ((a + z) % L.length + (b - a)) % L.length := by rw [Nat.mod_add_mod]; congr 1; omega
    have e2 : (c + z) % L.length = ((a + z) % L.length + (c - a)) % L.length := by rw [Nat.mod_add_mod]; congr 1; omega
    rw [e1, e2]
    generalize (a + z) % L.length = x at *
    rw [mod2 (by omega), mod2 (by omega)]
    by_cases q1 : x + (b - a) < L.length
    · rw [if_pos q1]
      by_cases q2 : x + (c - a) < L.length
      · rw [if_pos q2]; exact h.get (by omega) (by omega) q2
      · rw [if_neg q2, tr_rot, tr_rot]
        exact h.get (i := x + (c - a) - L.length) (j := x) (k := x + (b - a)) (by omega) (by omega) (by omega)
    · rw [if_neg q1, if_neg (by omega), tr_rot]
      exact h.get (i := x + (b - a) - L.length) (j := x + (c - a) - L.length) (k := x) (by omega) (by omega) (by omega)
def em (h : HP) (u v : Q2) : List Q2 := (if vl h u * vl h v < 0 then [W (vl h u / (vl h u - vl h v)) u v] else []) ++ (if vl h v ≤ 0 then [v] else [])
def cutR (h : HP) (C : List Q2) : List Q2 := (List.range C.length).flatMap fun k => em h (cyc C k) (cyc C (k + 1))
def ke (h : HP) (U : Nat → Q2) (k : Nat) : List (Nat × Rat) := (if vl h (U k) * vl h (U (k + 1)) < 0 then [(k, vl h (U k) / (vl h (U k) - vl h (U (k + 1))))] else []) ++ (if vl h (U (k + 1)) ≤ 0 then [(k, 1)] else [])
def kl (a b : Nat × Rat) : Prop := a.1 < b.1 ∨ a.1 = b.1 ∧ a.2 < 1 ∧ b.2 = 1
structure KX (h : HP) (U : Nat → Q2) (k : Nat) (t : Rat) : Prop where
  pos : 0 < t
  lt : t < 1
  cr : vl h (U k) * vl h (U (k + 1)) < 0
  on : vl h (pt U k t) = 0
def KOk (h : HP) (U : Nat → Q2) (a : Nat × Rat) : Prop := (a.2 = 1 ∧ vl h (U (a.1 + 1)) ≤ 0) ∨ KX h U a.1 a.2
theorem neg_mul {a b : Rat} (h : a * b < 0) : (a < 0 ∧ 0 < b) ∨ (0 < a ∧ b < 0) := by
  by_cases h1 : 0 ≤ a
  · by_cases h2 : 0 ≤ b
    · have := mul_nn h1 h2; grind
    · by_cases h3 : a = 0
      · subst h3; grind
      · exact .inr ⟨by grind, by grind⟩
  · by_cases h2 : 0 < b
    · exact .inl ⟨by grind, h2⟩
    · have := mul_nn (show 0 ≤ -a by grind) (show 0 ≤ -b by grind); grind
theorem cross_t {a b : Rat} (h : a * b < 0) : 0 < a / (a - b) ∧ a / (a - b) < 1 ∧ (1 - a / (a - b)) * a + a / (a - b) * b = 0 := by
  have key : a - b ≠ 0 := fun z => by rcases neg_mul h with q | q <;> grind
  have e : a / (a - b) * (a - b) = a := Rat.div_mul_cancel key
  generalize a / (a - b) = t at e
  rcases neg_mul h with ⟨q1, q2⟩ | ⟨q1, q2⟩
  · refine ⟨?_, ?_, by grind⟩
    · apply Classical.byContradiction; intro c
      have := mul_nn (show 0 ≤ -t by grind) (show 0 ≤ -(a - b) by grind); grind
    · apply Classical.byContradiction; intro c
      have := mul_nn (show 0 ≤ t - 1 by grind) (show 0 ≤ -(a - b) by grind); grind
  · refine ⟨?_, ?_, by grind⟩
    · apply Classical.byContradiction; intro c
      have := mul_nn (show 0 ≤ -t by grind) (show 0 ≤ a - b by grind); grind
    · apply Classical.byContradiction; intro c
      have := mul_nn (show 0 ≤ t - 1 by grind) (show 0 ≤ a - b by grind); grind
section
variable {h : HP} {n : Nat} {U : Nat → Q2} {k : Nat} {a b c : Nat × Rat}
theorem ke_mem (ha : a ∈ ke h U k) : a.1 = k ∧ KOk h U a := by
  unfold ke at ha
  rcases List.mem_append.mp ha with ha | ha
  · split at ha
    · rename_i q
      rw [List.mem_singleton] at ha
      subst ha
      obtain ⟨q1, q2, q3⟩ := cross_t q
      refine ⟨rfl, .inr ⟨q1, q2, q, ?_⟩⟩
      unfold pt
      rw [vl_W]
      exact q3
    · cases ha
  · split at ha
    · rename_i q
      rw [List.mem_singleton] at ha
      subst ha
      exact ⟨rfl, .inl ⟨rfl, q⟩⟩
    · cases ha
theorem KOk.rg (ha : KOk h U a) : 0 < a.2 ∧ a.2 ≤ 1 := by
  rcases ha with ⟨e, _⟩ | x
  · rw [e]; grind
  · exact ⟨x.pos, Rat.le_of_lt x.lt⟩
theorem KOk.x (ha : KOk h U a) (q : a.2 < 1) : KX h U a.1 a.2 := by
  rcases ha with ⟨e, _⟩ | x
  · rw [e] at q; grind
  · exact x
theorem KOk.v (ha : KOk h U a) (q : a.2 = 1) : vl h (U (a.1 + 1)) ≤ 0 := by
  rcases ha with ⟨_, e⟩ | x
  · exact e
  · have := x.lt; grind
theorem KOk.le (ha : KOk h U a) : vl h (pt U a.1 a.2) ≤ 0 := by
  rcases ha with ⟨e, x⟩ | x
  · rw [e, pt_1]; exact x
  · rw [x.on]; exact Rat.le_refl
theorem not_cross {a b : Rat} (h1 : a ≤ 0) (h2 : b ≤ 0) : ¬ a * b < 0 := fun z => by rcases neg_mul z with q | q <;> grind
theorem keys_tr (C : Cy n U) (ha : KOk h U a) (hb : KOk h U b) (hc : KOk h U c) (h1 : kl a b) (h2 : kl b c) (h3 : c.1 < a.1 + n) : 0 < tr (pt U a.1 a.2) (pt U b.1 b.2) (pt U c.1 c.2) := by
  rcases h1 with h1 | ⟨e1, l1, o1⟩
  · rcases h2 with h2 | ⟨e2, l2, o2⟩
    · exact C.keys ha.rg hb.rg hc.rg h1 h2 h3
    · rw [o2, pt_1, ← e2]
      refine C.same_end ha.rg ⟨hb.rg.1, l2⟩ h1 (by omega) fun q => ?_
      apply Classical.byContradiction
      intro z
      have v1 := ha.v (by have := ha.rg.2; grind)
      have v2 := hc.v o2
      rw [q] at v1
      rw [← e2] at v2
      exact not_cross v1 v2 (hb.x l2).cr
  · rcases h2 with h2 | ⟨e2, l2, o2⟩
    · rw [o1, pt_1, ← e1]
      refine C.same_beg hc.rg ⟨ha.rg.1, l1⟩ (by omega) h3 fun q => ?_
      apply Classical.byContradiction
      intro z
      have v1 := hb.v o1
      have v2 := hc.v (by have := hc.rg.2; grind)
      rw [q, C.per] at v2
      rw [← e1] at v1
      exact not_cross v2 v1 (ha.x l1).cr
    · rw [o1] at l2; grind
def keys (h : HP) (U : Nat → Q2) (l : List Nat) : List (Nat × Rat) := l.flatMap (ke h U)
theorem ke_pt : (ke h U k).map (fun a => pt U a.1 a.2) = em h (U k) (U (k + 1)) := by
  unfold ke em
  rw [List.map_append]
  congr 1
  · split <;> rfl
  · split
    · simp [pt_1]
    · rfl
theorem keys_pt (l : List Nat) : (keys h U l).map (fun a => pt U a.1 a.2) = l.flatMap fun k => em h (U k) (U (k + 1)) := by
  unfold keys
  rw [List.map_flatMap]
  congr 1
  funext k
  exact ke_pt
theorem keys_lt {l : List Nat} (hl : l.Pairwise (· < ·)) : (keys h U l).Pairwise kl := by
  unfold keys
  rw [List.pairwise_flatMap]
  refine ⟨fun k _ => ?_, hl.imp fun {x y} hxy a ha b hb => .inl (by rw [(ke_mem ha).1, (ke_mem hb).1]; exact hxy)⟩
  unfold ke
  split
  · split
    · rename_i q _
      refine List.Pairwise.cons (fun b hb => ?_) (List.pairwise_singleton _ _)
      have hb : b ∈ [(k, (1 : Rat))] := hb
      rw [List.mem_singleton] at hb
      subst hb
      exact .inr ⟨rfl, (cross_t q).2.1, rfl⟩
    · exact List.pairwise_singleton _ _
  · split
    · exact List.pairwise_singleton _ _
    · exact List.Pairwise.nil
theorem keys_mem {l : List Nat} (ha : a ∈ keys h U l) : a.1 ∈ l ∧ KOk h U a := by
  obtain ⟨k, hk, h1⟩ := List.mem_flatMap.mp ha
  obtain ⟨e, x⟩ := ke_mem h1
  exact ⟨by rw [e]; exact hk, x⟩
theorem sc_keys (C : Cy n U) : ∀ {K : List (Nat × Rat)}, K.Pairwise kl → (∀ a ∈ K, KOk h U a ∧ a.1 < n) → SC (K.map fun a => pt U a.1 a.2)
  | [], _, _ => trivial
  | a :: K, hp, hk => by
    rw [List.pairwise_cons] at hp
    refine ⟨?_, sc_keys C hp.2 fun b hb => hk b (List.mem_cons_of_mem _ hb)⟩
    rw [List.pairwise_map]
    exact hp.2.imp_of_mem fun {b c} hb hc hbc => keys_tr C (hk a List.mem_cons_self).1 (hk b (List.mem_cons_of_mem _ hb)).1 (hk c (List.mem_cons_of_mem _ hc)).1 (hp.1 b hb) hbc (by have := (hk c (List.mem_cons_of_mem _ hc)).2; omega)
theorem sc_cutR {L : List Q2} (C : Cy L.length (cyc L)) : SC (cutR h L) := by
  have := sc_keys (h := h) C (K := keys h (cyc L) (List.range L.length)) (keys_lt List.pairwise_lt_range) fun a ha => ⟨(keys_mem ha).2, List.mem_range.mp (keys_mem ha).1⟩
  rw [keys_pt] at this
  exact this
end
end Pg
end
section
set_option maxRecDepth 100000
set_option maxHeartbeats 1000000
namespace Pg
section
variable {h : HP} {n : Nat} {U : Nat → Q2} {k m : Nat} {a b c : Nat × Rat} {p : Q2}
structure St (h : HP) (U : Nat → Q2) (m : Nat) (a : Nat × Rat) : Prop where
  lt : a.1 < m
  ok : KOk h U a
  nn : vl h (U m) ≤ 0 → a.1 + 1 = m ∧ a.2 = 1
  po : 0 < vl h (U m) → vl h (pt U a.1 a.2) = 0
structure Gd (h : HP) (U : Nat → Q2) (a b : Nat × Rat) : Prop where
  oka : KOk h U a
  okb : KOk h U b
  or : (a.1 = b.1 ∧ a.2 < 1 ∧ b.2 = 1) ∨ (a.1 + 1 = b.1 ∧ a.2 = 1) ∨ (a.1 < b.1 ∧ vl h (pt U a.1 a.2) = 0 ∧ vl h (pt U b.1 b.2) = 0 ∧ 0 < vl h (U b.1))
def Chn (R : Nat × Rat → Nat × Rat → Prop) : Nat × Rat → List (Nat × Rat) → Prop
  | _, [] => True
  | a, b :: L => R a b ∧ Chn R b L
theorem Chn.app {R : Nat × Rat → Nat × Rat → Prop} : ∀ {a : Nat × Rat} {L M : List (Nat × Rat)}, Chn R a L → Chn R (L.getLast?.getD a) M → Chn R a (L ++ M)
  | a, [], M, _, h => h
  | a, b :: L, M, h, h2 => ⟨h.1, Chn.app h.2 (by
      rw [List.getLast?_cons] at h2
      exact h2)⟩
theorem Chn.get {R : Nat × Rat → Nat × Rat → Prop} : ∀ {a : Nat × Rat} {L : List (Nat × Rat)}, Chn R a L → ∀ k, k < L.length → R ((a :: L).getD k (0, 0)) (L.getD k (0, 0))
  | a, [], _, k, hk => by simp at hk
  | a, b :: L, h, 0, _ => h.1
  | a, b :: L, h, k + 1, hk => by
    have := Chn.get h.2 k (by simpa using hk)
    simpa using this
theorem ke_cases : (ke h U m = [] ∧ 0 < vl h (U (m + 1)) ∧ 0 ≤ vl h (U m)) ∨ (∃ t, ke h U m = [(m, t)] ∧ KX h U m t ∧ 0 < vl h (U (m + 1)) ∧ vl h (U m) < 0) ∨ (ke h U m = [(m, 1)] ∧ vl h (U (m + 1)) ≤ 0 ∧ (0 < vl h (U m) → vl h (U (m + 1)) = 0)) ∨ ∃ t, ke h U m = [(m, t), (m, 1)] ∧ KX h U m t ∧ vl h (U (m + 1)) < 0 ∧ 0 < vl h (U m) := by
  have hx : ∀ q : vl h (U m) * vl h (U (m + 1)) < 0, KX h U m (vl h (U m) / (vl h (U m) - vl h (U (m + 1)))) := fun q => by
    obtain ⟨q1, q2, q3⟩ := cross_t q
    exact ⟨q1, q2, q, by unfold pt; rw [vl_W]; exact q3⟩
  by_cases q : vl h (U m) * vl h (U (m + 1)) < 0
  · by_cases z : vl h (U (m + 1)) ≤ 0
    · refine .inr (.inr (.inr ⟨_, by unfold ke; rw [if_pos q, if_pos z]; rfl, hx q, ?_⟩))
      rcases neg_mul q with y | y <;> grind
    · refine .inr (.inl ⟨_, by unfold ke; rw [if_pos q, if_neg z]; rfl, hx q, ?_⟩)
      rcases neg_mul q with y | y <;> grind
  · by_cases z : vl h (U (m + 1)) ≤ 0
    · refine .inr (.inr (.inl ⟨by unfold ke; rw [if_neg q, if_pos z]; rfl, z, fun y => ?_⟩))
      apply Classical.byContradiction
      intro c
      have := mul_pp y (show 0 < -vl h (U (m + 1)) by grind)
      grind
    · refine .inl ⟨by unfold ke; rw [if_neg q, if_neg z]; rfl, by grind, ?_⟩
      apply Classical.byContradiction
      intro c
      have := mul_pp (show 0 < -vl h (U m) by grind) (show 0 < vl h (U (m + 1)) by grind)
      grind
theorem st_step (ha : St h U m a) : Chn (Gd h U) a (ke h U m) ∧ St h U (m + 1) ((ke h U m).getLast?.getD a) := by
  rcases ke_cases (h := h) (U := U) (m := m) with ⟨e, p1, p2⟩ | ⟨t, e, x, p1, p2⟩ | ⟨e, p1, p2⟩ | ⟨t, e, x, p1, p2⟩
  · rw [e]
    refine ⟨trivial, by have := ha.lt; show a.1 < m + 1; omega, ha.ok, fun z => ?_, fun _ => ?_⟩
    · exact absurd z (by grind)
    · show vl h (pt U a.1 a.2) = 0
      by_cases q : vl h (U m) ≤ 0
      · obtain ⟨e1, e2⟩ := ha.nn q
        rw [e2, pt_1, e1]; grind
      · exact ha.po (by grind)
  · rw [e]
    obtain ⟨e1, e2⟩ := ha.nn (by grind)
    exact ⟨⟨⟨ha.ok, .inr x, .inr (.inl ⟨e1, e2⟩)⟩, trivial⟩, Nat.lt_succ_self m, .inr x, fun z => absurd z (by grind), fun _ => x.on⟩
  · rw [e]
    refine ⟨⟨⟨ha.ok, .inl ⟨rfl, p1⟩, ?_⟩, trivial⟩, Nat.lt_succ_self m, .inl ⟨rfl, p1⟩, fun _ => ⟨rfl, rfl⟩, fun z => absurd z (by grind)⟩
    by_cases q : vl h (U m) ≤ 0
    · obtain ⟨e1, e2⟩ := ha.nn q
      exact .inr (.inl ⟨e1, e2⟩)
    · have q : 0 < vl h (U m) := by grind
      exact .inr (.inr ⟨ha.lt, ha.po q, by rw [pt_1]; exact p2 q, q⟩)
  · rw [e]
    have z : vl h (U (m + 1)) ≤ 0 := by grind
    refine ⟨⟨⟨ha.ok, .inr x, .inr (.inr ⟨ha.lt, ha.po p2, x.on, p2⟩)⟩, ⟨.inr x, .inl ⟨rfl, z⟩, .inl ⟨rfl, x.lt, rfl⟩⟩, trivial⟩, Nat.lt_succ_self m, .inl ⟨rfl, z⟩, fun _ => ⟨rfl, rfl⟩, fun y => absurd y (by grind)⟩
theorem keys_app (l l' : List Nat) : keys h U (l ++ l') = keys h U l ++ keys h U l' := List.flatMap_append
theorem last_app {α : Type} (L M : List α) (a : α) : (L ++ M).getLast?.getD a = M.getLast?.getD (L.getLast?.getD a) := by
  rw [List.getLast?_append]
  cases M.getLast? <;> rfl
theorem st_go (ha : St h U m a) : ∀ c, Chn (Gd h U) a (keys h U (List.range' m c)) ∧ St h U (m + c) ((keys h U (List.range' m c)).getLast?.getD a)
  | 0 => ⟨trivial, ha⟩
  | c + 1 => by
    obtain ⟨h1, h2⟩ := st_go ha c
    obtain ⟨h3, h4⟩ := st_step h2
    have e : keys h U (List.range' m (c + 1)) = keys h U (List.range' m c) ++ ke h U (m + c) := by
      rw [List.range'_concat, keys_app]
      unfold keys
      simp
    rw [e, last_app]
    exact ⟨h1.app h3, h4⟩
theorem st_any : ∀ c, ∀ a, (keys h U (List.range c)).getLast? = some a → St h U c a
  | 0, a, e => by simp [keys] at e
  | c + 1, a, e => by
    have e0 : keys h U (List.range (c + 1)) = keys h U (List.range c) ++ ke h U c := by
      rw [List.range_succ, keys_app]
      unfold keys
      simp
    rw [e0, List.getLast?_append] at e
    cases q : (keys h U (List.range c)).getLast? with
    | some a0 =>
      have s0 := st_any c a0 q
      have := (st_step s0).2
      rw [q] at e
      cases z : (ke h U c).getLast? with
      | none => rw [z] at e this; cases e; exact this
      | some y => rw [z] at e this; cases e; exact this
    | none =>
      rw [q] at e
      have e : (ke h U c).getLast? = some a := by
        cases z : (ke h U c).getLast? with
        | none => rw [z] at e; cases e
        | some y => rw [z] at e; exact e
      rcases ke_cases (h := h) (U := U) (m := c) with ⟨e1, p1, p2⟩ | ⟨t, e1, x, p1, p2⟩ | ⟨e1, p1, p2⟩ | ⟨t, e1, x, p1, p2⟩
      · rw [e1] at e; cases e
      · rw [e1] at e; cases e
        exact ⟨Nat.lt_succ_self c, .inr x, fun z => absurd z (by grind), fun _ => x.on⟩
      · rw [e1] at e; cases e
        exact ⟨Nat.lt_succ_self c, .inl ⟨rfl, p1⟩, fun _ => ⟨rfl, rfl⟩, fun z => absurd z (by grind)⟩
      · rw [e1] at e; cases e
        exact ⟨Nat.lt_succ_self c, .inl ⟨rfl, by show vl h (U (c + 1)) ≤ 0; grind⟩, fun _ => ⟨rfl, rfl⟩, fun z => absurd z (by grind)⟩
def sh (n : Nat) (a : Nat × Rat) : Nat × Rat := (a.1 + n, a.2)
theorem ke_sh (hp : ∀ i, U (i + n) = U i) (k : Nat) : ke h U (k + n) = (ke h U k).map (sh n) := by
  unfold ke
  rw [show k + n + 1 = k + 1 + n by omega, hp, hp, List.map_append]
  congr 1
  · split <;> rfl
  · split <;> rfl
theorem keys_sh (hp : ∀ i, U (i + n) = U i) : keys h U (List.range' n n) = (keys h U (List.range n)).map (sh n) := by
  unfold keys
  rw [List.map_flatMap, List.range'_eq_map_range, List.flatMap_map]
  congr 1
  funext k
  rw [Nat.add_comm, ke_sh hp]
theorem pt_sh (hp : ∀ i, U (i + n) = U i) (a : Nat × Rat) : pt U (sh n a).1 (sh n a).2 = pt U a.1 a.2 := by
  unfold pt sh
  dsimp only
  rw [show a.1 + n + 1 = a.1 + 1 + n by omega, hp, hp]
structure Nx (h : HP) (n : Nat) (U : Nat → Q2) (A B : Q2) : Prop where
  ex : ∃ a b, Gd h U a b ∧ b.1 ≤ a.1 + n ∧ A = pt U a.1 a.2 ∧ B = pt U b.1 b.2
theorem getD_map {α β : Type} (f : α → β) (L : List α) (k : Nat) (d : α) (d' : β) (hk : k < L.length) : (L.map f).getD k d' = f (L.getD k d) := by
  rw [List.getD_eq_getElem?_getD, List.getD_eq_getElem?_getD, List.getElem?_map, List.getElem?_eq_getElem hk]
  rfl
theorem nx_all (hp : ∀ i, U (i + n) = U i) {L : List Q2} (hL : L = (keys h U (List.range n)).map fun a => pt U a.1 a.2) {k : Nat} (hk : k < L.length) : Nx h n U (cyc L k) (cyc L (k + 1)) := by
  have lK : (keys h U (List.range n)).length = L.length := by rw [hL, List.length_map]
  generalize hK : keys h U (List.range n) = K at *
  have ne : K ≠ [] := fun z => by rw [z] at lK; simp at lK; omega
  obtain ⟨a0, ea⟩ : ∃ a0, K.getLast? = some a0 := by rw [List.getLast?_eq_some_getLast ne]; exact ⟨_, rfl⟩
  have s0 := st_any (h := h) (U := U) n a0 (by rw [hK]; exact ea)
  have ch := (st_go s0 n).1
  rw [keys_sh hp, hK] at ch
  have g := ch.get k (by rw [List.length_map]; omega)
  have eb : ∀ k, k < L.length → cyc L (k + 1) = pt U ((K.map (sh n)).getD k (0, 0)).1 ((K.map (sh n)).getD k (0, 0)).2 := fun k hk => by
    rw [cyc_s hk, getD_map (sh n) K k (0, 0) (0, 0) (by omega), pt_sh hp, hL, getD_map (fun a => pt U a.1 a.2) K k (0, 0) (0, 0) (by omega)]
  have kb : ∀ k, k < L.length → (K.getD k (0, 0)) ∈ K := fun k hk => by
    rw [List.getD_eq_getElem?_getD, List.getElem?_eq_getElem (by omega)]; exact List.getElem_mem _
  have inR : ∀ x ∈ K, x.1 < n := fun x hx => by
    rw [← hK] at hx; exact List.mem_range.mp (keys_mem hx).1
  cases k with
  | zero =>
    refine ⟨a0, _, g, ?_, ?_, eb 0 hk⟩
    · rw [getD_map (sh n) K 0 (0, 0) (0, 0) (by omega)]
      show (K.getD 0 (0, 0)).1 + n ≤ a0.1 + n
      have pw := keys_lt (h := h) (U := U) (l := List.range n) List.pairwise_lt_range
      rw [hK] at pw
      have := List.getLast?_eq_getElem? (l := K)
      rw [ea] at this
      obtain ⟨hl, e⟩ := List.getElem?_eq_some_iff.mp this.symm
      by_cases z : K.length = 1
      · have : K.getD 0 (0, 0) = a0 := by
          rw [List.getD_eq_getElem?_getD, List.getElem?_eq_getElem (by omega)]
          rw [← e]; simp [z]
        rw [this]; exact Nat.le_refl _
      · have := List.pairwise_iff_getElem.mp pw 0 (K.length - 1) (by omega) hl (by omega)
        rw [e] at this
        rw [List.getD_eq_getElem?_getD, List.getElem?_eq_getElem (by omega)]
        rcases this with q | ⟨q, _⟩
        · show K[0].1 + n ≤ _; omega
        · show K[0].1 + n ≤ _; omega
    · have hz : cyc L 0 = L.getD (L.length - 1) (0, 0) := by
        unfold cyc
        rw [Nat.zero_add, Nat.mod_eq_of_lt (by omega)]
      rw [hz, hL, getD_map (fun a => pt U a.1 a.2) K _ (0, 0) (0, 0) (by rw [List.length_map]; omega), List.length_map]
      have := List.getLast?_eq_getElem? (l := K)
      rw [ea] at this
      rw [List.getD_eq_getElem?_getD, ← this]
      rfl
  | succ k =>
    refine ⟨_, _, g, ?_, ?_, eb (k + 1) hk⟩
    · rw [List.getD_cons_succ, getD_map (sh n) K (k + 1) (0, 0) (0, 0) (by omega), getD_map (sh n) K k (0, 0) (0, 0) (by omega)]
      have := inR _ (kb (k + 1) hk)
      show (K.getD (k + 1) (0, 0)).1 + n ≤ (K.getD k (0, 0)).1 + n + n
      omega
    · rw [List.getD_cons_succ]; exact eb k (by omega)
end
end Pg
end
section
set_option maxRecDepth 100000
set_option maxHeartbeats 1000000
namespace Pg
def RS (S : List HP) (p : Q2) : Prop := ∀ g ∈ S, vl g p ≤ 0
def ded (L : List Q2) : List Q2 := ((List.range L.length).filter fun k => decide (cyc L (k + 1) ≠ cyc L k ∨ L.length = 1)).map fun k => cyc L (k + 1)
def cut (h : HP) (C : List Q2) : List Q2 := ded (cutR h C)
structure Ok (S : List HP) (C : List Q2) : Prop where
  inn : ∀ v ∈ C, RS S v
  edg : ∀ k, k < C.length → ∃ g ∈ S, vl g (cyc C k) = 0 ∧ vl g (cyc C (k + 1)) = 0
  shp : (C = [] ∧ ∀ p, ¬ RS S p) ∨ (∃ u, C = [u] ∧ ∀ p, RS S p → p = u) ∨ (∃ u v, C = [u, v] ∧ u ≠ v ∧ ∀ p, RS S p → ∃ t, 0 ≤ t ∧ t ≤ 1 ∧ p = W t u v) ∨
    (3 ≤ C.length ∧ SC C ∧ ∀ p, RS S p → ∀ k, k < C.length → 0 ≤ tr (cyc C k) (cyc C (k + 1)) p)
section
variable {h : HP} {n : Nat} {U : Nat → Q2} {S : List HP} {C : List Q2} {p A B : Q2} {i j k : Nat} {t : Rat}
theorem W_vl {g : HP} {u v : Q2} (h0 : 0 ≤ t) (h1 : t ≤ 1) (hu : vl g u ≤ 0) (hv : vl g v ≤ 0) : vl g (W t u v) ≤ 0 := by
  rw [vl_W]
  have := mul_nn (show 0 ≤ 1 - t by grind) (show 0 ≤ -vl g u by grind)
  have := mul_nn h0 (show 0 ≤ -vl g v by grind)
  grind
theorem em_mem {u v x : Q2} (hx : x ∈ em h u v) : (∃ t, 0 ≤ t ∧ t ≤ 1 ∧ x = W t u v) ∧ vl h x ≤ 0 := by
  unfold em at hx
  rcases List.mem_append.mp hx with hx | hx
  · split at hx
    · rename_i q
      rw [List.mem_singleton] at hx
      obtain ⟨q1, q2, q3⟩ := cross_t q
      subst hx
      exact ⟨⟨_, Rat.le_of_lt q1, Rat.le_of_lt q2, rfl⟩, by rw [vl_W, q3]; exact Rat.le_refl⟩
    · cases hx
  · split at hx
    · rename_i q
      rw [List.mem_singleton] at hx
      subst hx
      exact ⟨⟨1, by grind, by grind, (W_1 _ _).symm⟩, q⟩
    · cases hx
theorem cutR_mem {x : Q2} (hx : x ∈ cutR h C) : (∃ k t, k < C.length ∧ 0 ≤ t ∧ t ≤ 1 ∧ x = W t (cyc C k) (cyc C (k + 1))) ∧ vl h x ≤ 0 := by
  obtain ⟨k, hk, hx⟩ := List.mem_flatMap.mp hx
  obtain ⟨⟨t, h0, h1, e⟩, h2⟩ := em_mem hx
  exact ⟨⟨k, t, List.mem_range.mp hk, h0, h1, e⟩, h2⟩
theorem RS.cons {g : HP} : RS (g :: S) p ↔ vl g p ≤ 0 ∧ RS S p := by
  unfold RS
  constructor
  · exact fun h => ⟨h _ List.mem_cons_self, fun x hx => h x (List.mem_cons_of_mem _ hx)⟩
  · rintro ⟨h1, h2⟩ x hx
    rcases List.mem_cons.mp hx with rfl | hx
    · exact h1
    · exact h2 x hx
theorem Ok.cyc_in (O : Ok S C) (hC : C ≠ []) (k : Nat) : RS S (cyc C k) := O.inn _ (cyc_mem hC)
theorem Ok.cutR_in (O : Ok S C) {x : Q2} (hx : x ∈ cutR h C) : RS (h :: S) x := by
  obtain ⟨⟨k, t, hk, h0, h1, rfl⟩, h2⟩ := cutR_mem hx
  have ne : C ≠ [] := fun z => by rw [z] at hk; simp at hk
  exact RS.cons.mpr ⟨h2, fun g hg => W_vl h0 h1 (O.cyc_in ne k g hg) (O.cyc_in ne (k + 1) g hg)⟩
theorem ded_mem {L : List Q2} {x : Q2} (hx : x ∈ ded L) : x ∈ L := by
  obtain ⟨k, hk, rfl⟩ := List.mem_map.mp hx
  have hk := List.mem_range.mp (List.mem_filter.mp hk).1
  rw [cyc_s hk]; exact getD_mem hk
theorem cyc_list (L : List Q2) : (List.range L.length).map (fun k => cyc L (k + 1)) = L := by
  refine List.ext_getElem? fun i => ?_
  rw [List.getElem?_map]
  by_cases hi : i < L.length
  · rw [List.getElem?_range hi, List.getElem?_eq_getElem hi, Option.map_some, cyc_s hi, List.getD_eq_getElem?_getD, List.getElem?_eq_getElem hi]; rfl
  · rw [List.getElem?_eq_none (by simpa using hi), List.getElem?_eq_none (by omega)]; rfl
theorem ded_all {L : List Q2} (h : ∀ k, k < L.length → cyc L (k + 1) ≠ cyc L k ∨ L.length = 1) : ded L = L := by
  unfold ded
  rw [List.filter_eq_self.mpr fun k hk => decide_eq_true (h k (List.mem_range.mp hk))]
  exact cyc_list L
theorem Cy.ne (Y : Cy n U) (k : Nat) : U k ≠ U (k + 1) := fun z => by
  have := Y.pos k (k + 1) (k + 2) (by omega) (by omega) (by have := Y.n3; omega)
  rw [z, tr_aa] at this
  exact absurd this (by grind)
theorem Cy.ne2 (Y : Cy n U) (k : Nat) : U k ≠ U (k + 2) := fun z => by
  have := Y.pos k (k + 1) (k + 2) (by omega) (by omega) (by have := Y.n3; omega)
  rw [z, tr_ab] at this
  exact absurd this (by grind)
theorem Cy.ned (Y : Cy n U) (h1 : i < j) (h2 : j < i + n) : U i ≠ U j := fun z => by
  have n3 := Y.n3
  by_cases q : j = i + 1
  · subst q; exact Y.ne i z
  · have := Y.pos i (i + 1) j (by omega) (by omega) h2
    rw [z, tr_ab] at this
    exact absurd this (by grind)
theorem min_at (f : Nat → Rat) : ∀ n, 0 < n → ∃ i, i < n ∧ ∀ j, j < n → f i ≤ f j
  | 1, _ => ⟨0, by omega, fun j hj => by rw [show j = 0 by omega]; exact Rat.le_refl⟩
  | n + 2, _ => by
    obtain ⟨i, hi, h⟩ := min_at f (n + 1) (by omega)
    by_cases q : f i ≤ f (n + 1)
    · refine ⟨i, by omega, fun j hj => ?_⟩
      by_cases z : j = n + 1
      · rw [z]; exact q
      · exact h j (by omega)
    · refine ⟨n + 1, by omega, fun j hj => ?_⟩
      by_cases z : j = n + 1
      · rw [z]; exact Rat.le_refl
      · have := h j (by omega); grind
theorem Cy.at (Y : Cy n U) (i : Nat) : ∃ j, j < n ∧ U i = U (j + 1) := by
  have n3 := Y.n3
  have key : ∀ q j, U (j + q * n) = U j := fun q => by
    induction q with
    | zero => intro j; rw [Nat.zero_mul, Nat.add_zero]
    | succ q ih => intro j; rw [Nat.succ_mul, ← Nat.add_assoc, Y.per, ih]
  refine ⟨(i + (n - 1)) % n, Nat.mod_lt _ (by omega), ?_⟩
  have e := Nat.mod_add_div (i + (n - 1)) n
  have e2 := key ((i + (n - 1)) / n) ((i + (n - 1)) % n + 1)
  rw [← e2, Nat.mul_comm]
  have e3 := Y.per i
  rw [← e3]
  congr 1
  omega
theorem Cy.lp (Y : Cy n U) {f : HP} {m : Rat} (hf : ∀ i, m ≤ vl f (U i)) (hp : ∀ k, 0 ≤ tr (U k) (U (k + 1)) p) : m ≤ vl f p := by
  have n3 := Y.n3
  obtain ⟨i, hi, hm⟩ := min_at (fun i => vl f (U (i + 1))) n (by omega)
  have hm : ∀ j, vl f (U (i + 1)) ≤ vl f (U j) := fun j => by
    obtain ⟨q, hq, e⟩ := Y.at j
    rw [e]; exact hm q hq
  have c := cone_id f (U i) (U (i + 1)) (U (i + 2)) p
  have d := Y.pos i (i + 1) (i + 2) (by omega) (by omega) (by omega)
  have w1 := mul_nn (hp (i + 1)) (show 0 ≤ vl f (U i) - vl f (U (i + 1)) by have := hm i; grind)
  have w2 := mul_nn (hp i) (show 0 ≤ vl f (U (i + 2)) - vl f (U (i + 1)) by have := hm (i + 2); grind)
  have w3 : vl f (U (i + 1)) ≤ vl f p := by
    apply Classical.byContradiction
    intro z
    have := mul_pp d (show 0 < vl f (U (i + 1)) - vl f p by grind)
    grind
  have := hf (i + 1)
  grind
theorem corner_eq {P V N : Q2} (d : 0 < tr P V N) (h1 : tr V N p = 0) (h2 : tr P V p = 0) : p = V := by
  have e1 : tr P V N * (p.1 - V.1) = 0 := by unfold tr at *; grind
  have e2 : tr P V N * (p.2 - V.2) = 0 := by unfold tr at *; grind
  rcases Rat.mul_eq_zero.mp e1 with z | z
  · grind
  · rcases Rat.mul_eq_zero.mp e2 with y | y
    · grind
    · exact Prod.ext (by grind) (by grind)
theorem zero_of {a b : Rat} (h : a * b = 0) (hb : 0 < b) : a = 0 := by
  rcases Rat.mul_eq_zero.mp h with z | z
  · exact z
  · grind
theorem Cy.touch (Y : Cy n U) (hp : ∀ k, 0 ≤ tr (U k) (U (k + 1)) p) (h0 : vl h (U (k + 1)) = 0) (hP : 0 ≤ vl h (U k)) (hN : 0 ≤ vl h (U (k + 2))) (hv : vl h p ≤ 0) :
    tr (U (k + 1)) (U (k + 2)) p * vl h (U k) = 0 ∧ tr (U k) (U (k + 1)) p * vl h (U (k + 2)) = 0 := by
  have c := cone_id h (U k) (U (k + 1)) (U (k + 2)) p
  have d := Y.pos k (k + 1) (k + 2) (by omega) (by omega) (by have := Y.n3; omega)
  rw [h0] at c
  have w1 := mul_nn (hp (k + 1)) hP
  have w2 := mul_nn (hp k) hN
  have w3 := mul_nn (Rat.le_of_lt d) (show 0 ≤ - vl h p by grind)
  have e1 : vl h (U k) - 0 = vl h (U k) := by grind
  have e2 : vl h (U (k + 2)) - 0 = vl h (U (k + 2)) := by grind
  rw [e1, e2] at c
  constructor <;> grind
theorem seg_of {P V N M : Q2} (d1 : 0 < tr P V N) (d2 : 0 < tr V N M) (h1 : tr V N p = 0) (h2 : 0 ≤ tr P V p) (h3 : 0 ≤ tr N M p) (ne : V ≠ N) : ∃ t, 0 ≤ t ∧ t ≤ 1 ∧ p = W t V N := by
  have e1 : tr P V N * (p.1 - V.1) = tr P V p * (N.1 - V.1) := by unfold tr at *; grind
  have e2 : tr P V N * (p.2 - V.2) = tr P V p * (N.2 - V.2) := by unfold tr at *; grind
  have e3 : tr V N M * (p.1 - N.1) = tr N M p * (V.1 - N.1) := by unfold tr at *; grind
  have e4 : tr V N M * (p.2 - N.2) = tr N M p * (V.2 - N.2) := by unfold tr at *; grind
  obtain ⟨s, hs⟩ : ∃ s, s * tr P V N = tr P V p := ⟨tr P V p / tr P V N, Rat.div_mul_cancel (by grind)⟩
  obtain ⟨r, hr⟩ : ∃ r, r * tr V N M = tr N M p := ⟨tr N M p / tr V N M, Rat.div_mul_cancel (by grind)⟩
  rw [← hs] at e1 e2 h2
  rw [← hr] at e3 e4 h3
  generalize tr P V N = x at *
  generalize tr V N M = y at *
  have s0 : 0 ≤ s := by
    apply Classical.byContradiction; intro c
    have := mul_pp (show 0 < -s by grind) d1; grind
  have r0 : 0 ≤ r := by
    apply Classical.byContradiction; intro c
    have := mul_pp (show 0 < -r by grind) d2; grind
  have f1 : p.1 - V.1 = s * (N.1 - V.1) := by
    have : x * (p.1 - V.1 - s * (N.1 - V.1)) = 0 := by grind
    rcases Rat.mul_eq_zero.mp this with z | z <;> grind
  have f2 : p.2 - V.2 = s * (N.2 - V.2) := by
    have : x * (p.2 - V.2 - s * (N.2 - V.2)) = 0 := by grind
    rcases Rat.mul_eq_zero.mp this with z | z <;> grind
  have f3 : p.1 - N.1 = r * (V.1 - N.1) := by
    have : y * (p.1 - N.1 - r * (V.1 - N.1)) = 0 := by grind
    rcases Rat.mul_eq_zero.mp this with z | z <;> grind
  have f4 : p.2 - N.2 = r * (V.2 - N.2) := by
    have : y * (p.2 - N.2 - r * (V.2 - N.2)) = 0 := by grind
    rcases Rat.mul_eq_zero.mp this with z | z <;> grind
  have g1 : (1 - s - r) * (N.1 - V.1) = 0 := by grind
  have g2 : (1 - s - r) * (N.2 - V.2) = 0 := by grind
  have : 1 - s - r = 0 := by
    rcases Rat.mul_eq_zero.mp g1 with z | z
    · exact z
    · rcases Rat.mul_eq_zero.mp g2 with y | y
      · exact y
      · exact absurd (Prod.ext (by grind) (by grind)) ne
  exact ⟨s, s0, by grind, Prod.ext (by unfold W; dsimp only; grind) (by unfold W; dsimp only; grind)⟩
end
end Pg
end
section
set_option maxRecDepth 100000
set_option maxHeartbeats 1000000
namespace Pg
def sN (f : Nat → Nat) (n : Nat) : Nat := ((List.range n).map f).sum
theorem sN_s (f : Nat → Nat) (n : Nat) : sN f (n + 1) = sN f n + f n := by unfold sN; rw [List.range_succ]; simp
theorem sum1 (f : Nat → Nat) {a : Nat} : ∀ {n : Nat}, a < n → f a ≤ sN f n
  | n + 1, h => by
    rw [sN_s]
    by_cases q : a = n
    · subst q; omega
    · have := sum1 f (n := n) (a := a) (by omega); omega
theorem sum2 (f : Nat → Nat) {a b : Nat} (ab : a < b) : ∀ {n : Nat}, b < n → f a + f b ≤ sN f n
  | n + 1, h => by
    rw [sN_s]
    by_cases q : b = n
    · subst q; have := sum1 f ab; omega
    · have := sum2 f ab (n := n) (by omega); omega
theorem sum3 (f : Nat → Nat) {a b c : Nat} (ab : a < b) (bc : b < c) : ∀ {n : Nat}, c < n → f a + f b + f c ≤ sN f n
  | n + 1, h => by
    rw [sN_s]
    by_cases q : c = n
    · subst q; have := sum2 f ab bc; omega
    · have := sum3 f ab bc (n := n) (by omega); omega
section
variable {h : HP} {n : Nat} {U : Nat → Q2} {S : List HP} {C : List Q2} {p A B : Q2} {i j k : Nat} {t : Rat}
theorem len_keys : (keys h U (List.range n)).length = sN (fun k => (ke h U k).length) n := by
  unfold keys sN
  rw [List.length_flatMap]
theorem three_of (Y : Cy n U) (hi : i < n) (hv : vl h (U (i + 1)) < 0) : 3 ≤ (keys h U (List.range n)).length := by
  rw [len_keys]
  have n3 := Y.n3
  have per : ∀ k, (ke h U (k + n)).length = (ke h U k).length := fun k => by rw [ke_sh Y.per, List.length_map]
  have f1 : 1 ≤ (ke h U (i + 1)).length := by
    rcases ke_cases (h := h) (U := U) (m := i + 1) with ⟨e, p1, p2⟩ | ⟨t, e, x, p1, p2⟩ | ⟨e, p1, p2⟩ | ⟨t, e, x, p1, p2⟩
    · grind
    · rw [e]; simp
    · rw [e]; simp
    · rw [e]; simp
  by_cases q : 0 < vl h (U i)
  · have f2 : 2 ≤ (ke h U i).length := by
      rcases ke_cases (h := h) (U := U) (m := i) with ⟨e, p1, p2⟩ | ⟨t, e, x, p1, p2⟩ | ⟨e, p1, p2⟩ | ⟨t, e, x, p1, p2⟩
      · grind
      · grind
      · have := p2 q; grind
      · rw [e]; simp
    by_cases z : i + 1 < n
    · have := sum2 (fun k => (ke h U k).length) (show i < i + 1 by omega) z
      omega
    · have e : i + 1 = 0 + n := by omega
      rw [e, per] at f1
      have := sum2 (fun k => (ke h U k).length) (show 0 < i by omega) hi
      omega
  · have q : vl h (U i) ≤ 0 := by grind
    have f2 : 1 ≤ (ke h U i).length := by
      rcases ke_cases (h := h) (U := U) (m := i) with ⟨e, p1, p2⟩ | ⟨t, e, x, p1, p2⟩ | ⟨e, p1, p2⟩ | ⟨t, e, x, p1, p2⟩
      · grind
      · grind
      · rw [e]; simp
      · rw [e]; simp
    have f3 : ∀ m, U (m + 1) = U i → 1 ≤ (ke h U m).length := fun m hm => by
      rcases ke_cases (h := h) (U := U) (m := m) with ⟨e, p1, p2⟩ | ⟨t, e, x, p1, p2⟩ | ⟨e, p1, p2⟩ | ⟨t, e, x, p1, p2⟩
      · rw [hm] at p1; grind
      · rw [e]; simp
      · rw [e]; simp
      · rw [e]; simp
    by_cases z0 : i = 0
    · subst z0
      have f4 := f3 (n - 1) (by rw [show n - 1 + 1 = 0 + n by omega, Y.per])
      have := sum3 (fun k => (ke h U k).length) (show 0 < 0 + 1 by omega) (show 0 + 1 < n - 1 by omega) (show n - 1 < n by omega)
      omega
    · have f4 := f3 (i - 1) (by rw [show i - 1 + 1 = i by omega])
      by_cases z : i + 1 < n
      · have := sum3 (fun k => (ke h U k).length) (show i - 1 < i by omega) (show i < i + 1 by omega) z
        omega
      · have e : i + 1 = 0 + n := by omega
        rw [e, per] at f1
        have := sum3 (fun k => (ke h U k).length) (show 0 < i - 1 by omega) (show i - 1 < i by omega) hi
        omega
theorem Cy.segk (Y : Cy n U) (hp : ∀ k, 0 ≤ tr (U k) (U (k + 1)) p) (hv : vl h p ≤ 0) (nn : ∀ k, 0 ≤ vl h (U k)) (z1 : vl h (U (k + 1)) = 0) (z2 : vl h (U (k + 2)) = 0) (oz : ∀ j, vl h (U j) = 0 → U j = U (k + 1) ∨ U j = U (k + 2)) :
    ∃ t, 0 ≤ t ∧ t ≤ 1 ∧ p = W t (U (k + 1)) (U (k + 2)) := by
  have n3 := Y.n3
  have vP : 0 < vl h (U k) := by
    have := nn k
    apply Classical.byContradiction
    intro c
    rcases oz k (by grind) with z | z
    · exact Y.ne k z
    · exact Y.ne2 k z
  have c := (Y.touch hp z1 (nn k) (nn (k + 2)) hv).1
  have e := zero_of c vP
  exact seg_of (Y.pos k (k + 1) (k + 2) (by omega) (by omega) (by omega)) (Y.pos (k + 1) (k + 2) (k + 3) (by omega) (by omega) (by omega)) e (hp k) (hp (k + 2)) (Y.ne (k + 1))
theorem Cy.perq (Y : Cy n U) (j : Nat) : ∀ q, U (j + q * n) = U j
  | 0 => by rw [Nat.zero_mul, Nat.add_zero]
  | q + 1 => by rw [Nat.succ_mul, ← Nat.add_assoc, Y.per, Y.perq j q]
theorem Cy.all (Y : Cy n U) {R : Q2 → Q2 → Prop} (hR : ∀ k, k < n → R (U k) (U (k + 1))) (k : Nat) : R (U k) (U (k + 1)) := by
  have n3 := Y.n3
  have e := Nat.mod_add_div k n
  have h1 := Y.perq (k % n) (k / n)
  have h2 := Y.perq (k % n + 1) (k / n)
  have := hR (k % n) (Nat.mod_lt _ (by omega))
  rw [← h1, ← h2] at this
  rw [show k % n + k / n * n = k by rw [Nat.mul_comm]; exact e, show k % n + 1 + k / n * n = k + 1 by rw [Nat.mul_comm]; omega] at this
  exact this
theorem pt_zero {g : HP} (h1 : vl g (U k) = 0) (h2 : vl g (U (k + 1)) = 0) : vl g (pt U k t) = 0 := by unfold pt; rw [vl_W, h1, h2]; grind
theorem cyc2 (u v : Q2) : cyc [u, v] 0 = v ∧ cyc [u, v] 1 = u ∧ cyc [u, v] 2 = v := ⟨by simp [cyc], by simp [cyc], by simp [cyc]⟩
theorem cyc3 (u v w : Q2) : cyc [u, v, w] 0 = w ∧ cyc [u, v, w] 1 = u ∧ cyc [u, v, w] 2 = v ∧ cyc [u, v, w] 3 = w := ⟨by simp [cyc], by simp [cyc], by simp [cyc], by simp [cyc]⟩
theorem cut_big (O : Ok S C) (h3 : 3 ≤ C.length) (sc : SC C) (hR : ∀ p, RS S p → ∀ k, k < C.length → 0 ≤ tr (cyc C k) (cyc C (k + 1)) p) : Ok (h :: S) (cut h C) := by
  have Y := sc.cy h3
  have hL : cutR h C = (keys h (cyc C) (List.range C.length)).map fun a => pt (cyc C) a.1 a.2 := (keys_pt _).symm
  have inn' : ∀ v ∈ cutR h C, RS (h :: S) v := fun v hv => O.cutR_in hv
  have edU := Y.all (R := fun u v => ∃ g ∈ S, vl g u = 0 ∧ vl g v = 0) O.edg
  have hpU : ∀ p, RS (h :: S) p → ∀ k, 0 ≤ tr (cyc C k) (cyc C (k + 1)) p := fun p hp => Y.all (R := fun u v => 0 ≤ tr u v p) (hR p (RS.cons.mp hp).2)
  have nx : ∀ k, k < (cutR h C).length → Nx h C.length (cyc C) (cyc (cutR h C) k) (cyc (cutR h C) (k + 1)) := fun k hk => nx_all Y.per hL hk
  have ed' : ∀ k, k < (cutR h C).length → ∃ g ∈ h :: S, vl g (cyc (cutR h C) k) = 0 ∧ vl g (cyc (cutR h C) (k + 1)) = 0 := fun k hk => by
    obtain ⟨a, b, G, _, e1, e2⟩ := (nx k hk).ex
    rw [e1, e2]
    rcases G.or with ⟨q1, q2, q3⟩ | ⟨q1, q2⟩ | ⟨q1, q2, q3, q4⟩
    · obtain ⟨g, hg, g1, g2⟩ := edU a.1
      exact ⟨g, List.mem_cons_of_mem _ hg, pt_zero g1 g2, by rw [← q1]; exact pt_zero g1 g2⟩
    · obtain ⟨g, hg, g1, g2⟩ := edU b.1
      exact ⟨g, List.mem_cons_of_mem _ hg, by rw [q2, pt_1, q1]; exact g1, pt_zero g1 g2⟩
    · exact ⟨h, List.mem_cons_self, q2, q3⟩
  have rg' : ∀ p, RS (h :: S) p → ∀ k, k < (cutR h C).length → 0 ≤ tr (cyc (cutR h C) k) (cyc (cutR h C) (k + 1)) p := fun p hp k hk => by
    obtain ⟨a, b, G, lt, e1, e2⟩ := (nx k hk).ex
    have hpp := hpU p hp
    have hv := (RS.cons.mp hp).1
    rw [e1, e2]
    rcases G.or with ⟨q1, q2, q3⟩ | ⟨q1, q2⟩ | ⟨q1, q2, q3, q4⟩
    · rw [q3, pt_1, ← q1]
      unfold pt
      rw [tr_W1, tr_aa]
      have := mul_nn (show 0 ≤ 1 - a.2 by grind) (hpp a.1)
      grind
    · rw [q2, pt_1, q1]
      unfold pt
      rw [tr_W2, tr_aa]
      have := mul_nn (Rat.le_of_lt G.okb.rg.1) (hpp b.1)
      grind
    · have li := line_id h (pt (cyc C) a.1 a.2) (pt (cyc C) b.1 b.2) (cyc C b.1) p q2 q3
      have d : 0 ≤ tr (pt (cyc C) a.1 a.2) (cyc C b.1) (pt (cyc C) b.1 b.2) := by
        unfold pt
        rw [tr_W1, tr_W3, tr_W3, tr_bb, tr_bb]
        have w1 := Y.nn (a := a.1) (b := b.1) (c := b.1 + 1) (by omega) (by omega)
        have w2 := Y.nn (a := a.1 + 1) (b := b.1) (c := b.1 + 1) (by omega) (by omega) (by omega)
        have oa := G.oka.rg
        have ob := G.okb.rg
        have w2' := mul_nn (Rat.le_of_lt oa.1) (mul_nn (Rat.le_of_lt ob.1) w2)
        by_cases z : b.1 + 1 ≤ a.1 + C.length
        · have w1' := mul_nn (show 0 ≤ 1 - a.2 by grind) (mul_nn (Rat.le_of_lt ob.1) (w1 z))
          grind
        · have e : b.1 = a.1 + C.length := by omega
          have z0 : tr (cyc C a.1) (cyc C b.1) (cyc C (b.1 + 1)) = 0 := by rw [e, Y.per, tr_aa]
          rw [z0]
          clear w2 w1 li hpp e1 e2 nx ed' edU hpU inn' hL hR
          generalize tr (cyc C (a.1 + 1)) (cyc C b.1) (cyc C (b.1 + 1)) = X at *
          grind
      rw [tr_sw] at li
      generalize tr (pt (cyc C) a.1 a.2) (cyc C b.1) (pt (cyc C) b.1 b.2) = x at *
      generalize tr (pt (cyc C) a.1 a.2) (pt (cyc C) b.1 b.2) p = y at *
      apply Classical.byContradiction
      intro c
      have w1 := mul_pp q4 (show 0 < -y by grind)
      have w2 := mul_nn (show 0 ≤ - vl h p by grind) d
      grind
  have lK : (cutR h C).length = (keys h (cyc C) (List.range C.length)).length := by rw [hL, List.length_map]
  by_cases big : 3 ≤ (cutR h C).length
  · have sc' : SC (cutR h C) := sc_cutR Y
    have Y' := sc'.cy big
    have de : cut h C = cutR h C := ded_all fun k _ => .inl (Y'.ne k).symm
    rw [de]
    exact ⟨inn', ed', .inr (.inr (.inr ⟨big, sc', rg'⟩))⟩
  · have nn : ∀ k, 0 ≤ vl h (cyc C k) := fun k => by
      obtain ⟨j, hj, e⟩ := Y.at k
      rw [e]
      apply Classical.byContradiction
      intro c
      exact big (by rw [lK]; exact three_of Y hj (by grind))
    generalize hK : keys h (cyc C) (List.range C.length) = K at *
    have kz : ∀ a ∈ K, a.2 = 1 ∧ vl h (cyc C (a.1 + 1)) = 0 := fun a ha => by
      rw [← hK] at ha
      rcases (keys_mem ha).2 with ⟨e, x⟩ | x
      · exact ⟨e, by have := nn (a.1 + 1); grind⟩
      · exfalso
        have := mul_nn (nn a.1) (nn (a.1 + 1))
        have := x.cr
        grind
    have zk : ∀ j, vl h (cyc C j) = 0 → ∃ a ∈ K, cyc C j = cyc C (a.1 + 1) := fun j hj => by
      obtain ⟨i, hi, e⟩ := Y.at j
      refine ⟨(i, 1), ?_, e⟩
      rw [← hK]
      refine List.mem_flatMap.mpr ⟨i, List.mem_range.mpr hi, ?_⟩
      unfold ke
      rw [e] at hj
      rw [if_pos (show vl h (cyc C (i + 1)) ≤ 0 by grind)]
      simp
    have pw : K.Pairwise kl := by rw [← hK]; exact keys_lt List.pairwise_lt_range
    have inR : ∀ x ∈ K, x.1 < C.length := fun x hx => by
      rw [← hK] at hx; exact List.mem_range.mp (keys_mem hx).1
    match K, hL, lK, kz, zk, pw, inR with
    | [], hL, lK, kz, zk, pw, inR =>
      have de : cut h C = cutR h C := ded_all fun k hk => by rw [hL] at hk; simp at hk
      rw [de]
      refine ⟨inn', ed', .inl ⟨hL, fun p hp => ?_⟩⟩
      obtain ⟨i, hi, hm⟩ := min_at (fun i => vl h (cyc C (i + 1))) C.length (by omega)
      have v0 : 0 < vl h (cyc C (i + 1)) := by
        have := nn (i + 1)
        apply Classical.byContradiction
        intro c
        obtain ⟨a, ha, _⟩ := zk (i + 1) (by grind)
        cases ha
      have := Y.lp (f := h) (m := vl h (cyc C (i + 1))) (fun j => by
        obtain ⟨q, hq, e⟩ := Y.at j
        rw [e]; exact hm q hq) (hpU p hp)
      have := (RS.cons.mp hp).1
      grind
    | [a], hL, lK, kz, zk, pw, inR =>
      have de : cut h C = cutR h C := ded_all fun k hk => .inr (by rw [hL]; rfl)
      rw [de]
      obtain ⟨a2, az⟩ := kz a List.mem_cons_self
      have eA : pt (cyc C) a.1 a.2 = cyc C (a.1 + 1) := by rw [a2, pt_1]
      refine ⟨inn', ed', .inr (.inl ⟨cyc C (a.1 + 1), by rw [hL]; simp [eA], fun p hp => ?_⟩)⟩
      have oz : ∀ j, vl h (cyc C j) = 0 → cyc C j = cyc C (a.1 + 1) := fun j hj => by
        obtain ⟨b, hb, e⟩ := zk j hj
        rw [List.mem_singleton] at hb
        rw [hb] at e; exact e
      have vP : 0 < vl h (cyc C a.1) := by
        have := nn a.1
        apply Classical.byContradiction
        intro c
        exact Y.ne a.1 (oz a.1 (by grind))
      have vN : 0 < vl h (cyc C (a.1 + 2)) := by
        have := nn (a.1 + 2)
        apply Classical.byContradiction
        intro c
        exact Y.ne (a.1 + 1) (oz (a.1 + 2) (by grind)).symm
      obtain ⟨c1, c2⟩ := Y.touch (hpU p hp) az (nn a.1) (nn (a.1 + 2)) (RS.cons.mp hp).1
      exact corner_eq (Y.pos a.1 (a.1 + 1) (a.1 + 2) (by omega) (by omega) (by omega)) (zero_of c1 vP) (zero_of c2 vN)
    | [a, b], hL, lK, kz, zk, pw, inR =>
      obtain ⟨a2, az⟩ := kz a List.mem_cons_self
      obtain ⟨b2, bz⟩ := kz b (by simp)
      have ab : a.1 < b.1 := by
        rcases (List.pairwise_cons.mp pw).1 b (by simp) with q | ⟨_, q, _⟩
        · exact q
        · rw [a2] at q; grind
      have bn := inR b (by simp)
      have eA : pt (cyc C) a.1 a.2 = cyc C (a.1 + 1) := by rw [a2, pt_1]
      have eB : pt (cyc C) b.1 b.2 = cyc C (b.1 + 1) := by rw [b2, pt_1]
      have hL : cutR h C = [cyc C (a.1 + 1), cyc C (b.1 + 1)] := by rw [hL]; simp [eA, eB]
      have neAB : cyc C (a.1 + 1) ≠ cyc C (b.1 + 1) := Y.ned (by omega) (by omega)
      have de : cut h C = cutR h C := ded_all fun k hk => by
        left
        rw [hL] at hk ⊢
        have hk : k < 2 := hk
        have : k = 0 ∨ k = 1 := by omega
        rcases this with rfl | rfl
        · rw [show 0 + 1 = 1 from rfl, (cyc2 _ _).1, (cyc2 _ _).2.1]; exact neAB
        · rw [show 1 + 1 = 2 from rfl, (cyc2 _ _).2.2, (cyc2 _ _).2.1]; exact neAB.symm
      rw [de]
      have oz : ∀ j, vl h (cyc C j) = 0 → cyc C j = cyc C (a.1 + 1) ∨ cyc C j = cyc C (b.1 + 1) := fun j hj => by
        obtain ⟨c, hc, e⟩ := zk j hj
        rcases List.mem_cons.mp hc with rfl | hc
        · exact .inl e
        · rw [List.mem_singleton] at hc; rw [hc] at e; exact .inr e
      refine ⟨inn', ed', .inr (.inr (.inl ⟨_, _, hL, neAB, fun p hp => ?_⟩))⟩
      have hB : RS (h :: S) (cyc C (b.1 + 1)) := inn' _ (by rw [hL]; simp)
      obtain ⟨c1, c2⟩ := Y.touch (hpU _ hB) az (nn a.1) (nn (a.1 + 2)) (RS.cons.mp hB).1
      by_cases vN : vl h (cyc C (a.1 + 2)) = 0
      · have eN : cyc C (a.1 + 2) = cyc C (b.1 + 1) := by
          rcases oz _ vN with z | z
          · exact absurd z.symm (Y.ne (a.1 + 1))
          · exact z
        obtain ⟨t, t0, t1, e⟩ := Y.segk (k := a.1) (hpU p hp) (RS.cons.mp hp).1 nn az vN fun j hj => by rw [eN]; exact oz j hj
        exact ⟨t, t0, t1, by rw [e, eN]⟩
      · have vP : vl h (cyc C a.1) = 0 := by
          apply Classical.byContradiction
          intro c
          have d := Y.pos a.1 (a.1 + 1) (a.1 + 2) (by omega) (by omega) (by omega)
          have g1 := nn a.1
          have g2 := nn (a.1 + 2)
          exact neAB (corner_eq d (zero_of c1 (by grind)) (zero_of c2 (by grind))).symm
        have eP : cyc C a.1 = cyc C (b.1 + 1) := by
          rcases oz _ vP with z | z
          · exact absurd z (Y.ne a.1)
          · exact z
        have s1 : cyc C (a.1 + C.length - 1 + 1) = cyc C (b.1 + 1) := by rw [show a.1 + C.length - 1 + 1 = a.1 + C.length by omega, Y.per]; exact eP
        have s2 : cyc C (a.1 + C.length - 1 + 2) = cyc C (a.1 + 1) := by rw [show a.1 + C.length - 1 + 2 = a.1 + 1 + C.length by omega, Y.per]
        obtain ⟨t, t0, t1, e⟩ := Y.segk (k := a.1 + C.length - 1) (hpU p hp) (RS.cons.mp hp).1 nn (by rw [s1]; exact bz) (by rw [s2]; exact az) fun j hj => by rw [s1, s2]; exact (oz j hj).symm
        rw [s1, s2] at e
        exact ⟨1 - t, by grind, by grind, by rw [e]; unfold W; exact Prod.ext (by dsimp only; grind) (by dsimp only; grind)⟩
    | a :: b :: c :: r, hL, lK, kz, zk, pw, inR => exact absurd (by rw [lK]; simp) big
end
end Pg
end
section
set_option maxRecDepth 100000
set_option maxHeartbeats 1000000
namespace Pg
section
variable {h : HP} {S : List HP} {C : List Q2} {p u v X : Q2} {t s : Rat}
theorem W_swap (t : Rat) (u v : Q2) : W (1 - t) v u = W t u v := by unfold W; exact Prod.ext (by dsimp only; grind) (by dsimp only; grind)
theorem cross_sw {a b : Rat} (h : a * b < 0) : b / (b - a) = 1 - a / (a - b) := by
  have k1 : a - b ≠ 0 := fun z => by rcases neg_mul h with q | q <;> grind
  have k2 : b - a ≠ 0 := fun z => by rcases neg_mul h with q | q <;> grind
  have e1 : a / (a - b) * (a - b) = a := Rat.div_mul_cancel k1
  have e2 : b / (b - a) * (b - a) = b := Rat.div_mul_cancel k2
  generalize a / (a - b) = x at *
  generalize b / (b - a) = y at *
  have : (y - (1 - x)) * (b - a) = 0 := by grind
  rcases Rat.mul_eq_zero.mp this with z | z
  · grind
  · exact absurd z k2
theorem X_sw (h : HP) {u v : Q2} (q : vl h u * vl h v < 0) : W (vl h v / (vl h v - vl h u)) v u = W (vl h u / (vl h u - vl h v)) u v := by rw [cross_sw q, W_swap]
theorem cutR2 (h : HP) (u v : Q2) : cutR h [u, v] = em h v u ++ em h u v := by
  unfold cutR
  show (List.range 2).flatMap _ = _
  rw [show List.range 2 = [0, 1] from rfl]
  simp only [List.flatMap_cons, List.flatMap_nil, List.append_nil]
  rw [(cyc2 u v).1, show (0 + 1) = 1 from rfl, (cyc2 u v).2.1, show (1 + 1) = 2 from rfl, (cyc2 u v).2.2]
theorem ded2 {u v : Q2} (ne : u ≠ v) : ded [u, v] = [u, v] := ded_all fun k hk => by
  left
  have hk : k < 2 := hk
  have : k = 0 ∨ k = 1 := by omega
  rcases this with rfl | rfl
  · rw [show 0 + 1 = 1 from rfl, (cyc2 _ _).1, (cyc2 _ _).2.1]; exact ne
  · rw [show 1 + 1 = 2 from rfl, (cyc2 _ _).2.2, (cyc2 _ _).2.1]; exact ne.symm
theorem ded1 (u : Q2) : ded [u] = [u] := ded_all fun k hk => .inr rfl
theorem ded3a {X u : Q2} (ne : u ≠ X) : ded [X, u, X] = [u, X] := by
  unfold ded
  rw [show List.range [X, u, X].length = [0, 1, 2] from rfl]
  have c := cyc3 X u X
  rw [List.filter_cons_of_neg, List.filter_cons_of_pos, List.filter_cons_of_pos, List.filter_nil]
  · simp only [List.map_cons, List.map_nil]
    rw [show 1 + 1 = 2 from rfl, show 2 + 1 = 3 from rfl, c.2.2.1, c.2.2.2]
  · rw [decide_eq_true_eq, show 2 + 1 = 3 from rfl, c.2.2.1, c.2.2.2]; exact .inl ne.symm
  · rw [decide_eq_true_eq, show 1 + 1 = 2 from rfl, c.2.2.1, c.2.1]; exact .inl ne
  · rw [decide_eq_true_eq, show 0 + 1 = 1 from rfl, c.1, c.2.1]
    rintro (z | z)
    · exact z rfl
    · simp at z
theorem ded3b {X v : Q2} (ne : v ≠ X) : ded [X, X, v] = [X, v] := by
  unfold ded
  rw [show List.range [X, X, v].length = [0, 1, 2] from rfl]
  have c := cyc3 X X v
  rw [List.filter_cons_of_pos, List.filter_cons_of_neg, List.filter_cons_of_pos, List.filter_nil]
  · simp only [List.map_cons, List.map_nil]
    rw [show 0 + 1 = 1 from rfl, show 2 + 1 = 3 from rfl, c.2.1, c.2.2.2]
  · rw [decide_eq_true_eq, show 2 + 1 = 3 from rfl, c.2.2.1, c.2.2.2]; exact .inl ne
  · rw [decide_eq_true_eq, show 1 + 1 = 2 from rfl, c.2.2.1, c.2.1]
    rintro (z | z)
    · exact z rfl
    · simp at z
  · rw [decide_eq_true_eq, show 0 + 1 = 1 from rfl, c.1, c.2.1]; exact .inl ne.symm
theorem one_ok (O : Ok S [u]) : ∃ g ∈ S, vl g u = 0 := by
  obtain ⟨g, hg, h1, _⟩ := O.edg 0 (by simp)
  exact ⟨g, hg, by simpa [cyc] using h1⟩
theorem mk_one {S : List HP} {u : Q2} (h1 : RS S u) (h2 : ∃ g ∈ S, vl g u = 0) (h3 : ∀ p, RS S p → p = u) : Ok S [u] := by
  refine ⟨fun v hv => by rw [List.mem_singleton.mp hv]; exact h1, fun k hk => ?_, .inr (.inl ⟨u, rfl, h3⟩)⟩
  obtain ⟨g, hg, z⟩ := h2
  exact ⟨g, hg, by simpa [cyc, Nat.mod_one] using z, by simpa [cyc, Nat.mod_one] using z⟩
theorem mk_two {S : List HP} {u v : Q2} (h1 : RS S u) (h2 : RS S v) (ne : u ≠ v) (h3 : ∃ g ∈ S, vl g u = 0 ∧ vl g v = 0) (h4 : ∀ p, RS S p → ∃ t, 0 ≤ t ∧ t ≤ 1 ∧ p = W t u v) : Ok S [u, v] := by
  refine ⟨fun x hx => ?_, fun k hk => ?_, .inr (.inr (.inl ⟨u, v, rfl, ne, h4⟩))⟩
  · rcases List.mem_cons.mp hx with rfl | hx
    · exact h1
    · rw [List.mem_singleton.mp hx]; exact h2
  · obtain ⟨g, hg, z1, z2⟩ := h3
    have hk : k < 2 := hk
    have : k = 0 ∨ k = 1 := by omega
    rcases this with rfl | rfl
    · exact ⟨g, hg, by rw [(cyc2 u v).1]; exact z2, by rw [(cyc2 u v).2.1]; exact z1⟩
    · exact ⟨g, hg, by rw [(cyc2 u v).2.1]; exact z1, by rw [(cyc2 u v).2.2]; exact z2⟩
theorem two_edg (O : Ok S [u, v]) : ∃ g ∈ S, vl g u = 0 ∧ vl g v = 0 := by
  obtain ⟨g, hg, h1, h2⟩ := O.edg 0 (by simp)
  rw [(cyc2 u v).1] at h1
  rw [(cyc2 u v).2.1] at h2
  exact ⟨g, hg, h2, h1⟩
theorem W_sub {a b c : Rat} (h1 : a * b = c) (u v : Q2) : W c u v = W a u (W b u v) := by subst h1; unfold W; exact Prod.ext (by dsimp only; grind) (by dsimp only; grind)
theorem W_sub2 {a b c : Rat} (h1 : 1 - c = (1 - a) * (1 - b)) (u v : Q2) : W c u v = W a (W b u v) v := by
  have : c = 1 - (1 - a) * (1 - b) := by grind
  subst this; unfold W; exact Prod.ext (by dsimp only; grind) (by dsimp only; grind)
theorem cut_two (O : Ok S [u, v]) (ne : u ≠ v) (hR : ∀ p, RS S p → ∃ t, 0 ≤ t ∧ t ≤ 1 ∧ p = W t u v) : Ok (h :: S) (cut h [u, v]) := by
  obtain ⟨g, hg, gu, gv⟩ := two_edg O
  have ru : RS S u := O.inn u (by simp)
  have rv : RS S v := O.inn v (by simp)
  have hg' := List.mem_cons_of_mem h hg
  unfold cut
  rw [cutR2]
  have wv : ∀ t, vl h (W t u v) = (1 - t) * vl h u + t * vl h v := fun t => vl_W h t u v
  have gX : ∀ t, vl g (W t u v) = 0 := fun t => by rw [vl_W, gu, gv]; grind
  by_cases a : vl h u ≤ 0
  · by_cases b : vl h v ≤ 0
    · have e1 : em h v u = [u] := by unfold em; rw [if_neg (not_cross b a), if_pos a]; rfl
      have e2 : em h u v = [v] := by unfold em; rw [if_neg (not_cross a b), if_pos b]; rfl
      rw [e1, e2]
      show Ok (h :: S) (ded [u, v])
      rw [ded2 ne]
      exact mk_two (RS.cons.mpr ⟨a, ru⟩) (RS.cons.mpr ⟨b, rv⟩) ne ⟨g, hg', gu, gv⟩ fun p hp => hR p (RS.cons.mp hp).2
    · by_cases a0 : vl h u = 0
      · have e1 : em h v u = [u] := by unfold em; rw [if_neg (by rw [a0]; grind), if_pos a]; rfl
        have e2 : em h u v = [] := by unfold em; rw [if_neg (by rw [a0]; grind), if_neg b]; rfl
        rw [e1, e2]
        show Ok (h :: S) (ded [u])
        rw [ded1]
        refine mk_one (RS.cons.mpr ⟨a, ru⟩) ⟨g, hg', gu⟩ fun p hp => ?_
        obtain ⟨t, t0, t1, rfl⟩ := hR p (RS.cons.mp hp).2
        have := (RS.cons.mp hp).1
        rw [wv, a0] at this
        have tz : t = 0 := by
          apply Classical.byContradiction
          intro c
          have := mul_pp (show 0 < t by grind) (show 0 < vl h v by grind)
          grind
        rw [tz, W_0]
      · have q : vl h u * vl h v < 0 := by
          have := mul_pp (show 0 < - vl h u by grind) (show 0 < vl h v by grind)
          grind
        have q' : vl h v * vl h u < 0 := by rw [Rat.mul_comm]; exact q
        have e1 : em h v u = [W (vl h u / (vl h u - vl h v)) u v, u] := by unfold em; rw [if_pos q', if_pos a, X_sw h q]; rfl
        have e2 : em h u v = [W (vl h u / (vl h u - vl h v)) u v] := by unfold em; rw [if_pos q, if_neg b]; rfl
        obtain ⟨q1, q2, q3⟩ := cross_t q
        rw [e1, e2]
        generalize vl h u / (vl h u - vl h v) = s at *
        have neX : u ≠ W s u v := fun z => by
          have := wv s
          rw [← z] at this
          grind
        show Ok (h :: S) (ded [W s u v, u, W s u v])
        rw [ded3a neX]
        have hX : vl h (W s u v) = 0 := by rw [wv]; exact q3
        refine mk_two (RS.cons.mpr ⟨a, ru⟩) (RS.cons.mpr ⟨by rw [hX]; exact Rat.le_refl, fun g hg => W_vl (Rat.le_of_lt q1) (Rat.le_of_lt q2) (ru g hg) (rv g hg)⟩) neX ⟨g, hg', gu, gX s⟩ fun p hp => ?_
        obtain ⟨t, t0, t1, rfl⟩ := hR p (RS.cons.mp hp).2
        have hp := (RS.cons.mp hp).1
        rw [wv] at hp
        have ts : t ≤ s := by
          apply Classical.byContradiction
          intro c
          have := mul_pp (show 0 < t - s by grind) (show 0 < vl h v - vl h u by grind)
          grind
        have e3 : t / s * s = t := Rat.div_mul_cancel (by grind)
        generalize t / s = r at e3
        refine ⟨r, ?_, ?_, W_sub e3 u v⟩
        · apply Classical.byContradiction; intro c
          have := mul_pp (show 0 < -r by grind) q1; grind
        · apply Classical.byContradiction; intro c
          have := mul_pp (show 0 < r - 1 by grind) q1; grind
  · by_cases b : vl h v ≤ 0
    · by_cases b0 : vl h v = 0
      · have e1 : em h v u = [] := by unfold em; rw [if_neg (by rw [b0]; grind), if_neg a]; rfl
        have e2 : em h u v = [v] := by unfold em; rw [if_neg (by rw [b0]; grind), if_pos b]; rfl
        rw [e1, e2]
        show Ok (h :: S) (ded [v])
        rw [ded1]
        refine mk_one (RS.cons.mpr ⟨b, rv⟩) ⟨g, hg', gv⟩ fun p hp => ?_
        obtain ⟨t, t0, t1, rfl⟩ := hR p (RS.cons.mp hp).2
        have := (RS.cons.mp hp).1
        rw [wv, b0] at this
        have tz : t = 1 := by
          apply Classical.byContradiction
          intro c
          have := mul_pp (show 0 < 1 - t by grind) (show 0 < vl h u by grind)
          grind
        rw [tz, W_1]
      · have q : vl h u * vl h v < 0 := by
          have := mul_pp (show 0 < vl h u by grind) (show 0 < - vl h v by grind)
          grind
        have q' : vl h v * vl h u < 0 := by rw [Rat.mul_comm]; exact q
        have e1 : em h v u = [W (vl h u / (vl h u - vl h v)) u v] := by unfold em; rw [if_pos q', if_neg a, X_sw h q]; rfl
        have e2 : em h u v = [W (vl h u / (vl h u - vl h v)) u v, v] := by unfold em; rw [if_pos q, if_pos b]; rfl
        obtain ⟨q1, q2, q3⟩ := cross_t q
        rw [e1, e2]
        generalize vl h u / (vl h u - vl h v) = s at *
        have neX : v ≠ W s u v := fun z => by
          have := wv s
          rw [← z] at this
          grind
        show Ok (h :: S) (ded [W s u v, W s u v, v])
        rw [ded3b neX]
        have hX : vl h (W s u v) = 0 := by rw [wv]; exact q3
        refine mk_two (RS.cons.mpr ⟨by rw [hX]; exact Rat.le_refl, fun g hg => W_vl (Rat.le_of_lt q1) (Rat.le_of_lt q2) (ru g hg) (rv g hg)⟩) (RS.cons.mpr ⟨b, rv⟩) neX.symm ⟨g, hg', gX s, gv⟩ fun p hp => ?_
        obtain ⟨t, t0, t1, rfl⟩ := hR p (RS.cons.mp hp).2
        have hp := (RS.cons.mp hp).1
        rw [wv] at hp
        have ts : s ≤ t := by
          apply Classical.byContradiction
          intro c
          have := mul_pp (show 0 < s - t by grind) (show 0 < vl h u - vl h v by grind)
          grind
        have e3 : (1 - t) / (1 - s) * (1 - s) = 1 - t := Rat.div_mul_cancel (by grind)
        generalize (1 - t) / (1 - s) = r at e3
        have p1 : 0 < 1 - s := by grind
        refine ⟨1 - r, ?_, ?_, W_sub2 (by grind) u v⟩
        · apply Classical.byContradiction; intro c
          have := mul_pp (show 0 < r - 1 by grind) p1; grind
        · apply Classical.byContradiction; intro c
          have := mul_pp (show 0 < -r by grind) p1; grind
    · have e1 : em h v u = [] := by unfold em; rw [if_neg (by have := mul_nn (show 0 ≤ vl h v by grind) (show 0 ≤ vl h u by grind); grind), if_neg a]; rfl
      have e2 : em h u v = [] := by unfold em; rw [if_neg (by have := mul_nn (show 0 ≤ vl h u by grind) (show 0 ≤ vl h v by grind); grind), if_neg b]; rfl
      rw [e1, e2]
      show Ok (h :: S) (ded [])
      refine ⟨fun v hv => by simp [ded] at hv, fun k hk => by simp [ded] at hk, .inl ⟨rfl, fun p hp => ?_⟩⟩
      obtain ⟨t, t0, t1, rfl⟩ := hR p (RS.cons.mp hp).2
      have hp := (RS.cons.mp hp).1
      rw [wv] at hp
      have w1 := mul_nn (show 0 ≤ 1 - t by grind) (show 0 ≤ vl h u by grind)
      have w2 := mul_nn t0 (show 0 ≤ vl h v by grind)
      by_cases z : t = 0
      · subst z; grind
      · have := mul_pp (show 0 < t by grind) (show 0 < vl h v by grind)
        grind
theorem cut_one (O : Ok S [u]) (hR : ∀ p, RS S p → p = u) : Ok (h :: S) (cut h [u]) := by
  obtain ⟨g, hg, gu⟩ := one_ok O
  have e0 : cutR h [u] = em h u u := by
    unfold cutR
    show (List.range 1).flatMap _ = _
    rw [show List.range 1 = [0] from rfl]
    simp [cyc, Nat.mod_one]
  have nc : ¬ vl h u * vl h u < 0 := fun z => by rcases neg_mul z with q | q <;> grind
  unfold cut
  rw [e0]
  by_cases a : vl h u ≤ 0
  · have e1 : em h u u = [u] := by unfold em; rw [if_neg nc, if_pos a]; rfl
    rw [e1, ded1]
    exact mk_one (RS.cons.mpr ⟨a, O.inn u (by simp)⟩) ⟨g, List.mem_cons_of_mem _ hg, gu⟩ fun p hp => hR p (RS.cons.mp hp).2
  · have e1 : em h u u = [] := by unfold em; rw [if_neg nc, if_neg a]; rfl
    rw [e1]
    refine ⟨fun v hv => by simp [ded] at hv, fun k hk => by simp [ded] at hk, .inl ⟨rfl, fun p hp => a ?_⟩⟩
    rw [← hR p (RS.cons.mp hp).2]
    exact (RS.cons.mp hp).1
theorem Ok.cut (O : Ok S C) : Ok (h :: S) (cut h C) := by
  rcases O.shp with ⟨rfl, hR⟩ | ⟨u, rfl, hR⟩ | ⟨u, v, rfl, ne, hR⟩ | ⟨h3, sc, hR⟩
  · exact ⟨fun v hv => by simp [Pg.cut, cutR, ded] at hv, fun k hk => by simp [Pg.cut, cutR, ded] at hk, .inl ⟨rfl, fun p hp => hR p (RS.cons.mp hp).2⟩⟩
  · exact cut_one O hR
  · exact cut_two O ne hR
  · exact cut_big O h3 sc hR
end
end Pg
end
section
set_option maxRecDepth 100000
set_option maxHeartbeats 1000000
namespace Pg
section
variable {h : HP} {n : Nat} {U : Nat → Q2} {S S' : List HP} {C C' : List Q2} {p u v V : Q2} {t : Rat}
theorem cone_idA (a b : Rat) (P V N p : Q2) : tr P V N * ((a * p.1 + b * p.2) - (a * V.1 + b * V.2)) = tr V N p * ((a * P.1 + b * P.2) - (a * V.1 + b * V.2)) + tr P V p * ((a * N.1 + b * N.2) - (a * V.1 + b * V.2)) := by
  unfold tr; grind
theorem Cy.lpA (Y : Cy n U) (a b : Rat) {m : Rat} (hf : ∀ i, m ≤ a * (U i).1 + b * (U i).2) (hp : ∀ k, 0 ≤ tr (U k) (U (k + 1)) p) : m ≤ a * p.1 + b * p.2 := by
  have n3 := Y.n3
  obtain ⟨i, hi, hm⟩ := min_at (fun i => a * (U (i + 1)).1 + b * (U (i + 1)).2) n (by omega)
  have hm : ∀ j, a * (U (i + 1)).1 + b * (U (i + 1)).2 ≤ a * (U j).1 + b * (U j).2 := fun j => by
    obtain ⟨q, hq, e⟩ := Y.at j
    rw [e]; exact hm q hq
  have c := cone_idA a b (U i) (U (i + 1)) (U (i + 2)) p
  have d := Y.pos i (i + 1) (i + 2) (by omega) (by omega) (by omega)
  have m1 := hm i
  have m2 := hm (i + 2)
  have m3 := hf (i + 1)
  have h1 := hp (i + 1)
  have h2 := hp i
  generalize a * (U (i + 1)).1 + b * (U (i + 1)).2 = x at *
  generalize a * (U i).1 + b * (U i).2 = y at *
  generalize a * (U (i + 2)).1 + b * (U (i + 2)).2 = z at *
  generalize a * p.1 + b * p.2 = w at *
  have w1 := mul_nn h1 (show 0 ≤ y - x by grind)
  have w2 := mul_nn h2 (show 0 ≤ z - x by grind)
  apply Classical.byContradiction
  intro q
  have := mul_pp d (show 0 < x - w by grind)
  grind
theorem seg_tr (a b c : Rat) (u v : Q2) : tr (W a u v) (W b u v) (W c u v) = 0 := by unfold tr W; grind
theorem big_not_seg (sc : SC C) (h3 : 3 ≤ C.length) (hs : ∀ w ∈ C, ∃ t, w = W t u v) : False := by
  have Y := sc.cy h3
  have ne : C ≠ [] := fun z => by rw [z] at h3; simp at h3
  obtain ⟨a, ea⟩ := hs _ (cyc_mem (i := 0) ne)
  obtain ⟨b, eb⟩ := hs _ (cyc_mem (i := 1) ne)
  obtain ⟨c, ec⟩ := hs _ (cyc_mem (i := 2) ne)
  have := Y.pos 0 1 2 (by omega) (by omega) (by omega)
  rw [ea, eb, ec, seg_tr] at this
  exact absurd this (by grind)
theorem W_ne {a : Rat} (ne : u ≠ v) (e : u = W a u v) : a = 0 := by
  unfold W at e
  have e1 := congrArg Prod.fst e
  have e2 := congrArg Prod.snd e
  dsimp only at e1 e2
  have f1 : a * (v.1 - u.1) = 0 := by grind
  have f2 : a * (v.2 - u.2) = 0 := by grind
  rcases Rat.mul_eq_zero.mp f1 with z | z
  · exact z
  · rcases Rat.mul_eq_zero.mp f2 with y | y
    · exact y
    · exact absurd (Prod.ext (by grind) (by grind)) ne
theorem W_W (a b c : Rat) (u v : Q2) : W a (W b u v) (W c u v) = W ((1 - a) * b + a * c) u v := by unfold W; exact Prod.ext (by dsimp only; grind) (by dsimp only; grind)
theorem seg_end {u v u' v' : Q2} (ne : u ≠ v) (h1 : ∃ t, 0 ≤ t ∧ t ≤ 1 ∧ u = W t u' v') (h2 : ∃ t, 0 ≤ t ∧ t ≤ 1 ∧ u' = W t u v) (h3 : ∃ t, 0 ≤ t ∧ t ≤ 1 ∧ v' = W t u v) : u = u' ∨ u = v' := by
  obtain ⟨t, t0, t1, e1⟩ := h1
  obtain ⟨a, a0, a1, e2⟩ := h2
  obtain ⟨b, b0, b1, e3⟩ := h3
  have e4 : u = W ((1 - t) * a + t * b) u v := by rw [← W_W, ← e2, ← e3]; exact e1
  have e5 := W_ne ne e4
  have w1 := mul_nn (show 0 ≤ 1 - t by grind) a0
  have w2 := mul_nn t0 b0
  have f1 : (1 - t) * a = 0 := by grind
  rcases Rat.mul_eq_zero.mp f1 with z | z
  · right
    rw [show t = 1 by grind, W_1] at e1
    exact e1
  · left
    rw [z, W_0] at e2
    exact e2.symm
theorem Ok.mem (O : Ok S C) (O' : Ok S' C') (hS : ∀ p, RS S p ↔ RS S' p) (hV : V ∈ C) : V ∈ C' := by
  have rV := O.inn V hV
  have rV' := (hS V).mp rV
  rcases O'.shp with ⟨rfl, hR'⟩ | ⟨u', rfl, hR'⟩ | ⟨u', v', rfl, ne', hR'⟩ | ⟨h3', sc', hR'⟩
  · exact absurd rV' (hR' V)
  · rw [hR' V rV']; simp
  · rcases O.shp with ⟨rfl, hR⟩ | ⟨u, rfl, hR⟩ | ⟨u, v, rfl, ne, hR⟩ | ⟨h3, sc, hR⟩
    · cases hV
    · exfalso
      have a := hR u' ((hS _).mpr (O'.inn u' (by simp)))
      have b := hR v' ((hS _).mpr (O'.inn v' (by simp)))
      exact ne' (by rw [a, b])
    · have s1 := hR u' ((hS _).mpr (O'.inn u' (by simp)))
      have s2 := hR v' ((hS _).mpr (O'.inn v' (by simp)))
      have r1 := hR' u ((hS _).mp (O.inn u (by simp)))
      have r2 := hR' v ((hS _).mp (O.inn v (by simp)))
      have sw : ∀ {x : Q2}, (∃ t, 0 ≤ t ∧ t ≤ 1 ∧ x = W t u v) → ∃ t, 0 ≤ t ∧ t ≤ 1 ∧ x = W t v u := fun ⟨t, t0, t1, e⟩ => ⟨1 - t, by grind, by grind, by rw [W_swap]; exact e⟩
      rcases List.mem_cons.mp hV with rfl | hV
      · rcases seg_end ne r1 s1 s2 with z | z
        · rw [z]; simp
        · rw [z]; simp
      · rw [List.mem_singleton.mp hV]
        rcases seg_end ne.symm r2 (sw s1) (sw s2) with z | z
        · rw [z]; simp
        · rw [z]; simp
    · exfalso
      exact big_not_seg sc h3 fun w hw => by
        obtain ⟨t, _, _, e⟩ := hR' w ((hS w).mp (O.inn w hw))
        exact ⟨t, e⟩
  · have Y' := sc'.cy h3'
    have ne0 : C' ≠ [] := fun z => by rw [z] at h3'; simp at h3'
    have rU : ∀ k, RS S (cyc C' k) := fun k => (hS _).mpr (O'.cyc_in ne0 k)
    rcases O.shp with ⟨rfl, hR⟩ | ⟨u, rfl, hR⟩ | ⟨u, v, rfl, ne, hR⟩ | ⟨h3, sc, hR⟩
    · cases hV
    · exfalso
      exact Y'.ne 0 (by rw [hR _ (rU 0), hR _ (rU 1)])
    · exfalso
      exact big_not_seg sc' h3' fun w hw => by
        obtain ⟨t, _, _, e⟩ := hR w ((hS w).mpr (O'.inn w hw))
        exact ⟨t, e⟩
    · have Y := sc.cy h3
      have hpU : ∀ p, RS S p → ∀ k, 0 ≤ tr (cyc C k) (cyc C (k + 1)) p := fun p hp => Y.all (R := fun u v => 0 ≤ tr u v p) (hR p hp)
      have hpU' : ∀ p, RS S' p → ∀ k, 0 ≤ tr (cyc C' k) (cyc C' (k + 1)) p := fun p hp => Y'.all (R := fun u v => 0 ≤ tr u v p) (hR' p hp)
      obtain ⟨k, hk, rfl⟩ := mem_cyc hV
      apply Classical.byContradiction
      intro nm
      have d := Y.pos k (k + 1) (k + 2) (by omega) (by omega) (by omega)
      have h1 : ∀ p, RS S p → 0 ≤ tr (cyc C k) (cyc C (k + 1)) p ∧ 0 ≤ tr (cyc C (k + 1)) (cyc C (k + 2)) p := fun p hp => ⟨hpU p hp k, hpU p hp (k + 1)⟩
      clear hpU hR
      generalize cyc C k = P at *
      generalize cyc C (k + 1) = V at *
      generalize cyc C (k + 2) = N at *
      have pos : ∀ i, 0 < tr P V (cyc C' i) + tr V N (cyc C' i) := fun i => by
        obtain ⟨a, b⟩ := h1 _ (rU i)
        apply Classical.byContradiction
        intro c
        have := corner_eq (p := cyc C' i) d (by grind) (by grind)
        exact nm (by rw [← this]; exact cyc_mem ne0)
      obtain ⟨i, hi, hm⟩ := min_at (fun i => tr P V (cyc C' (i + 1)) + tr V N (cyc C' (i + 1))) C'.length (by omega)
      have al : ∀ q : Q2, tr P V q + tr V N q = ((P.2 - V.2) + (V.2 - N.2)) * q.1 + ((V.1 - P.1) + (N.1 - V.1)) * q.2 + (P.1 * V.2 - P.2 * V.1 + (V.1 * N.2 - V.2 * N.1)) := fun q => by unfold tr; grind
      have p0 := pos (i + 1)
      have lp := Y'.lpA (p := V) ((P.2 - V.2) + (V.2 - N.2)) ((V.1 - P.1) + (N.1 - V.1)) (m := tr P V (cyc C' (i + 1)) + tr V N (cyc C' (i + 1)) - (P.1 * V.2 - P.2 * V.1 + (V.1 * N.2 - V.2 * N.1))) (fun j => by
        obtain ⟨q, hq, e⟩ := Y'.at j
        have := hm q hq
        rw [e]
        have e2 := al (cyc C' (q + 1))
        grind) (hpU' V rV')
      have e3 := al V
      rw [tr_bb, show tr V N V = 0 from tr_ab V N] at e3
      grind
theorem sc_nodup : ∀ {L : List Q2}, SC L → 3 ≤ L.length → L.Nodup := fun {L} sc h3 => by
  have Y := sc.cy h3
  rw [List.nodup_iff_pairwise_ne, List.pairwise_iff_getElem]
  intro i j hi hj hij
  have := Y.ned (i := i + 1) (j := j + 1) (by omega) (by omega)
  rw [cyc_s hi, cyc_s hj, List.getD_eq_getElem?_getD, List.getD_eq_getElem?_getD, List.getElem?_eq_getElem hi, List.getElem?_eq_getElem hj] at this
  exact this
theorem Ok.nd (O : Ok S C) : C.Nodup := by
  rcases O.shp with ⟨rfl, _⟩ | ⟨u, rfl, _⟩ | ⟨u, v, rfl, ne, _⟩ | ⟨h3, sc, _⟩
  · simp
  · simp
  · simp [ne]
  · exact sc_nodup sc h3
theorem Ok.perm (O : Ok S C) (O' : Ok S' C') (hS : ∀ p, RS S p ↔ RS S' p) : C.Perm C' :=
  (List.perm_ext_iff_of_nodup O.nd O'.nd).mpr fun V => ⟨O.mem O' hS, O'.mem O fun p => (hS p).symm⟩
def cr (u v : Q2) : Rat := u.1 * v.2 - u.2 * v.1
def ar (C : List Q2) : Rat := ((List.range C.length).map fun k => cr (cyc C k) (cyc C (k + 1))).sum
theorem sum_perm {L M : List Rat} (h : L.Perm M) : L.sum = M.sum := by
  induction h with
  | nil => rfl
  | cons x _ ih => rw [List.sum_cons, List.sum_cons, ih]
  | swap x y l => rw [List.sum_cons, List.sum_cons, List.sum_cons, List.sum_cons]; grind
  | trans _ _ h1 h2 => exact h1.trans h2
def IsPv (C : List Q2) (P V : Q2) : Prop := P ∈ C ∧ P ≠ V ∧ ∀ Z ∈ C, Z = P ∨ Z = V ∨ 0 < tr P V Z
theorem IsPv.un {P P' : Q2} (h : IsPv C P V) (h' : IsPv C P' V) : P = P' := by
  apply Classical.byContradiction
  intro ne
  have a := h.2.2 P' h'.1
  have b := h'.2.2 P h.1
  rcases a with a | a | a
  · exact ne a.symm
  · exact h'.2.1 a
  · rcases b with b | b | b
    · exact ne b
    · exact h.2.1 b
    · have : tr P' V P = - tr P V P' := by unfold tr; grind
      grind
theorem Cy.isPv (sc : SC C) (h3 : 3 ≤ C.length) (k : Nat) : IsPv C (cyc C k) (cyc C (k + 1)) := by
  have Y := sc.cy h3
  have ne : C ≠ [] := fun z => by rw [z] at h3; simp at h3
  refine ⟨cyc_mem ne, Y.ne k, fun Z hZ => ?_⟩
  obtain ⟨j, hj, rfl⟩ := mem_cyc hZ
  -- bring j above k
  have key : ∀ i, ∃ m, k ≤ m ∧ m < k + C.length ∧ cyc C i = cyc C m := fun i => by
    have n3 := Y.n3
    have e := Nat.mod_add_div (i + k * C.length - k) C.length
    refine ⟨k + (i + k * C.length - k) % C.length, by omega, by have := Nat.mod_lt (i + k * C.length - k) (show 0 < C.length by omega); omega, ?_⟩
    have h1 := Y.perq i k
    have h2 := Y.perq (k + (i + k * C.length - k) % C.length) ((i + k * C.length - k) / C.length)
    rw [← h1, ← h2]
    congr 1
    have : k ≤ k * C.length := Nat.le_mul_of_pos_right k (by omega)
    rw [Nat.mul_comm C.length] at e
    omega
  obtain ⟨m, m1, m2, e⟩ := key (j + 1)
  rw [e]
  by_cases z : m = k
  · subst z; exact .inl rfl
  · by_cases z2 : m = k + 1
    · subst z2; exact .inr (.inl rfl)
    · exact .inr (.inr (Y.pos k (k + 1) m (by omega) (by omega) m2))
theorem ar_small (h : C.length ≤ 2) : ar C = 0 := by
  match C, h with
  | [], _ => rfl
  | [u], _ =>
    unfold ar
    show (List.map _ (List.range 1)).sum = 0
    rw [show List.range 1 = [0] from rfl]
    simp [cyc, Nat.mod_one, cr]
    grind
  | [u, v], _ =>
    unfold ar
    show (List.map _ (List.range 2)).sum = 0
    rw [show List.range 2 = [0, 1] from rfl]
    simp only [List.map_cons, List.map_nil, List.sum_cons, List.sum_nil]
    rw [(cyc2 u v).1, show 0 + 1 = 1 from rfl, (cyc2 u v).2.1, show 1 + 1 = 2 from rfl, (cyc2 u v).2.2]
    unfold cr
    grind
theorem Ok.big (O : Ok S C) (h3 : 3 ≤ C.length) : SC C := by
  rcases O.shp with ⟨rfl, _⟩ | ⟨u, rfl, _⟩ | ⟨u, v, rfl, ne, _⟩ | ⟨h3, sc, _⟩
  · simp at h3
  · simp at h3
  · simp at h3
  · exact sc
theorem ar_perm (O : Ok S C) (O' : Ok S' C') (hp : C.Perm C') : ar C = ar C' := by
  have hl := hp.length_eq
  by_cases h3 : 3 ≤ C.length
  · have sc := O.big h3
    have sc' := O'.big (by omega)
    have tr : ∀ P V, IsPv C P V ↔ IsPv C' P V := fun P V => by
      unfold IsPv
      rw [hp.mem_iff]
      constructor
      · exact fun ⟨a, b, c⟩ => ⟨a, b, fun Z hZ => c Z (hp.mem_iff.mpr hZ)⟩
      · exact fun ⟨a, b, c⟩ => ⟨a, b, fun Z hZ => c Z (hp.mem_iff.mp hZ)⟩
    have ex : ∃ g : Q2 → Q2, ∀ V ∈ C, IsPv C (g V) V := by
      refine ⟨fun V => open Classical in if h : ∃ P, IsPv C P V then h.choose else V, fun V hV => ?_⟩
      obtain ⟨k, hk, e⟩ := mem_cyc hV
      have h : ∃ P, IsPv C P V := ⟨cyc C k, by rw [e]; exact Cy.isPv sc h3 k⟩
      dsimp only
      rw [dif_pos h]
      exact h.choose_spec
    obtain ⟨g, hg⟩ := ex
    have e1 : ar C = (C.map fun V => cr (g V) V).sum := by
      unfold ar
      conv => rhs; rw [← cyc_list C, List.map_map]
      congr 1
      refine List.map_congr_left fun k hk => ?_
      have hk := List.mem_range.mp hk
      have := (hg _ (by rw [cyc_s hk]; exact getD_mem hk)).un (Cy.isPv sc h3 k)
      show _ = cr (g (cyc C (k + 1))) (cyc C (k + 1))
      rw [this]
    have e2 : ar C' = (C'.map fun V => cr (g V) V).sum := by
      unfold ar
      conv => rhs; rw [← cyc_list C', List.map_map]
      congr 1
      refine List.map_congr_left fun k hk => ?_
      have hk := List.mem_range.mp hk
      have := (hg _ (hp.mem_iff.mpr (by rw [cyc_s hk]; exact getD_mem hk))).un ((tr _ _).mpr (Cy.isPv sc' (by omega) k))
      show _ = cr (g (cyc C' (k + 1))) (cyc C' (k + 1))
      rw [this]
    rw [e1, e2]
    exact sum_perm (hp.map _)
  · rw [ar_small (by omega), ar_small (by omega)]
theorem Ok.ar_eq (O : Ok S C) (O' : Ok S' C') (hS : ∀ p, RS S p ↔ RS S' p) : ar C = ar C' := ar_perm O O' (O.perm O' hS)
end
end Pg
end
section
set_option maxRecDepth 100000
set_option maxHeartbeats 1000000
namespace Pg
def ng (h : HP) : HP := (-h.1, -h.2.1, -h.2.2)
def co (O u v : Q2) : Rat := (u.1 - O.1) * (v.2 - O.2) - (u.2 - O.2) * (v.1 - O.1)
def cs (O : Q2) : Q2 → List Q2 → Rat
  | _, [] => 0
  | A, B :: L => co O A B + cs O B L
def ph (h : HP) (O u v : Q2) : Rat := if vl h u ≤ 0 then (if vl h v ≤ 0 then co O u v else co O u (W (vl h u / (vl h u - vl h v)) u v)) else (if vl h v ≤ 0 then co O (W (vl h u / (vl h u - vl h v)) u v) v else 0)
section
variable {h : HP} {n : Nat} {U : Nat → Q2} {S S' : List HP} {C C' : List Q2} {p u v V O A B : Q2} {t : Rat} {k m c : Nat} {a b : Nat × Rat}
theorem vl_ng : vl (ng h) p = - vl h p := by unfold vl ng; dsimp only; rw [Rat.intCast_neg, Rat.intCast_neg, Rat.intCast_neg]; grind
theorem co_line (hn : h.1 ≠ 0 ∨ h.2.1 ≠ 0) (hO : vl h O = 0) (hA : vl h A = 0) (hB : vl h B = 0) : co O A B = 0 := by
  unfold vl at *
  unfold co
  have e1 : (h.1 : Rat) * ((A.1 - O.1) * (B.2 - O.2) - (A.2 - O.2) * (B.1 - O.1)) = 0 := by grind
  have e2 : (h.2.1 : Rat) * ((A.1 - O.1) * (B.2 - O.2) - (A.2 - O.2) * (B.1 - O.1)) = 0 := by grind
  rcases hn with q | q
  · rcases Rat.mul_eq_zero.mp e1 with z | z
    · exact absurd (by exact_mod_cast z) q
    · exact z
  · rcases Rat.mul_eq_zero.mp e2 with z | z
    · exact absurd (by exact_mod_cast z) q
    · exact z
theorem co_self : co O A A = 0 := by unfold co; grind
theorem co_W1 : co O u (W t u v) = t * co O u v := by unfold co W; grind
theorem co_W2 : co O (W t u v) v = (1 - t) * co O u v := by unfold co W; grind
theorem zdiv {b : Rat} : (0 : Rat) / (0 - b) = 0 := by rw [Rat.div_def, Rat.zero_mul]
theorem sdiv {a : Rat} (h : a ≠ 0) : a / (a - 0) = 1 := by
  have e : a / (a - 0) * (a - 0) = a := Rat.div_mul_cancel (by grind)
  have : a * (a / (a - 0) - 1) = 0 := by grind
  rcases Rat.mul_eq_zero.mp this with z | z
  · exact absurd z h
  · grind
theorem ph_ng (hn : h.1 ≠ 0 ∨ h.2.1 ≠ 0) (hO : vl h O = 0) : ph h O u v + ph (ng h) O u v = co O u v := by
  have hx : vl (ng h) u / (vl (ng h) u - vl (ng h) v) = vl h u / (vl h u - vl h v) := by
    rw [vl_ng, vl_ng]
    by_cases z : vl h u - vl h v = 0
    · rw [z, show -vl h u - -vl h v = 0 by grind, Rat.div_def, Rat.div_def, Rat.inv_zero, Rat.mul_zero, Rat.mul_zero]
    · have e1 : vl h u / (vl h u - vl h v) * (vl h u - vl h v) = vl h u := Rat.div_mul_cancel z
      have e2 : -vl h u / (-vl h u - -vl h v) * (-vl h u - -vl h v) = -vl h u := Rat.div_mul_cancel (by grind)
      generalize vl h u / (vl h u - vl h v) = x at *
      generalize -vl h u / (-vl h u - -vl h v) = y at *
      have : (y - x) * (vl h u - vl h v) = 0 := by grind
      rcases Rat.mul_eq_zero.mp this with q | q
      · grind
      · exact absurd q z
  unfold ph
  rw [hx, vl_ng, vl_ng]
  by_cases a : vl h u ≤ 0
  · rw [if_pos a]
    by_cases b : vl h v ≤ 0
    · rw [if_pos b]
      by_cases a0 : vl h u = 0
      · rw [if_pos (show -vl h u ≤ 0 by grind)]
        by_cases b0 : vl h v = 0
        · rw [if_pos (show -vl h v ≤ 0 by grind), co_line hn hO a0 b0]; grind
        · rw [if_neg (show ¬ -vl h v ≤ 0 by grind), a0, zdiv, W_0, co_self]; grind
      · rw [if_neg (show ¬ -vl h u ≤ 0 by grind)]
        by_cases b0 : vl h v = 0
        · rw [if_pos (show -vl h v ≤ 0 by grind), b0, sdiv a0, W_1, co_self]; grind
        · rw [if_neg (show ¬ -vl h v ≤ 0 by grind)]; grind
    · rw [if_neg b]
      by_cases a0 : vl h u = 0
      · rw [if_pos (show -vl h u ≤ 0 by grind), if_pos (show -vl h v ≤ 0 by grind), a0, zdiv, W_0, co_self]; grind
      · rw [if_neg (show ¬ -vl h u ≤ 0 by grind), if_pos (show -vl h v ≤ 0 by grind), co_W1, co_W2]; grind
  · rw [if_neg a, if_pos (show -vl h u ≤ 0 by grind)]
    by_cases b : vl h v ≤ 0
    · rw [if_pos b]
      by_cases b0 : vl h v = 0
      · rw [if_pos (show -vl h v ≤ 0 by grind), b0, sdiv (show vl h u ≠ 0 by grind), W_1, co_self]; grind
      · rw [if_neg (show ¬ -vl h v ≤ 0 by grind), co_W1, co_W2]; grind
    · rw [if_neg b, if_pos (show -vl h v ≤ 0 by grind)]; grind
theorem cs_app : ∀ {A : Q2} {L M : List Q2}, cs O A (L ++ M) = cs O A L + cs O (L.getLast?.getD A) M
  | A, [], M => by show _ = (0 : Rat) + cs O A M; grind
  | A, B :: L, M => by
    show co O A B + cs O B (L ++ M) = co O A B + cs O B L + _
    rw [cs_app, List.getLast?_cons]
    show _ = _ + cs O (L.getLast?.getD B) M
    grind
def ptL (U : Nat → Q2) (K : List (Nat × Rat)) : List Q2 := K.map fun a => pt U a.1 a.2
theorem ptL_app (K M : List (Nat × Rat)) : ptL U (K ++ M) = ptL U K ++ ptL U M := List.map_append
theorem ptL_last (K : List (Nat × Rat)) (a : Nat × Rat) : (ptL U K).getLast?.getD (pt U a.1 a.2) = pt U (K.getLast?.getD a).1 (K.getLast?.getD a).2 := by
  unfold ptL
  rw [List.getLast?_map]
  cases K.getLast? <;> rfl
theorem cs_step (hn : h.1 ≠ 0 ∨ h.2.1 ≠ 0) (hO : vl h O = 0) (ha : St h U m a) : cs O (pt U a.1 a.2) (ptL U (ke h U m)) = ph h O (U m) (U (m + 1)) := by
  have hX : ∀ {t}, KX h U m t → pt U m t = W (vl h (U m) / (vl h (U m) - vl h (U (m + 1)))) (U m) (U (m + 1)) := fun {t} x => by
    have o := x.on
    unfold pt at o ⊢
    rw [vl_W] at o
    have key : vl h (U m) - vl h (U (m + 1)) ≠ 0 := fun z => by rcases neg_mul x.cr with q | q <;> grind
    have e : vl h (U m) / (vl h (U m) - vl h (U (m + 1))) * (vl h (U m) - vl h (U (m + 1))) = vl h (U m) := Rat.div_mul_cancel key
    congr 1
    generalize vl h (U m) / (vl h (U m) - vl h (U (m + 1))) = y at *
    have : (t - y) * (vl h (U m) - vl h (U (m + 1))) = 0 := by grind
    rcases Rat.mul_eq_zero.mp this with z | z
    · grind
    · exact absurd z key
  unfold ph
  rcases ke_cases (h := h) (U := U) (m := m) with ⟨e, p1, p2⟩ | ⟨t, e, x, p1, p2⟩ | ⟨e, p1, p2⟩ | ⟨t, e, x, p1, p2⟩
  · rw [e]
    show (0 : Rat) = _
    by_cases q : vl h (U m) ≤ 0
    · rw [if_pos q, if_neg (by grind), show vl h (U m) = 0 by grind, zdiv, W_0, co_self]
    · rw [if_neg q, if_neg (by grind)]
  · rw [e]
    show co O (pt U a.1 a.2) (pt U m t) + 0 = _
    obtain ⟨e1, e2⟩ := ha.nn (by grind)
    rw [if_pos (by grind), if_neg (by grind), e2, pt_1, e1, hX x]; grind
  · rw [e]
    show co O (pt U a.1 a.2) (pt U m 1) + 0 = _
    rw [pt_1]
    by_cases q : vl h (U m) ≤ 0
    · obtain ⟨e1, e2⟩ := ha.nn q
      rw [if_pos q, if_pos p1, e2, pt_1, e1]; grind
    · have z := p2 (by grind)
      rw [if_neg q, if_pos p1, co_line hn hO (ha.po (by grind)) z, z, sdiv (by grind), W_1, co_self]; grind
  · rw [e]
    show co O (pt U a.1 a.2) (pt U m t) + (co O (pt U m t) (pt U m 1) + 0) = _
    rw [pt_1, if_neg (by grind), if_pos (by grind), co_line hn hO (ha.po p2) x.on, hX x]; grind
theorem cs_go (hn : h.1 ≠ 0 ∨ h.2.1 ≠ 0) (hO : vl h O = 0) (ha : St h U m a) : ∀ c, cs O (pt U a.1 a.2) (ptL U (keys h U (List.range' m c))) = ((List.range' m c).map fun k => ph h O (U k) (U (k + 1))).sum
  | 0 => rfl
  | c + 1 => by
    have ih := cs_go hn hO ha c
    have e : keys h U (List.range' m (c + 1)) = keys h U (List.range' m c) ++ ke h U (m + c) := by
      rw [List.range'_concat, keys_app]
      unfold keys
      simp
    rw [e, ptL_app, cs_app, ih, ptL_last, cs_step hn hO (st_go ha c).2, List.range'_concat, List.map_append, List.sum_append]
    simp only [List.map_cons, List.map_nil, List.sum_cons, List.sum_nil, Nat.one_mul, Rat.add_zero]
def arO (O : Q2) (C : List Q2) : Rat := ((List.range C.length).map fun k => co O (cyc C k) (cyc C (k + 1))).sum
theorem cs_cyc : ∀ {L : List Q2} {A : Q2}, cs O A L = ((List.range L.length).map fun k => co O ((A :: L).getD k (0, 0)) (L.getD k (0, 0))).sum
  | [], A => rfl
  | B :: L, A => by
    show co O A B + cs O B L = _
    rw [cs_cyc, List.length_cons, List.range_succ_eq_map, List.map_cons, List.sum_cons, List.map_map]
    rfl
theorem arO_cs {L : List Q2} (ne : L ≠ []) : arO O L = cs O (cyc L 0) L := by
  rw [cs_cyc]
  unfold arO
  congr 1
  refine List.map_congr_left fun k hk => ?_
  have hk := List.mem_range.mp hk
  rw [cyc_s hk]
  cases k with
  | zero => rfl
  | succ k => rw [cyc_s (by omega)]; rfl
theorem tele (f : Nat → Rat) : ∀ n, ((List.range n).map fun k => f (k + 1) - f k).sum = f n - f 0
  | 0 => by show (0 : Rat) = _; grind
  | n + 1 => by rw [List.range_succ, List.map_append, List.sum_append, tele f n]; simp; grind
theorem sum_add (f g : Nat → Rat) : ∀ n, ((List.range n).map fun k => f k + g k).sum = ((List.range n).map f).sum + ((List.range n).map g).sum
  | 0 => by show (0 : Rat) = 0 + 0; grind
  | n + 1 => by rw [List.range_succ, List.map_append, List.sum_append, List.map_append, List.sum_append, List.map_append, List.sum_append, sum_add f g n]; simp; grind
theorem arO_ar (O : Q2) (C : List Q2) : arO O C = ar C := by
  unfold arO ar
  have e : (fun k => co O (cyc C k) (cyc C (k + 1))) = fun k => cr (cyc C k) (cyc C (k + 1)) + ((fun k => cr (cyc C k) O) (k + 1) - (fun k => cr (cyc C k) O) k) := by
    funext k
    unfold co cr
    dsimp only
    grind
  rw [e, sum_add]
  have tl := tele (fun k => cr (cyc C k) O) C.length
  show _ + ((List.range C.length).map fun k => cr (cyc C (k + 1)) O - cr (cyc C k) O).sum = _
  rw [tl]
  have : cyc C C.length = cyc C 0 := by have := cyc_per C 0; rwa [Nat.zero_add] at this
  rw [this]
  grind
theorem ar_cutR (hn : h.1 ≠ 0 ∨ h.2.1 ≠ 0) (hO : vl h O = 0) (Y : Cy C.length (cyc C)) : ar (cutR h C) = ((List.range C.length).map fun k => ph h O (cyc C k) (cyc C (k + 1))).sum := by
  have hL : cutR h C = ptL (cyc C) (keys h (cyc C) (List.range C.length)) := (keys_pt _).symm
  by_cases ne : cutR h C = []
  · rw [ne]
    have kn : keys h (cyc C) (List.range C.length) = [] := by
      rw [hL] at ne; exact List.map_eq_nil_iff.mp ne
    have vz : ∀ k, k < C.length → 0 < vl h (cyc C (k + 1)) := fun k hk => by
      have : ke h (cyc C) k = [] := List.flatMap_eq_nil_iff.mp kn k (List.mem_range.mpr hk)
      rcases ke_cases (h := h) (U := cyc C) (m := k) with ⟨e, p1, p2⟩ | ⟨t, e, x, p1, p2⟩ | ⟨e, p1, p2⟩ | ⟨t, e, x, p1, p2⟩
      · exact p1
      · rw [e] at this; cases this
      · rw [e] at this; cases this
      · rw [e] at this; cases this
    have va : ∀ k, 0 < vl h (cyc C k) := fun k => by
      obtain ⟨j, hj, e⟩ := Y.at k
      rw [e]; exact vz j hj
    have e : (List.range C.length).map (fun k => ph h O (cyc C k) (cyc C (k + 1))) = (List.range C.length).map fun _ => (0 : Rat) := List.map_congr_left fun k hk => by
      unfold ph
      rw [if_neg (by have := va k; grind), if_neg (by have := va (k + 1); grind)]
    rw [e]
    have : ∀ n, ((List.range n).map fun _ => (0 : Rat)).sum = 0 := fun n => by
      induction n with
      | zero => rfl
      | succ n ih => rw [List.range_succ, List.map_append, List.sum_append, ih]; simp; grind
    rw [this]
    rfl
  · rw [← arO_ar O, arO_cs ne]
    have kn : keys h (cyc C) (List.range C.length) ≠ [] := fun z => ne (by rw [hL, z]; rfl)
    obtain ⟨a0, ea⟩ : ∃ a0, (keys h (cyc C) (List.range C.length)).getLast? = some a0 := by rw [List.getLast?_eq_some_getLast kn]; exact ⟨_, rfl⟩
    have s0 := st_any (h := h) (U := cyc C) C.length a0 ea
    have g := cs_go hn hO s0 C.length
    have e2 : ptL (cyc C) (keys h (cyc C) (List.range' C.length C.length)) = cutR h C := by
      rw [keys_sh Y.per, hL]
      unfold ptL
      rw [List.map_map]
      exact List.map_congr_left fun a _ => pt_sh Y.per a
    have e3 : cyc (cutR h C) 0 = pt (cyc C) a0.1 a0.2 := by
      unfold cyc
      have l0 := List.length_pos_iff.mpr ne
      rw [Nat.zero_add, Nat.mod_eq_of_lt (by omega), List.getD_eq_getElem?_getD, ← List.getLast?_eq_getElem?, hL]
      unfold ptL
      rw [List.getLast?_map, ea]
      rfl
    rw [e2] at g
    rw [e3, g]
    rw [List.range'_eq_map_range, List.map_map]
    congr 1
    refine List.map_congr_left fun k _ => ?_
    show ph h O (cyc C (C.length + k)) (cyc C (C.length + k + 1)) = _
    rw [show C.length + k = k + C.length by omega, show k + C.length + 1 = k + 1 + C.length by omega, Y.per, Y.per]
theorem on_line (hn : h.1 ≠ 0 ∨ h.2.1 ≠ 0) : ∃ O, vl h O = 0 := by
  rcases hn with q | q
  · have q' : (h.1 : Rat) ≠ 0 := fun z => q (by exact_mod_cast z)
    refine ⟨((h.2.2 : Rat) / h.1, 0), ?_⟩
    unfold vl
    dsimp only
    have := Rat.div_mul_cancel (a := (h.2.2 : Rat)) q'
    grind
  · have q' : (h.2.1 : Rat) ≠ 0 := fun z => q (by exact_mod_cast z)
    refine ⟨(0, (h.2.2 : Rat) / h.2.1), ?_⟩
    unfold vl
    dsimp only
    have := Rat.div_mul_cancel (a := (h.2.2 : Rat)) q'
    grind
theorem ng_n (hn : h.1 ≠ 0 ∨ h.2.1 ≠ 0) : (ng h).1 ≠ 0 ∨ (ng h).2.1 ≠ 0 := by
  unfold ng
  rcases hn with q | q
  · exact .inl (by dsimp only; omega)
  · exact .inr (by dsimp only; omega)
theorem small_cut (O : Ok S C) (h2 : C.length ≤ 2) : (cut h C).length ≤ 2 := by
  have O' := O.cut (h := h)
  apply Classical.byContradiction
  intro c
  have sc := O'.big (by omega)
  rcases O.shp with ⟨rfl, hR⟩ | ⟨u, rfl, hR⟩ | ⟨u, v, rfl, ne, hR⟩ | ⟨h3, _, _⟩
  · exact hR _ (RS.cons.mp (O'.cyc_in (fun z => by rw [z] at c; simp at c) 0)).2
  · exact big_not_seg sc (by omega) (u := u) (v := u) fun w hw => ⟨0, by rw [W_0]; exact hR w (RS.cons.mp (O'.inn w hw)).2⟩
  · exact big_not_seg sc (by omega) (u := u) (v := v) fun w hw => by
      obtain ⟨t, _, _, e⟩ := hR w (RS.cons.mp (O'.inn w hw)).2
      exact ⟨t, e⟩
  · omega
theorem big_cut (O : Ok S C) (h3 : 3 ≤ C.length) : ar (cut h C) = ar (cutR h C) := by
  have O' := O.cut (h := h)
  have Y := (O.big h3).cy h3
  by_cases big : 3 ≤ (cutR h C).length
  · have sc' : SC (cutR h C) := sc_cutR Y
    have Y' := sc'.cy big
    have de : cut h C = cutR h C := ded_all fun k _ => .inl (Y'.ne k).symm
    rw [de]
  · rw [ar_small (by omega : (cutR h C).length ≤ 2), ar_small]
    unfold cut ded
    rw [List.length_map]
    exact Nat.le_trans (List.length_filter_le _ _) (by rw [List.length_range]; omega)
theorem ar_split (O : Ok S C) (hn : h.1 ≠ 0 ∨ h.2.1 ≠ 0) : ar (cut h C) + ar (cut (ng h) C) = ar C := by
  by_cases h3 : 3 ≤ C.length
  · have Y := (O.big h3).cy h3
    obtain ⟨o, ho⟩ := on_line hn
    have ho' : vl (ng h) o = 0 := by rw [vl_ng, ho]; grind
    rw [big_cut O h3, big_cut O h3, ar_cutR hn ho Y, ar_cutR (ng_n hn) ho' Y, ← sum_add, ← arO_ar o]
    unfold arO
    congr 1
    exact List.map_congr_left fun k _ => ph_ng hn ho
  · rw [ar_small (small_cut O (by omega)), ar_small (small_cut O (by omega)), ar_small (by omega : C.length ≤ 2)]; grind
theorem ar_nn (O : Ok S C) : 0 ≤ ar C := by
  by_cases h3 : 3 ≤ C.length
  · have Y := (O.big h3).cy h3
    rw [← arO_ar (cyc C 1)]
    unfold arO
    have : ∀ n, n ≤ C.length → 0 ≤ ((List.range n).map fun k => co (cyc C 1) (cyc C k) (cyc C (k + 1))).sum := fun n => by
      induction n with
      | zero => intro _; exact Rat.le_refl
      | succ n ih =>
        intro hn
        rw [List.range_succ, List.map_append, List.sum_append]
        have ih := ih (by omega)
        have e : co (cyc C 1) (cyc C n) (cyc C (n + 1)) = tr (cyc C 1) (cyc C n) (cyc C (n + 1)) := rfl
        have : 0 ≤ tr (cyc C 1) (cyc C n) (cyc C (n + 1)) := by
          by_cases z : n = 0
          · subst z; rw [show 0 + 1 = 1 from rfl, tr_ab]; exact Rat.le_refl
          · exact Y.nn (by omega) (by omega) (by omega)
        simp
        grind
    exact this _ (Nat.le_refl _)
  · rw [ar_small (by omega : C.length ≤ 2)]; exact Rat.le_refl
end
end Pg
end
section
set_option maxRecDepth 100000
set_option maxHeartbeats 1000000
namespace Pg
theorem one_dim : ∀ G : List (Rat × Rat), (∃ t, (t = 0 ∨ ∃ g ∈ G, g.1 ≠ 0 ∧ g.1 * t = g.2) ∧ ∀ g ∈ G, g.1 * t ≤ g.2) ∨ (∃ g ∈ G, g.1 = 0 ∧ g.2 < 0) ∨ ∃ g1 ∈ G, ∃ g2 ∈ G, g1.1 < 0 ∧ 0 < g2.1 ∧ g2.1 * g1.2 - g1.1 * g2.2 < 0
  | [] => .inl ⟨0, .inl rfl, by simp⟩
  | g :: G => by
    rcases one_dim G with ⟨t, ht, hG⟩ | ⟨g1, h1, h2⟩ | ⟨g1, h1, g2, h2, h3⟩
    · by_cases q : g.1 * t ≤ g.2
      · refine .inl ⟨t, ?_, fun x hx => ?_⟩
        · rcases ht with ht | ⟨x, hx, h⟩
          · exact .inl ht
          · exact .inr ⟨x, List.mem_cons_of_mem _ hx, h⟩
        · rcases List.mem_cons.mp hx with rfl | hx
          · exact q
          · exact hG x hx
      · by_cases z : g.1 = 0
        · exact .inr (.inl ⟨g, List.mem_cons_self, z, by rw [z] at q; grind⟩)
        · have e : g.1 * (g.2 / g.1) = g.2 := by rw [Rat.mul_comm]; exact Rat.div_mul_cancel z
          generalize g.2 / g.1 = t' at e
          by_cases al : ∀ x ∈ G, x.1 * t' ≤ x.2
          · refine .inl ⟨t', .inr ⟨g, List.mem_cons_self, z, e⟩, fun x hx => ?_⟩
            rcases List.mem_cons.mp hx with rfl | hx
            · rw [e]; exact Rat.le_refl
            · exact al x hx
          · obtain ⟨x, hx⟩ := Classical.not_forall.mp al
            obtain ⟨hx, nx⟩ := Classical.not_imp.mp hx
            have hxt := hG x hx
            by_cases gp : 0 < g.1
            · have lt : t' < t := by
                apply Classical.byContradiction; intro c
                have := mul_nn (show 0 ≤ t' - t by grind) (Rat.le_of_lt gp)
                grind
              have xn : x.1 < 0 := by
                apply Classical.byContradiction; intro c
                have := mul_nn (show 0 ≤ t - t' by grind) (show 0 ≤ x.1 by grind)
                grind
              refine .inr (.inr ⟨x, List.mem_cons_of_mem _ hx, g, List.mem_cons_self, xn, gp, ?_⟩)
              have := mul_pp gp (show 0 < x.1 * t' - x.2 by grind)
              grind
            · have gn : g.1 < 0 := by grind
              have lt : t < t' := by
                apply Classical.byContradiction; intro c
                have := mul_nn (show 0 ≤ t - t' by grind) (show 0 ≤ -g.1 by grind)
                grind
              have xp : 0 < x.1 := by
                apply Classical.byContradiction; intro c
                have := mul_nn (show 0 ≤ t' - t by grind) (show 0 ≤ -x.1 by grind)
                grind
              refine .inr (.inr ⟨g, List.mem_cons_self, x, List.mem_cons_of_mem _ hx, gn, xp, ?_⟩)
              have := mul_pp (show 0 < -g.1 by grind) (show 0 < x.1 * t' - x.2 by grind)
              grind
    · exact .inr (.inl ⟨g1, List.mem_cons_of_mem _ h1, h2⟩)
    · exact .inr (.inr ⟨g1, List.mem_cons_of_mem _ h1, g2, List.mem_cons_of_mem _ h2, h3⟩)
def xx (g h : HP) : Int := g.1 * h.2.1 - g.2.1 * h.1
def dt (g h : HP) : Int := g.1 * h.1 + g.2.1 * h.2.1
def Nz (g : HP) : Prop := g.1 ≠ 0 ∨ g.2.1 ≠ 0
def foot (h : HP) : Q2 := (((h.1 * h.2.2 : Int) : Rat) / ((h.1 * h.1 + h.2.1 * h.2.1 : Int) : Rat), ((h.2.1 * h.2.2 : Int) : Rat) / ((h.1 * h.1 + h.2.1 * h.2.1 : Int) : Rat))
def corn (g h : HP) : Q2 := (((g.2.2 * h.2.1 - g.2.1 * h.2.2 : Int) : Rat) / ((xx g h : Int) : Rat), ((g.1 * h.2.2 - g.2.2 * h.1 : Int) : Rat) / ((xx g h : Int) : Rat))
def cand : List HP → List Q2
  | [] => [(0, 0)]
  | h :: R => cand R ++ foot h :: ((R.reverse.filter fun g => decide (xx h g ≠ 0)).map fun g => corn h g)
def Two (g h : HP) : Prop := xx g h = 0 ∧ dt g h ≤ 0 ∧ ((h.1.natAbs + h.2.1.natAbs : Nat) : Int) * g.2.2 + ((g.1.natAbs + g.2.1.natAbs : Nat) : Int) * h.2.2 < 0
def ws (a b c : HP) : Int × Int × Int := (xx b c, xx c a, xx a b)
def Thr (a b c : HP) : Prop := (0 ≤ xx b c ∧ 0 ≤ xx c a ∧ 0 ≤ xx a b ∧ xx b c * a.2.2 + xx c a * b.2.2 + xx a b * c.2.2 < 0) ∨ (xx b c ≤ 0 ∧ xx c a ≤ 0 ∧ xx a b ≤ 0 ∧ 0 < xx b c * a.2.2 + xx c a * b.2.2 + xx a b * c.2.2)
def Rf : List HP → Prop
  | [] => False
  | h :: R => Rf R ∨ (∃ g ∈ R, Two g h) ∨ ∃ A B D a b, R = A ++ b :: B ++ a :: D ∧ Thr a b h
section
variable {g h a b c : HP} {R : List HP} {p q F : Q2} {t : Rat}
theorem sq_nn (a : Int) : 0 ≤ a * a := by
  rcases Int.le_total 0 a with q | q
  · exact Int.mul_nonneg q q
  · exact Int.mul_nonneg_of_nonpos_of_nonpos q q
theorem sq_pos {a : Int} (q : a ≠ 0) : 0 < a * a := by
  have := sq_nn a
  have : a * a ≠ 0 := Int.mul_ne_zero q q
  omega
theorem nn_pos (h1 : Nz h) : 0 < h.1 * h.1 + h.2.1 * h.2.1 := by
  have a := sq_nn h.1
  have b := sq_nn h.2.1
  rcases h1 with q | q
  · have := sq_pos q; omega
  · have := sq_pos q; omega
theorem foot_on (h1 : Nz h) : vl h (foot h) = 0 := by
  have m := nn_pos h1
  have m' : ((h.1 * h.1 + h.2.1 * h.2.1 : Int) : Rat) ≠ 0 := fun z => by
    have : h.1 * h.1 + h.2.1 * h.2.1 = 0 := by exact_mod_cast z
    omega
  have e1 := Rat.div_mul_cancel (a := ((h.1 * h.2.2 : Int) : Rat)) m'
  have e2 := Rat.div_mul_cancel (a := ((h.2.1 * h.2.2 : Int) : Rat)) m'
  unfold vl foot
  dsimp only
  generalize ((h.1 * h.2.2 : Int) : Rat) / ((h.1 * h.1 + h.2.1 * h.2.1 : Int) : Rat) = x at *
  generalize ((h.2.1 * h.2.2 : Int) : Rat) / ((h.1 * h.1 + h.2.1 * h.2.1 : Int) : Rat) = y at *
  have : ((h.1 * h.1 + h.2.1 * h.2.1 : Int) : Rat) * ((h.1 : Rat) * x + (h.2.1 : Rat) * y - (h.2.2 : Rat)) = 0 := by
    rw [Rat.intCast_add, Rat.intCast_mul, Rat.intCast_mul] at *
    rw [Rat.intCast_mul] at e1 e2
    grind
  rcases Rat.mul_eq_zero.mp this with z | z
  · exact absurd z m'
  · exact z
def al (h : HP) (F : Q2) (t : Rat) : Q2 := (F.1 - (h.2.1 : Rat) * t, F.2 + (h.1 : Rat) * t)
theorem vl_al : vl g (al h F t) = vl g F + ((xx h g : Int) : Rat) * t := by
  unfold vl al xx
  rw [Rat.intCast_sub, Rat.intCast_mul, Rat.intCast_mul]
  dsimp only
  grind
theorem corn_eq (hx : xx h g ≠ 0) (h1 : vl h p = 0) (h2 : vl g p = 0) : p = corn h g := by
  have m' : ((xx h g : Int) : Rat) ≠ 0 := fun z => hx (by exact_mod_cast z)
  have e1 := Rat.div_mul_cancel (a := ((h.2.2 * g.2.1 - h.2.1 * g.2.2 : Int) : Rat)) m'
  have e2 := Rat.div_mul_cancel (a := ((h.1 * g.2.2 - h.2.2 * g.1 : Int) : Rat)) m'
  unfold corn
  generalize ((h.2.2 * g.2.1 - h.2.1 * g.2.2 : Int) : Rat) / ((xx h g : Int) : Rat) = x at *
  generalize ((h.1 * g.2.2 - h.2.2 * g.1 : Int) : Rat) / ((xx h g : Int) : Rat) = y at *
  unfold vl at h1 h2
  have ex : ((xx h g : Int) : Rat) = (h.1 : Rat) * g.2.1 - (h.2.1 : Rat) * g.1 := by unfold xx; rw [Rat.intCast_sub, Rat.intCast_mul, Rat.intCast_mul]
  rw [Rat.intCast_sub, Rat.intCast_mul, Rat.intCast_mul] at e1 e2
  have f1 : ((xx h g : Int) : Rat) * (p.1 - x) = 0 := by rw [ex] at e1 e2 ⊢; grind
  have f2 : ((xx h g : Int) : Rat) * (p.2 - y) = 0 := by rw [ex] at e1 e2 ⊢; grind
  refine Prod.ext ?_ ?_
  · rcases Rat.mul_eq_zero.mp f1 with z | z
    · exact absurd z m'
    · dsimp only; grind
  · rcases Rat.mul_eq_zero.mp f2 with z | z
    · exact absurd z m'
    · dsimp only; grind
theorem xx_sw : xx g h = - xx h g := by unfold xx; grind
theorem lin3 (a b c : HP) : xx b c * a.1 + xx c a * b.1 + xx a b * c.1 = 0 ∧ xx b c * a.2.1 + xx c a * b.2.1 + xx a b * c.2.1 = 0 := by
  unfold xx; constructor <;> grind
theorem vl3 (x y z : Int) (a b c : HP) (h1 : x * a.1 + y * b.1 + z * c.1 = 0) (h2 : x * a.2.1 + y * b.2.1 + z * c.2.1 = 0) (p : Q2) : (x : Rat) * vl a p + (y : Rat) * vl b p + (z : Rat) * vl c p = - ((x * a.2.2 + y * b.2.2 + z * c.2.2 : Int) : Rat) := by
  have e1 : ((x * a.1 + y * b.1 + z * c.1 : Int) : Rat) = 0 := by rw [h1]; rfl
  have e2 : ((x * a.2.1 + y * b.2.1 + z * c.2.1 : Int) : Rat) = 0 := by rw [h2]; rfl
  rw [Rat.intCast_add, Rat.intCast_add, Rat.intCast_mul, Rat.intCast_mul, Rat.intCast_mul] at *
  unfold vl
  grind
theorem vl2 (x y : Int) (a b : HP) (h1 : x * a.1 + y * b.1 = 0) (h2 : x * a.2.1 + y * b.2.1 = 0) (p : Q2) : (x : Rat) * vl a p + (y : Rat) * vl b p = - ((x * a.2.2 + y * b.2.2 : Int) : Rat) := by
  have e1 : ((x * a.1 + y * b.1 : Int) : Rat) = 0 := by rw [h1]; rfl
  have e2 : ((x * a.2.1 + y * b.2.1 : Int) : Rat) = 0 := by rw [h2]; rfl
  rw [Rat.intCast_add, Rat.intCast_mul, Rat.intCast_mul] at *
  unfold vl
  grind
theorem anti (h1 : xx g h = 0) (h2 : dt g h ≤ 0) : ((h.1.natAbs + h.2.1.natAbs : Nat) : Int) * g.1 + ((g.1.natAbs + g.2.1.natAbs : Nat) : Int) * h.1 = 0 ∧ ((h.1.natAbs + h.2.1.natAbs : Nat) : Int) * g.2.1 + ((g.1.natAbs + g.2.1.natAbs : Nat) : Int) * h.2.1 = 0 := by
  obtain ⟨a, b, c⟩ := g
  obtain ⟨x, y, z⟩ := h
  unfold xx dt at *
  dsimp only at *
  rw [Int.natCast_add, Int.natCast_add]
  have sg : ∀ {u v : Int}, u * v ≤ 0 ∨ 0 ≤ u * v := fun {u v} => Int.le_total _ _
  -- signs
  have key : a * x ≤ 0 ∧ b * y ≤ 0 := by
    have e : (a * x) * (b * y) = (a * y) * (b * x) := by grind
    have f : a * y = b * x := by omega
    have g : 0 ≤ (a * x) * (b * y) := by rw [e, f]; exact sq_nn _
    refine ⟨Classical.byContradiction fun w => ?_, Classical.byContradiction fun w => ?_⟩
    · have : 0 < (a * x) * (-(b * y)) := Int.mul_pos (by omega) (by omega)
      rw [Int.mul_neg] at this
      omega
    · have : 0 < (-(a * x)) * (b * y) := Int.mul_pos (by omega) (by omega)
      rw [Int.neg_mul] at this
      omega
  have f : a * y = b * x := by omega
  have ab : ∀ {u v : Int}, u * v ≤ 0 → (v.natAbs : Int) * u + (u.natAbs : Int) * v = 0 := fun {u v} h => by
    rcases Int.le_total 0 u with p | p
    · rcases Int.le_total 0 v with q | q
      · have : 0 ≤ u * v := Int.mul_nonneg p q
        have : u * v = 0 := by omega
        rcases Int.mul_eq_zero.mp this with z | z
        · subst z; simp
        · subst z; simp
      · rw [Int.ofNat_natAbs_of_nonpos q, Int.natAbs_of_nonneg p]; grind
    · rcases Int.le_total 0 v with q | q
      · rw [Int.ofNat_natAbs_of_nonpos p, Int.natAbs_of_nonneg q]; grind
      · have : 0 ≤ u * v := Int.mul_nonneg_of_nonpos_of_nonpos p q
        have : u * v = 0 := by omega
        rcases Int.mul_eq_zero.mp this with z | z
        · subst z; simp
        · subst z; simp
  have k1 := ab key.1
  have k2 := ab key.2
  have sgn : ∀ {u v : Int}, u * v ≤ 0 → 0 < v → u ≤ 0 := fun {u v} h p => Classical.byContradiction fun w => by
    have : 0 < u * v := Int.mul_pos (by omega) p
    omega
  have mix : ∀ {a b x y : Int}, a * y = b * x → a * x ≤ 0 → b * y ≤ 0 → (y.natAbs : Int) * a + (b.natAbs : Int) * x = 0 := fun {a b x y} f k1 k2 => by
    rcases Int.lt_trichotomy y 0 with q | q | q
    · have : b * (-y) ≥ 0 := by rw [Int.mul_neg]; omega
      have hb : 0 ≤ b := Classical.byContradiction fun w => by
        have : 0 < (-b) * (-y) := Int.mul_pos (by omega) (by omega)
        rw [Int.neg_mul] at this
        omega
      rw [Int.ofNat_natAbs_of_nonpos (by omega), Int.natAbs_of_nonneg hb]; grind
    · subst q
      have : b * x = 0 := by omega
      rcases Int.mul_eq_zero.mp this with z | z
      · subst z; simp
      · subst z; simp
    · have hb := sgn k2 q
      rw [Int.ofNat_natAbs_of_nonpos hb, Int.natAbs_of_nonneg (by omega)]; grind
  have m1 := mix f key.1 key.2
  have m2 := mix (a := b) (b := a) (x := y) (y := x) (by omega) key.2 key.1
  constructor <;> grind
theorem Rf.not : ∀ {R : List HP}, Rf R → ¬ RS R p
  | h :: R, hr, hp => by
    have h1 := (RS.cons.mp hp).1
    have h2 := (RS.cons.mp hp).2
    rcases hr with hr | ⟨g, hg, t1, t2, t3⟩ | ⟨A, B, D, a, b, e, ht⟩
    · exact Rf.not hr h2
    · obtain ⟨e1, e2⟩ := anti t1 t2
      have v := vl2 _ _ g h e1 e2 p
      have hg' := h2 g hg
      have w1 := mul_nn (show (0 : Rat) ≤ (((h.1.natAbs + h.2.1.natAbs : Nat) : Int) : Rat) by exact_mod_cast Nat.zero_le _) (show 0 ≤ - vl g p by grind)
      have w2 := mul_nn (show (0 : Rat) ≤ (((g.1.natAbs + g.2.1.natAbs : Nat) : Int) : Rat) by exact_mod_cast Nat.zero_le _) (show 0 ≤ - vl h p by grind)
      have t3' : ((((h.1.natAbs + h.2.1.natAbs : Nat) : Int) * g.2.2 + ((g.1.natAbs + g.2.1.natAbs : Nat) : Int) * h.2.2 : Int) : Rat) < 0 := by exact_mod_cast t3
      grind
    · have ha := h2 a (by rw [e]; simp)
      have hb := h2 b (by rw [e]; simp)
      obtain ⟨l1, l2⟩ := lin3 a b h
      have v := vl3 _ _ _ a b h l1 l2 p
      rcases ht with ⟨x, y, z, w⟩ | ⟨x, y, z, w⟩
      · have w' : ((xx b h * a.2.2 + xx h a * b.2.2 + xx a b * h.2.2 : Int) : Rat) < 0 := by exact_mod_cast w
        have x' := mul_nn (show (0 : Rat) ≤ ((xx b h : Int) : Rat) by exact_mod_cast x) (show 0 ≤ - vl a p by grind)
        have y' := mul_nn (show (0 : Rat) ≤ ((xx h a : Int) : Rat) by exact_mod_cast y) (show 0 ≤ - vl b p by grind)
        have z' := mul_nn (show (0 : Rat) ≤ ((xx a b : Int) : Rat) by exact_mod_cast z) (show 0 ≤ - vl h p by grind)
        grind
      · have w' : (0 : Rat) < ((xx b h * a.2.2 + xx h a * b.2.2 + xx a b * h.2.2 : Int) : Rat) := by exact_mod_cast w
        have x0 : ((xx b h : Int) : Rat) ≤ 0 := by exact_mod_cast x
        have y0 : ((xx h a : Int) : Rat) ≤ 0 := by exact_mod_cast y
        have z0 : ((xx a b : Int) : Rat) ≤ 0 := by exact_mod_cast z
        have x' := mul_nn (show (0 : Rat) ≤ - ((xx b h : Int) : Rat) by grind) (show 0 ≤ - vl a p by grind)
        have y' := mul_nn (show (0 : Rat) ≤ - ((xx h a : Int) : Rat) by grind) (show 0 ≤ - vl b p by grind)
        have z' := mul_nn (show (0 : Rat) ≤ - ((xx a b : Int) : Rat) by grind) (show 0 ≤ - vl h p by grind)
        grind
theorem two_in {α : Type} {x y : α} {L : List α} (hx : x ∈ L) (hy : y ∈ L) (ne : x ≠ y) : (∃ A B D, L = A ++ x :: B ++ y :: D) ∨ ∃ A B D, L = A ++ y :: B ++ x :: D := by
  obtain ⟨A, B, rfl⟩ := List.append_of_mem hx
  rcases List.mem_append.mp hy with h | h
  · obtain ⟨A1, A2, rfl⟩ := List.append_of_mem h
    exact .inr ⟨A1, A2, B, by simp⟩
  · rcases List.mem_cons.mp h with h | h
    · exact absurd h.symm ne
    · obtain ⟨B1, B2, rfl⟩ := List.append_of_mem h
      exact .inl ⟨A, B1, B2, by simp⟩
theorem castZ {a : Int} (h : a ≠ 0) : (a : Rat) ≠ 0 := fun z => h (by exact_mod_cast z)
theorem fk : ∀ {R : List HP}, (∀ g ∈ R, Nz g) → (∃ q ∈ cand R, RS R q) ∨ Rf R
  | [], _ => .inl ⟨(0, 0), by simp [cand], fun g hg => by cases hg⟩
  | h :: R, hz => by
    have nzh := hz h List.mem_cons_self
    rcases fk (R := R) fun g hg => hz g (List.mem_cons_of_mem _ hg) with ⟨q, hq, rq⟩ | hr
    · by_cases vq : vl h q ≤ 0
      · exact .inl ⟨q, List.mem_append_left _ hq, RS.cons.mpr ⟨vq, rq⟩⟩
      · have fo := foot_on nzh
        have vq : 0 < vl h q := by grind
        rcases one_dim (R.map fun g => (((xx h g : Int) : Rat), - vl g (foot h))) with ⟨t, ht, hG⟩ | ⟨x, hx, x1, x2⟩ | ⟨x1, hx1, x2, hx2, l1, l2, l3⟩
        · left
          have xs : xx h h = 0 := by unfold xx; grind
          have vh : vl h (al h (foot h) t) = 0 := by rw [vl_al, fo, xs, Rat.intCast_zero]; grind
          have rp : RS (h :: R) (al h (foot h) t) := RS.cons.mpr ⟨by rw [vh]; exact Rat.le_refl, fun g hg => by
            have := hG _ (List.mem_map.mpr ⟨g, hg, rfl⟩)
            rw [vl_al]
            dsimp only at this
            grind⟩
          refine ⟨_, ?_, rp⟩
          rcases ht with rfl | ⟨x, hx, x1, x2⟩
          · have : al h (foot h) 0 = foot h := by unfold al; exact Prod.ext (by dsimp only; grind) (by dsimp only; grind)
            rw [this]
            exact List.mem_append_right _ List.mem_cons_self
          · obtain ⟨g, hg, rfl⟩ := List.mem_map.mp hx
            dsimp only at x1 x2
            have vg : vl g (al h (foot h) t) = 0 := by rw [vl_al]; grind
            have ne : xx h g ≠ 0 := fun z => x1 (by rw [z]; rfl)
            rw [corn_eq ne vh vg]
            exact List.mem_append_right _ (List.mem_cons_of_mem _ (List.mem_map.mpr ⟨g, List.mem_filter.mpr ⟨List.mem_reverse.mpr hg, decide_eq_true ne⟩, rfl⟩))
        · right
          obtain ⟨g, hg, rfl⟩ := List.mem_map.mp hx
          dsimp only at x1 x2
          have xz : xx h g = 0 := by exact_mod_cast x1
          have xz' : xx g h = 0 := by rw [xx_sw, xz]; rfl
          have hh := nn_pos nzh
          have v1 : h.1 * h.1 + h.2.1 * h.2.1 = dt h h := rfl
          have e1 : dt h h * g.1 + (- dt g h) * h.1 = 0 := by unfold dt xx at *; grind
          have e2 : dt h h * g.2.1 + (- dt g h) * h.2.1 = 0 := by unfold dt xx at *; grind
          have k1 := vl2 _ _ g h e1 e2 (foot h)
          have k2 := vl2 _ _ g h e1 e2 q
          have hd : (0 : Rat) < ((dt h h : Int) : Rat) := by exact_mod_cast hh
          have dn : dt g h ≤ 0 := by
            apply Classical.byContradiction
            intro c
            have c' : (0 : Rat) < ((dt g h : Int) : Rat) := by exact_mod_cast (show 0 < dt g h by omega)
            have w1 := mul_pp hd (show 0 < vl g (foot h) by grind)
            have w2 := mul_nn (Rat.le_of_lt hd) (show 0 ≤ - vl g q by have := rq g hg; grind)
            have w3 := mul_pp c' vq
            rw [Rat.intCast_neg] at k1 k2
            rw [fo] at k1
            grind
          refine .inr (.inl ⟨g, hg, xz', dn, ?_⟩)
          obtain ⟨a1, a2⟩ := anti xz' dn
          have k3 := vl2 _ _ g h a1 a2 (foot h)
          rw [fo] at k3
          have mp : (0 : Rat) < (((h.1.natAbs + h.2.1.natAbs : Nat) : Int) : Rat) := by
            have : (0 : Int) < ((h.1.natAbs + h.2.1.natAbs : Nat) : Int) := by
              rcases nzh with z | z
              · omega
              · omega
            exact_mod_cast this
          have w1 := mul_pp mp (show 0 < vl g (foot h) by grind)
          have : ((((h.1.natAbs + h.2.1.natAbs : Nat) : Int) * g.2.2 + ((g.1.natAbs + g.2.1.natAbs : Nat) : Int) * h.2.2 : Int) : Rat) < 0 := by grind
          exact_mod_cast this
        · right
          obtain ⟨g1, hg1, rfl⟩ := List.mem_map.mp hx1
          obtain ⟨g2, hg2, rfl⟩ := List.mem_map.mp hx2
          dsimp only at l1 l2 l3
          have n1 : xx h g1 < 0 := by exact_mod_cast l1
          have n2 : 0 < xx h g2 := by exact_mod_cast l2
          obtain ⟨e1, e2⟩ := lin3 g1 g2 h
          have k1 := vl3 _ _ _ g1 g2 h e1 e2 (foot h)
          have k2 := vl3 _ _ _ g1 g2 h e1 e2 q
          have s1 : xx g2 h = - xx h g2 := xx_sw
          rw [fo] at k1
          rw [s1, Rat.intCast_neg] at k1 k2
          have sp : (0 : Rat) < ((- xx h g2 * g1.2.2 + xx h g1 * g2.2.2 + xx g1 g2 * h.2.2 : Int) : Rat) := by grind
          have sp' : 0 < - xx h g2 * g1.2.2 + xx h g1 * g2.2.2 + xx g1 g2 * h.2.2 := by exact_mod_cast sp
          have r1 := rq g1 hg1
          have r2 := rq g2 hg2
          have w1 := mul_nn (Rat.le_of_lt l2) (show 0 ≤ - vl g1 q by grind)
          have w2 := mul_nn (show 0 ≤ - ((xx h g1 : Int) : Rat) by grind) (show 0 ≤ - vl g2 q by grind)
          have xn : xx g1 g2 < 0 := by
            apply Classical.byContradiction
            intro c
            have c' : (0 : Rat) ≤ ((xx g1 g2 : Int) : Rat) := by exact_mod_cast (show 0 ≤ xx g1 g2 by omega)
            have := mul_nn c' (Rat.le_of_lt vq)
            grind
          have ne : g1 ≠ g2 := fun z => by rw [z] at n1; omega
          rcases two_in hg1 hg2 ne with ⟨A, B, D, e⟩ | ⟨A, B, D, e⟩
          · refine .inr (.inr ⟨A, B, D, g2, g1, e, .inl ⟨?_, by omega, ?_, ?_⟩⟩)
            · rw [xx_sw]; omega
            · rw [xx_sw]; omega
            · rw [xx_sw (g := g1) (h := h), xx_sw (g := g2) (h := g1)]
              have : - xx h g1 * g2.2.2 + xx h g2 * g1.2.2 + - xx g1 g2 * h.2.2 = -(- xx h g2 * g1.2.2 + xx h g1 * g2.2.2 + xx g1 g2 * h.2.2) := by grind
              omega
          · refine .inr (.inr ⟨A, B, D, g1, g2, e, .inr ⟨?_, by omega, by omega, ?_⟩⟩)
            · rw [xx_sw]; omega
            · rw [s1]; exact sp'
    · exact .inr (.inl hr)
end
end Pg
end
section
set_option maxRecDepth 100000
set_option maxHeartbeats 1000000
namespace Pg
def S0 : List HP := [(-1, 0, 5), (0, -1, 5), (1, 0, 5), (0, 1, 5)]
def C0 : List Q2 := [(-5, -5), (5, -5), (5, 5), (-5, 5)]
theorem rs0 {p : Q2} : RS S0 p ↔ (-5 ≤ p.1 ∧ p.1 ≤ 5) ∧ -5 ≤ p.2 ∧ p.2 ≤ 5 := by
  unfold RS S0 vl
  simp only [List.mem_cons, List.not_mem_nil, or_false, forall_eq_or_imp, forall_eq]
  constructor
  · rintro ⟨h1, h2, h3, h4⟩
    simp at h1 h2 h3 h4
    refine ⟨⟨?_, ?_⟩, ?_, ?_⟩ <;> grind
  · rintro ⟨⟨h1, h2⟩, h3, h4⟩
    refine ⟨?_, ?_, ?_, ?_⟩ <;> simp <;> grind
theorem c0_cyc : cyc C0 0 = (-5, 5) ∧ cyc C0 1 = (-5, -5) ∧ cyc C0 2 = (5, -5) ∧ cyc C0 3 = (5, 5) ∧ cyc C0 4 = (-5, 5) := ⟨rfl, rfl, rfl, rfl, rfl⟩
theorem ok0 : Ok S0 C0 where
  inn := by
    intro v hv
    rw [rs0]
    simp only [C0, List.mem_cons, List.not_mem_nil, or_false] at hv
    rcases hv with rfl | rfl | rfl | rfl <;> (refine ⟨⟨?_, ?_⟩, ?_, ?_⟩ <;> grind)
  edg := by
    obtain ⟨e0, e1, e2, e3, e4⟩ := c0_cyc
    intro k hk
    have hk : k < 4 := hk
    match k, hk with
    | 0, _ => exact ⟨(-1, 0, 5), by simp [S0], by rw [e0]; unfold vl; simp; grind, by rw [e1]; unfold vl; simp; grind⟩
    | 1, _ => exact ⟨(0, -1, 5), by simp [S0], by rw [e1]; unfold vl; simp; grind, by rw [e2]; unfold vl; simp; grind⟩
    | 2, _ => exact ⟨(1, 0, 5), by simp [S0], by rw [e2]; unfold vl; simp; grind, by rw [e3]; unfold vl; simp; grind⟩
    | 3, _ => exact ⟨(0, 1, 5), by simp [S0], by rw [e3]; unfold vl; simp; grind, by rw [e4]; unfold vl; simp; grind⟩
  shp := by
    refine .inr (.inr (.inr ⟨by decide, ?_, ?_⟩))
    · simp only [SC, C0, List.pairwise_cons, List.mem_cons, List.not_mem_nil, or_false, forall_eq_or_imp, forall_eq, List.Pairwise.nil, and_true, false_imp_iff, implies_true, tr]
      refine ⟨⟨⟨?_, ?_⟩, ?_⟩, ?_⟩ <;> grind
    · intro p hp k hk
      rw [rs0] at hp
      obtain ⟨⟨h1, h2⟩, h3, h4⟩ := hp
      obtain ⟨e0, e1, e2, e3, e4⟩ := c0_cyc
      have hk : k < 4 := hk
      match k, hk with
      | 0, _ => rw [e0, e1]; unfold tr; dsimp only; grind
      | 1, _ => rw [e1, e2]; unfold tr; dsimp only; grind
      | 2, _ => rw [e2, e3]; unfold tr; dsimp only; grind
      | 3, _ => rw [e3, e4]; unfold tr; dsimp only; grind
def lo (R : List HP) : List Q2 := R.foldl (fun C h => cut h C) C0
theorem fold_ok : ∀ (R : List HP) {S : List HP} {C : List Q2}, Ok S C → Ok (R.reverse ++ S) (R.foldl (fun C h => cut h C) C)
  | [], _, _, O => O
  | h :: R, S, C, O => by
    have := fold_ok R (O.cut (h := h))
    rw [List.reverse_cons, List.append_assoc]
    exact this
theorem lo_ok (R : List HP) : Ok (R.reverse ++ S0) (lo R) := fold_ok R ok0
theorem rs_lo {R : List HP} {p : Q2} : RS (R.reverse ++ S0) p ↔ RS R p ∧ RS S0 p := by
  unfold RS
  constructor
  · exact fun h => ⟨fun g hg => h g (List.mem_append_left _ (List.mem_reverse.mpr hg)), fun g hg => h g (List.mem_append_right _ hg)⟩
  · rintro ⟨h1, h2⟩ g hg
    rcases List.mem_append.mp hg with q | q
    · exact h1 g (List.mem_reverse.mp q)
    · exact h2 g q
theorem lo_in {R : List HP} {p : Q2} (h : p ∈ lo R) : RS R p ∧ RS S0 p := rs_lo.mp ((lo_ok R).inn p h)
theorem par_vl {g h : HP} {u v : Q2} (hn : Nz g) (hx : xx g h = 0) (hu : vl g u = 0) (hv : vl g v = 0) : vl h u = vl h v := by
  have hx' : (g.1 : Rat) * h.2.1 - g.2.1 * h.1 = 0 := by
    have : ((xx g h : Int) : Rat) = 0 := by rw [hx]; rfl
    unfold xx at this
    rw [Rat.intCast_sub, Rat.intCast_mul, Rat.intCast_mul] at this
    exact this
  have d : (g.1 : Rat) * (u.1 - v.1) + g.2.1 * (u.2 - v.2) = 0 := by unfold vl at hu hv; grind
  have k1 : (g.1 : Rat) * (vl h u - vl h v) = 0 := by unfold vl; grind
  have k2 : (g.2.1 : Rat) * (vl h u - vl h v) = 0 := by unfold vl; grind
  rcases hn with q | q
  · have := castZ q
    rcases Rat.mul_eq_zero.mp k1 with z | z
    · exact absurd z this
    · grind
  · have := castZ q
    rcases Rat.mul_eq_zero.mp k2 with z | z
    · exact absurd z this
    · grind
theorem cut_corn {S : List HP} {C : List Q2} {h : HP} {p : Q2} (O : Ok S C) (hS : ∀ g ∈ S, Nz g) (hp : p ∈ cut h C) : p ∈ C ∨ ∃ g ∈ S, xx g h ≠ 0 ∧ p = corn g h := by
  have hp := ded_mem hp
  unfold cutR at hp
  obtain ⟨k, hk, hp⟩ := List.mem_flatMap.mp hp
  have hk := List.mem_range.mp hk
  have hC : C ≠ [] := fun z => by rw [z] at hk; cases hk
  unfold em at hp
  rcases List.mem_append.mp hp with q | q
  · split at q
    · rename_i c
      rw [List.mem_singleton] at q
      obtain ⟨g, hg, h1, h2⟩ := O.edg k hk
      have e1 : vl g p = 0 := by rw [q, vl_W, h1, h2]; grind
      have e2 : vl h p = 0 := by rw [q, vl_W]; exact (cross_t c).2.2
      have nx : xx g h ≠ 0 := fun z => by
        have := par_vl (hS g hg) z h1 h2
        rw [this] at c
        have := neg_mul c
        grind
      exact .inr ⟨g, hg, nx, corn_eq nx e1 e2⟩
    · cases q
  · split at q
    · rw [List.mem_singleton] at q
      rw [q]; exact .inl (cyc_mem hC)
    · cases q
theorem em_len (h : HP) (u v : Q2) : (em h u v).length ≤ 2 := by
  unfold em
  rw [List.length_append]
  have a : (if vl h u * vl h v < 0 then [W (vl h u / (vl h u - vl h v)) u v] else []).length ≤ 1 := by split <;> simp
  have b : (if vl h v ≤ 0 then [v] else []).length ≤ 1 := by split <;> simp
  omega
theorem flat_len {α β : Type} (f : α → List β) (h : ∀ a, (f a).length ≤ 2) : ∀ L : List α, (L.flatMap f).length ≤ 2 * L.length
  | [] => by simp
  | a :: L => by
    rw [List.flatMap_cons, List.length_append, List.length_cons]
    have := flat_len f h L
    have := h a
    omega
end Pg
end
section
set_option maxRecDepth 100000
set_option maxHeartbeats 1000000
namespace K17
open PySem L2 Mp Pg
def hp (h : HP) : PV := .tup [.int h.1, .int h.2.1, .int h.2.2]
def pq (p : Q2) : PV := .tup [fr p.1, fr p.2]
structure HB (h : HP) : Prop where
  nz : Nz h
  a : h.1.natAbs ≤ 20
  b : h.2.1.natAbs ≤ 20
  c : h.2.2.natAbs ≤ 20
instance (R : List HP) (p : Q2) : Decidable (RS R p) := by unfold RS; infer_instance
instance (h : HP) : Decidable (Nz h) := by unfold Nz; infer_instance
def PB (n : Nat) (p : Q2) : Prop := sz p.1 ≤ n ∧ sz p.2 ≤ n
theorem szI {i : Int} (h : i.natAbs < 1024) : sz (i : Rat) ≤ 10 := sz_int (by omega) (by decide)
section
variable {a b : Rat} {st : Sto} {h g : HP} {p q : Q2} {R : List HP}
theorem part_ev {o u : Int} (h : u ≠ 0) (hb : bt u.natAbs ≤ 8900) : M_part [.int o, .int u] st = .ok (fr (Rat.divInt o u)) st := par_ev h hb
theorem plus_ev (h : sz a + sz b ≤ 8800) : M_plus [fr a, fr b] st = .ok (fr (a + b)) st := plu_ev h
theorem minus_ev (h : sz a + sz b ≤ 8800) : M_minus [fr a, fr b] st = .ok (fr (a - b)) st := min_ev h
theorem times_ev (h : sz a + sz b ≤ 8800) : M_times [fr a, fr b] st = .ok (fr (a * b)) st := tim_ev h
theorem over_ev (h : sz a + sz b ≤ 8800) (h0 : b ≠ 0) : M_over [fr a, fr b] st = .ok (fr (a / b)) st := ovr_ev h h0
theorem part_small {o u : Int} (h : u ≠ 0) (hb : u.natAbs < 2 ^ 30) : M_part [.int o, .int u] st = .ok (fr ((o : Rat) / (u : Rat))) st := by
  rw [part_ev h (Nat.le_trans (bt_le hb (by decide)) (by decide)), Rat.divInt_eq_div]
def sgn (a b : Rat) : Int := if b < a then 1 else if a < b then -1 else 0
theorem stands_ev (h : sz a + sz b ≤ 8800) : M_stands [fr a, fr b] st = .ok (.int (sgn a b)) st := by
  obtain ⟨m1, m2, m3, m4, m5⟩ := fac h
  have hx : ∀ x y : Rat, x < y ↔ x.num * y.den < y.num * x.den := fun x y => Rat.lt_iff x y
  have e : ∀ c d : Bool, pSub (.bl c) (.bl d) = some (.int ((if c then 1 else 0) - (if d then 1 else 0))) := fun c d => by cases c <;> cases d <;> rfl
  have fin : (.int ((if decide (0 < a.num * b.den - b.num * a.den) then 1 else 0) - (if decide (a.num * b.den - b.num * a.den < 0) then 1 else 0)) : PV) = .int (sgn a b) := by
    unfold sgn
    have h1 := hx b a
    have h2 := hx a b
    by_cases c : b < a
    · have := h1.mp c
      rw [if_pos c]
      simp only [decide_eq_true_eq]
      rw [if_pos (by omega), if_neg (by omega)]; rfl
    · have n1 : ¬ _ := fun z => c (h1.mpr z)
      rw [if_neg c]
      by_cases d : a < b
      · have := h2.mp d
        rw [if_pos d]
        simp only [decide_eq_true_eq]
        rw [if_neg (by omega), if_pos (by omega)]; rfl
      · have n2 : ¬ _ := fun z => d (h2.mpr z)
        rw [if_neg d]
        simp only [decide_eq_true_eq]
        rw [if_neg (by omega), if_neg (by omega)]; rfl
  refine fnM_rt ?_
  show B_stands [.pv (fr a), .pv (fr b), .un] st = _
  rw [← fin]
  refine (seq_nx (set_ok (bin_ok (bin_ok (ix_ok (mv_ok rfl) ev_C (fr_ix0 a _)) (ix_ok (mv_ok rfl) ev_C (fr_ix1 b _)) m1) (bin_ok (ix_ok (mv_ok rfl) ev_C (fr_ix0 b _)) (ix_ok (mv_ok rfl) ev_C (fr_ix1 a _)) m2) pSub_int))).trans ?_
  exact ret_ok (bin_ok (bin_ok (mv_ok rfl) ev_C cGt_int) (bin_ok (mv_ok rfl) ev_C cLt_int) (e _ _))
theorem sgn_gt : 0 < sgn a b ↔ b < a := by
  unfold sgn
  by_cases c : b < a
  · rw [if_pos c]; simp [c]
  · rw [if_neg c]; split <;> simp [c]
theorem sgn_lt : sgn a b < 0 ↔ a < b := by
  unfold sgn
  by_cases c : b < a
  · rw [if_pos c]; simp; grind
  · rw [if_neg c]; split <;> simp_all
theorem sgn_le : sgn a b ≤ 0 ↔ a ≤ b := by
  have := @sgn_gt a b
  constructor
  · intro z; have : ¬ b < a := fun y => by have := this.mpr y; omega
    grind
  · intro z; have : ¬ 0 < sgn a b := fun y => by have := this.mp y; grind
    omega
theorem HB.sa (H : HB h) : sz (h.1 : Rat) ≤ 10 := szI (by have := H.a; omega)
theorem HB.sb (H : HB h) : sz (h.2.1 : Rat) ≤ 10 := szI (by have := H.b; omega)
theorem HB.sc (H : HB h) : sz (h.2.2 : Rat) ≤ 10 := szI (by have := H.c; omega)
theorem vl_sz {n : Nat} (H : HB h) (P : PB n p) : sz (vl h p) ≤ 2 * n + 32 := by
  have := H.sa; have := H.sb; have := H.sc
  obtain ⟨p1, p2⟩ := P
  unfold vl
  grind [sz_add, sz_sub, sz_mul]
theorem pq0 (p : Q2) (s : Sto) : ixV s (pq p) (.int 0) = some (fr p.1) := rfl
theorem pq1 (p : Q2) (s : Sto) : ixV s (pq p) (.int 1) = some (fr p.2) := rfl
theorem hp0 (h : HP) (s : Sto) : ixV s (hp h) (.int 0) = some (.int h.1) := rfl
theorem hp1 (h : HP) (s : Sto) : ixV s (hp h) (.int 1) = some (.int h.2.1) := rfl
theorem hp2 (h : HP) (s : Sto) : ixV s (hp h) (.int 2) = some (.int h.2.2) := rfl
theorem one_ok' {i : Nat} {env : MEnv} {a : Int} (h : env[i]? = some (.pv (.int a))) : mTup (aCons (mVar i) (aCons (mC (.int 1)) aNil)) env st = .ok (fr (a : Rat)) st := tup_ok (a2_ok (mv_ok h) (a1_ok ev_C))
theorem value_ev {n : Nat} (H : HB h) (P : PB n p) (hn : n ≤ 2000) : M_value [hp h, pq p] st = .ok (fr (vl h p)) st := by
  have ha := H.sa; have hb := H.sb; have hc := H.sc
  obtain ⟨p1, p2⟩ := P
  refine fnM_rt ?_
  show B_value [.pv (hp h), .pv (pq p), .un, .un, .un] st = _
  refine (seq_nx (show s_value_1 _ st = .nx [.pv (hp h), .pv (pq p), .pv (.int h.1), .pv (.int h.2.1), .pv (.int h.2.2)] st from asg_ok (mv_ok rfl) rfl)).trans ?_
  refine ret_ok (call_ok (a2_ok (call_ok (a2_ok (call_ok (a2_ok (one_ok' rfl) (a1_ok (ix_ok (mv_ok rfl) ev_C (pq0 p _)))) (times_ev (by omega))) (a1_ok (call_ok (a2_ok (one_ok' rfl) (a1_ok (ix_ok (mv_ok rfl) ev_C (pq1 p _)))) (times_ev (by omega))))) (plus_ev ?_)) (a1_ok (one_ok' rfl))) (minus_ev ?_))
  · grind [sz_mul]
  · grind [sz_mul, sz_add]
theorem sz0 : sz 0 ≤ 1 := by decide
theorem RS_all : RS R p ↔ (R.all fun g => decide (vl g p ≤ 0)) = true := by
  unfold RS; rw [List.all_eq_true]; simp
theorem within_ev {n : Nat} (H : ∀ g ∈ R, HB g) (P : PB n p) (hn : n ≤ 2000) : M_is_within [.lst (R.map hp), pq p] st = .ok (.bl (decide (RS R p))) st := by
  refine fnM_rt ?_
  show B_is_within [.pv (.lst (R.map hp)), .pv (pq p), .un] st = _
  refine ret_ok ?_
  rw [show decide (RS R p) = R.all fun g => decide (vl g p ≤ 0) by rw [Bool.eq_iff_iff, decide_eq_true_eq, RS_all]]
  refine allG_ev hp _ R (seq_ev (mv_ok rfl)) rfl fun g hg => ⟨[.pv (.lst (R.map hp)), .pv (pq p), .pv (hp g)], rfl, ?_⟩
  have vs := vl_sz (H g hg) P
  have z := sz0
  have e := bin_ok (g := cLe) (call_ok (M := M_stands) (env := [.pv (.lst (R.map hp)), .pv (pq p), .pv (hp g)]) (st := st) (a2_ok (call_ok (a2_ok (mv_ok (i := 2) rfl) (a1_ok (mv_ok (i := 1) rfl))) (value_ev (H g hg) P hn)) (a1_ok (tup_ok (a2_ok (ev_C (v := .int 0)) (a1_ok (ev_C (v := .int 1))))))) (stands_ev (b := 0) (by omega))) (ev_C (v := .int 0)) cLe_int
  rw [decide_eq_decide.mpr (sgn_le (a := vl g p) (b := 0))] at e
  exact e
theorem whole_ev {i lo hi : Int} : M_is_whole [.int i, .int lo, .int hi] st = .ok (.bl (decide (lo ≤ i) && decide (i ≤ hi))) st := by
  have b2 : isiB "int" (.int i) = true := rfl
  have b3 : isiB "bool" (.int i) = false := rfl
  have e := Ge.eChain_ev (env := [.pv (.int i), .pv (.int lo), .pv (.int hi)]) (g := cLe) (g' := cLe) (ma := mVar 1) (mb := mVar 0) (mc := mVar 2) (s := st) (x := .int lo) (y := .int i) (z := .int hi) (by simp [mVar]) (by simp [mVar]) (by simp [mVar]) cLe_int cLe_int
  refine fnM_rt ?_
  show B_is_whole [.pv (.int i), .pv (.int lo), .pv (.int hi)] st = _
  have m0 : mVar 0 [.pv (.int i), .pv (.int lo), .pv (.int hi)] st = .ok (.int i) st := rfl
  simp -implicitDefEqProofs [B_is_whole, s_is_whole_1, m0, b2, b3, e]
theorem bound_ev (h1 : h.1.natAbs ≤ 20) (h2 : h.2.1.natAbs ≤ 20) (h3 : h.2.2.natAbs ≤ 20) : M_is_bound [hp h] st = .ok (.bl (decide (Nz h))) st := by
  have b1 : isiO "tuple" (hp h) = some (.bl true) := rfl
  have b4 : ∀ s, bLen s [hp h] = some (.int 3) := fun _ => rfl
  have b5 : ∀ s, iSeq (mVar 0) [.pv (hp h), .un] s = .ok [.int h.1, .int h.2.1, .int h.2.2] s := fun _ => rfl
  have ix0 := hp0 h
  have ix1 := hp1 h
  refine fnM_rt ?_
  show B_is_bound [.pv (hp h), .un] st = _
  have k1 : (-1000000 : Int) ≤ h.1 ∧ h.1 ≤ 1000000 := by omega
  have k2 : (-1000000 : Int) ≤ h.2.1 ∧ h.2.1 ≤ 1000000 := by omega
  have k3 : (-1000000 : Int) ≤ h.2.2 ∧ h.2.2 ≤ 1000000 := by omega
  have un : pNeg (.int 1000000) = some (.int (-1000000)) := rfl
  refine (seq_nx (show s_is_bound_2 _ st = .nx [.pv (hp h), .un] st from ?_)).trans ?_
  · simp -implicitDefEqProofs [-ev_seqI, s_is_bound_2, mVar, b1, b4, mAllG, b5, noOwn, killE, allL, tYesM, whole_ev, k1, k2, k3, un, gNm]
  · refine ret_ok ?_
    have n : decide (Nz h) = (!decide (h.1 = 0) || !decide (h.2.1 = 0)) := by unfold Nz; by_cases q : h.1 = 0 <;> by_cases q' : h.2.1 = 0 <;> simp [q, q']
    rw [n]
    by_cases q : h.1 = 0
    · simp -implicitDefEqProofs [mVar, ix0, ix1, q]
    · simp -implicitDefEqProofs [mVar, ix0, ix1, q]
theorem check_ev (H : ∀ g ∈ R, HB g) : M_check_bounds [.lst (R.map hp)] st = .ok .non st := by
  refine fnM_nx (e := [.pv (.lst (R.map hp)), .un]) ?_
  show B_check_bounds [.pv (.lst (R.map hp)), .un] st = _
  have L := forL_id (gt := gNm 1) (body := s_check_bounds_2) (ks := [1]) (env := [.pv (.lst (R.map hp)), .un]) (st := st) hp R fun g hg => ⟨_, [.pv (.lst (R.map hp)), .pv (hp g)], rfl, ifF_ok (tnot_ok (tval_ok (call_ok (a1_ok (mv_ok rfl)) ((bound_ev (H g hg).a (H g hg).b (H g hg).c).trans (by rw [decide_eq_true (H g hg).nz]))))), rfl⟩
  exact (for_ev (mi := iSeq (mVar 0)) (seq_ev (mv_ok (i := 0) rfl))).trans L
end
end K17
end
section
set_option maxRecDepth 100000
set_option maxHeartbeats 1000000
namespace Pg
def at' (R : List HP) (k : Nat) : HP := R.getD k (0, 0, 0)
def sI (f : Nat → Int) (n : Nat) : Int := ((List.range n).map f).sum
theorem sI_s (f : Nat → Int) (n : Nat) : sI f (n + 1) = sI f n + f n := by unfold sI; rw [List.range_succ]; simp
theorem sI_add (f g : Nat → Int) : ∀ n, sI (fun i => f i + g i) n = sI f n + sI g n
  | 0 => rfl
  | n + 1 => by rw [sI_s, sI_s, sI_s, sI_add f g n]; omega
theorem sI_0 {f : Nat → Int} : ∀ {n : Nat}, (∀ i, i < n → f i = 0) → sI f n = 0
  | 0, _ => rfl
  | n + 1, h => by rw [sI_s, sI_0 fun i hi => h i (by omega), h n (by omega)]; rfl
theorem sI_one (F : Nat → Int) {j : Nat} : ∀ {n : Nat}, j < n → sI (fun i => if i = j then F i else 0) n = F j
  | 0, h => by omega
  | n + 1, h => by
    rw [sI_s]
    by_cases q : n = j
    · subst q
      rw [if_pos rfl, sI_0 fun i hi => if_neg (by omega)]; omega
    · rw [if_neg q, sI_one F (by omega)]; omega
theorem sI_c {f g : Nat → Int} {n : Nat} (h : ∀ i, i < n → f i = g i) : sI f n = sI g n := by
  unfold sI; rw [List.map_congr_left fun i hi => h i (List.mem_range.mp hi)]
structure Wk (R : List HP) (w : Nat → Int) : Prop where
  nn : ∀ k, k < R.length → 0 ≤ w k
  le : ∀ k, k < R.length → w k ≤ 800
  a : sI (fun k => w k * (at' R k).1) R.length = 0
  b : sI (fun k => w k * (at' R k).2.1) R.length = 0
  c : sI (fun k => w k * (at' R k).2.2) R.length < 0
def w2 (j k : Nat) (x y : Int) (n : Nat) : Int := if n = j then x else if n = k then y else 0
def w3 (i j k : Nat) (x y z : Int) (n : Nat) : Int := if n = i then x else if n = j then y else if n = k then z else 0
theorem sI_w2 {j k n : Nat} {x y : Int} (F : Nat → Int) (h : j < k) (hk : k < n) : sI (fun m => w2 j k x y m * F m) n = x * F j + y * F k := by
  rw [sI_c (g := fun m => (if m = j then x * F m else 0) + (if m = k then y * F m else 0)) fun m hm => ?_, sI_add, sI_one (fun m => x * F m) (by omega), sI_one (fun m => y * F m) hk]
  unfold w2
  by_cases q : m = j
  · rw [if_pos q, if_pos q, if_neg (by omega)]; omega
  · rw [if_neg q, if_neg q]
    by_cases q2 : m = k
    · rw [if_pos q2, if_pos q2]; omega
    · rw [if_neg q2, if_neg q2]; omega
theorem sI_w3 {i j k n : Nat} {x y z : Int} (F : Nat → Int) (h0 : i < j) (h : j < k) (hk : k < n) : sI (fun m => w3 i j k x y z m * F m) n = x * F i + y * F j + z * F k := by
  rw [sI_c (g := fun m => (if m = i then x * F m else 0) + ((if m = j then y * F m else 0) + (if m = k then z * F m else 0))) fun m hm => ?_, sI_add, sI_add, sI_one (fun m => x * F m) (by omega), sI_one (fun m => y * F m) (by omega), sI_one (fun m => z * F m) hk]
  · omega
  unfold w3
  by_cases q : m = i
  · rw [if_pos q, if_pos q, if_neg (by omega), if_neg (by omega)]; omega
  · rw [if_neg q, if_neg q]
    by_cases q2 : m = j
    · rw [if_pos q2, if_pos q2, if_neg (by omega)]; omega
    · rw [if_neg q2, if_neg q2]
      by_cases q3 : m = k
      · rw [if_pos q3, if_pos q3]; omega
      · rw [if_neg q3, if_neg q3]; omega
def Sm (h : HP) : Prop := h.1.natAbs ≤ 20 ∧ h.2.1.natAbs ≤ 20 ∧ h.2.2.natAbs ≤ 20
theorem mul_b {x y : Int} {A B : Nat} (hx : x.natAbs ≤ A) (hy : y.natAbs ≤ B) : (x * y).natAbs ≤ A * B := by rw [Int.natAbs_mul]; exact Nat.mul_le_mul hx hy
theorem xx_b {g h : HP} (hg : Sm g) (hh : Sm h) : (xx g h).natAbs ≤ 800 := by
  have := mul_b hg.1 hh.2.1
  have := mul_b hg.2.1 hh.1
  unfold xx; omega
theorem wk2 {R : List HP} {j k : Nat} (hs : ∀ m, m < R.length → Sm (at' R m)) (h : j < k) (hk : k < R.length) (T : Two (at' R j) (at' R k)) : Wk R (w2 j k ((at' R k).1.natAbs + (at' R k).2.1.natAbs : Nat) ((at' R j).1.natAbs + (at' R j).2.1.natAbs : Nat)) := by
  obtain ⟨t1, t2, t3⟩ := T
  obtain ⟨a1, a2⟩ := anti t1 t2
  have b1 := hs j (by omega)
  have b2 := hs k hk
  unfold Sm at b1 b2
  refine ⟨fun m _ => ?_, fun m _ => ?_, ?_, ?_, ?_⟩
  · unfold w2; split
    · omega
    · split <;> omega
  · unfold w2; split
    · omega
    · split <;> omega
  · rw [sI_w2 _ h hk]; exact a1
  · rw [sI_w2 _ h hk]; exact a2
  · rw [sI_w2 _ h hk]; exact t3
theorem wk3 {R : List HP} {i j k : Nat} {s : Int} (hs : ∀ m, m < R.length → Sm (at' R m)) (h0 : i < j) (h : j < k) (hk : k < R.length) (hse : s = 1 ∨ s = -1) (p1 : 0 ≤ s * xx (at' R j) (at' R k)) (p2 : 0 ≤ s * xx (at' R k) (at' R i)) (p3 : 0 ≤ s * xx (at' R i) (at' R j))
    (ng : s * xx (at' R j) (at' R k) * (at' R i).2.2 + s * xx (at' R k) (at' R i) * (at' R j).2.2 + s * xx (at' R i) (at' R j) * (at' R k).2.2 < 0) :
    Wk R (w3 i j k (s * xx (at' R j) (at' R k)) (s * xx (at' R k) (at' R i)) (s * xx (at' R i) (at' R j))) := by
  obtain ⟨l1, l2⟩ := lin3 (at' R i) (at' R j) (at' R k)
  have x1 := xx_b (hs j (by omega)) (hs k hk)
  have x2 := xx_b (hs k hk) (hs i (by omega))
  have x3 := xx_b (hs i (by omega)) (hs j (by omega))
  have e : ∀ x : Int, x.natAbs ≤ 800 → s * x ≤ 800 := fun x hx => by rcases hse with rfl | rfl <;> omega
  refine ⟨fun m _ => ?_, fun m _ => ?_, ?_, ?_, ?_⟩
  · unfold w3; split
    · exact p1
    · split
      · exact p2
      · split
        · exact p3
        · omega
  · unfold w3; split
    · exact e _ x1
    · split
      · exact e _ x2
      · split
        · exact e _ x3
        · omega
  · rw [sI_w3 _ h0 h hk]; rcases hse with rfl | rfl <;> grind
  · rw [sI_w3 _ h0 h hk]; rcases hse with rfl | rfl <;> grind
  · rw [sI_w3 _ h0 h hk]; exact ng
theorem sum_vl (R : List HP) (w : Nat → Int) (p : Q2) : ∀ n, ((sI (fun k => w k * (at' R k).1) n : Int) : Rat) * p.1 + ((sI (fun k => w k * (at' R k).2.1) n : Int) : Rat) * p.2 - ((sI (fun k => w k * (at' R k).2.2) n : Int) : Rat) = ((List.range n).map fun k => (w k : Rat) * vl (at' R k) p).sum
  | 0 => by simp [sI]; grind
  | n + 1 => by
    rw [sI_s, sI_s, sI_s, List.range_succ, List.map_append, List.sum_append, ← sum_vl R w p n]
    simp only [List.map_cons, List.map_nil, List.sum_cons, List.sum_nil, Rat.intCast_add, Rat.intCast_mul]
    unfold vl; grind
theorem sum_np : ∀ {f : Nat → Rat} {n : Nat}, (∀ k, k < n → f k ≤ 0) → ((List.range n).map f).sum ≤ 0
  | f, 0, _ => by simp
  | f, n + 1, h => by
    have := sum_np (f := f) (n := n) fun k hk => h k (by omega)
    have := h n (by omega)
    rw [List.range_succ, List.map_append, List.sum_append]
    simp only [List.map_cons, List.map_nil, List.sum_cons, List.sum_nil]
    grind
theorem at_mem {R : List HP} {k : Nat} (h : k < R.length) : at' R k ∈ R := by
  unfold at'; rw [List.getD_eq_getElem?_getD, List.getElem?_eq_getElem h]; exact List.getElem_mem _
theorem Wk.not {R : List HP} {w : Nat → Int} {p : Q2} (K : Wk R w) : ¬ RS R p := fun h => by
  have e := sum_vl R w p R.length
  rw [K.a, K.b] at e
  have np := sum_np (f := fun k => (w k : Rat) * vl (at' R k) p) (n := R.length) fun k hk => by
    have h1 : (0 : Rat) ≤ (w k : Rat) := by exact_mod_cast K.nn k hk
    have h2 := h _ (at_mem hk)
    have := mul_nn h1 (show (0 : Rat) ≤ - vl (at' R k) p by grind)
    grind
  have c : ((sI (fun k => w k * (at' R k).2.2) R.length : Int) : Rat) < 0 := by exact_mod_cast K.c
  rw [← e] at np
  simp at np
  grind
theorem rf_ix : ∀ {L : List HP}, Rf L → (∃ j k, j < k ∧ k < L.length ∧ Two (at' L.reverse j) (at' L.reverse k)) ∨ ∃ i j k, i < j ∧ j < k ∧ k < L.length ∧ Thr (at' L.reverse i) (at' L.reverse j) (at' L.reverse k)
  | [], h => h.elim
  | h :: R, F => by
    have lt : ∀ k, k < R.length → at' (h :: R).reverse k = at' R.reverse k := fun k hk => by
      unfold at'
      rw [List.getD_eq_getElem?_getD, List.getD_eq_getElem?_getD, List.reverse_cons, List.getElem?_append_left (by rw [List.length_reverse]; exact hk)]
    have la : at' (h :: R).reverse R.length = h := by
      unfold at'
      rw [List.getD_eq_getElem?_getD, List.reverse_cons, List.getElem?_append_right (by simp)]; simp
    rcases F with F | ⟨g, hg, T⟩ | ⟨A, B, D, a, b, e, T⟩
    · rcases rf_ix F with ⟨j, k, h1, h2, T⟩ | ⟨i, j, k, h1, h2, h3, T⟩
      · exact .inl ⟨j, k, h1, by rw [List.length_cons]; omega, by rw [lt j (by omega), lt k h2]; exact T⟩
      · exact .inr ⟨i, j, k, h1, h2, by rw [List.length_cons]; omega, by rw [lt i (by omega), lt j (by omega), lt k h3]; exact T⟩
    · obtain ⟨j, hj, e⟩ := List.mem_iff_getElem.mp (List.mem_reverse.mpr hg)
      rw [List.length_reverse] at hj
      refine .inl ⟨j, R.length, hj, by simp, ?_⟩
      rw [lt j hj, la]
      have : at' R.reverse j = g := by unfold at'; rw [List.getD_eq_getElem?_getD, List.getElem?_eq_getElem (by simpa using hj)]; exact e
      rw [this]; exact T
    · have eR : R.reverse = D.reverse ++ a :: (B.reverse ++ b :: A.reverse) := by rw [e]; simp
      have lR : R.length = D.length + (B.length + (A.length + 1) + 1) := by rw [e]; simp; omega
      refine .inr ⟨D.length, D.length + 1 + B.length, R.length, by omega, by omega, by simp, ?_⟩
      rw [lt _ (by omega), lt _ (by omega), la]
      have q1 : at' R.reverse D.length = a := by
        unfold at'; rw [List.getD_eq_getElem?_getD, eR, List.getElem?_append_right (by simp)]; simp
      have q2 : at' R.reverse (D.length + 1 + B.length) = b := by
        unfold at'; rw [List.getD_eq_getElem?_getD, eR, List.getElem?_append_right (by simp; omega)]
        rw [List.length_reverse, show D.length + 1 + B.length - D.length = B.length + 1 by omega, List.getElem?_cons_succ, List.getElem?_append_right (by simp)]; simp
      rw [q1, q2]; exact T
end Pg
end
section
set_option maxRecDepth 100000
set_option maxHeartbeats 1000000
namespace K17
open PySem L2 Mp Pg
theorem vF_ok {m : EM} {ms : VM} {env : MEnv} {s s1 s2 : Sto} {v : PV} {evs : List EV} (h : m env s = .ok v s1) (h2 : ms env s1 = .ok evs s2) : vF m ms env s = .ok (.pv v :: evs) s2 := by unfold vF; rw [h, ev_bindR, h2]; rfl
theorem vN0 {env : MEnv} {s : Sto} : vNil env s = .ok [] s := rfl
theorem par_ok {is : List Nat} {m : VM} {env e : MEnv} {s s1 : Sto} {evs : List EV} (h : m env s = .ok evs s1) (hl : evs.length = is.length) (he : setsE is evs env = e) : sPar is m env s = .nx e s1 := by subst he; rw [ev_par, h]; show (if evs.length = is.length then _ else _) = _; rw [if_pos hl]
theorem okc {r : MRes Bool} {c d : Bool} {s : Sto} (h : r = .ok c s) (e : c = d) : r = .ok d s := e ▸ h
def Ext (st st' : Sto) : Prop := ∃ js : Sto, st' = st ++ js ∧ ∀ o ∈ js, okO o = true
theorem Ext.rfl' (st : Sto) : Ext st st := ⟨[], by simp, fun _ h => nomatch h⟩
theorem Ext.trans {a b c : Sto} (h : Ext a b) (h' : Ext b c) : Ext a c := by
  obtain ⟨j1, rfl, h1⟩ := h
  obtain ⟨j2, rfl, h2⟩ := h'
  refine ⟨j1 ++ j2, by simp, fun o ho => ?_⟩
  rcases List.mem_append.mp ho with q | q
  · exact h1 o q
  · exact h2 o q
theorem Ext.gk {k : Nat} {a b : Sto} (h : Ext a b) (g : Gk k a) : Gk k b := by
  obtain ⟨js, rfl, h⟩ := h
  exact g.app h
theorem compL_st {α : Type} {gt : PV → MEnv → Option MEnv} {me : EM} {env : MEnv} (f : α → PV) (g : α → PV) (P : Sto → Prop) : ∀ (xs : List α) (st : Sto), P st → (∀ a ∈ xs, ∀ st, P st → ∃ e1 st', gt (f a) env = some e1 ∧ me e1 st = .ok (g a) st' ∧ P st') → ∃ st', compL gt tYesM me (xs.map f) env st = .ok (xs.map g) st' ∧ P st'
  | [], st, p, _ => ⟨st, rfl, p⟩
  | x :: xs, st, p, h => by
    obtain ⟨e1, s1, h1, h2, p1⟩ := h x List.mem_cons_self st p
    obtain ⟨s2, h3, p2⟩ := compL_st f g P xs s1 p1 fun a ha => h a (List.mem_cons_of_mem _ ha)
    refine ⟨s2, ?_, p2⟩
    simp only [List.map_cons, compL, h1, tYesM, bindX, if_true, h2, h3]
theorem mComp_st {α : Type} {mi : AM} {gt : PV → MEnv → Option MEnv} {me : EM} {vs : List Nat} {env : MEnv} {st : Sto} (f : α → PV) (g : α → PV) (P : Sto → Prop) (xs : List α) (hi : mi env st = .ok (xs.map f) st) (hn : noOwn vs env = true) (hl : xs.length ≤ 1000000) (p : P st)
    (h : ∀ a ∈ xs, ∀ st, P st → ∃ e1 st', gt (f a) (killE vs env) = some e1 ∧ me e1 st = .ok (g a) st' ∧ P st') : ∃ st', mComp mi gt tYesM me vs env st = .ok (.lst (xs.map g)) st' ∧ P st' := by
  obtain ⟨s2, e, p2⟩ := compL_st (st := st) f g P xs p h
  have hl' : (xs.map f).length ≤ 1000000 := by rw [List.length_map]; exact hl
  refine ⟨s2, ?_, p2⟩
  unfold mComp
  rw [hi, ev_bindR, hn]
  simp only [hl', decide_true, Bool.and_self, if_true, e, ev_bindX]
def nI (n : Nat) : PV := .int (n : Int)
section
variable {st : Sto} {R : List HP}
abbrev rv (R : List HP) : PV := .lst (R.map hp)
theorem row_ix {k : Nat} (h : k < R.length) (s : Sto) : ixV s (rv R) (nI k) = some (hp (at' R k)) := ixL (by
  rw [List.getElem?_map, List.getElem?_eq_getElem h]
  unfold at'
  rw [List.getD_eq_getElem?_getD, List.getElem?_eq_getElem h]; rfl)
theorem abs_ev {i : Nat} {env : MEnv} {g : HP} (c : Nat) {v : Int} (h : env[i]? = some (.pv (hp g))) (hx : ∀ s, ixV s (hp g) (.int c) = some (.int v)) : mCallB bAbs (aCons (mIx (mVar i) (mC (.int c))) aNil) env st = .ok (.int (v.natAbs : Nat)) st := by
  refine callB_ok (a1_ok (ix_ok (mv_ok h) ev_C (hx st))) ?_
  show some (PV.int (if v < 0 then -v else v)) = _
  rw [abs_int]
theorem sumabs_ev {i : Nat} {env : MEnv} {g : HP} (h : env[i]? = some (.pv (hp g))) : mBin pAdd (mCallB bAbs (aCons (mIx (mVar i) (mC (.int 0))) aNil)) (mCallB bAbs (aCons (mIx (mVar i) (mC (.int 1))) aNil)) env st = .ok (.int (g.1.natAbs + g.2.1.natAbs : Nat)) st := by
  have e := bin_ok (g := pAdd) (abs_ev (st := st) 0 h (hp0 g)) (abs_ev (st := st) 1 h (hp1 g)) pAdd_int
  rw [Int.natCast_add]; exact e
theorem mul_ev {i j : Nat} {env : MEnv} {g h : HP} (c d : Nat) {v w : Int} (hi : env[i]? = some (.pv (hp g))) (hj : env[j]? = some (.pv (hp h))) (hx : ∀ s, ixV s (hp g) (.int c) = some (.int v)) (hy : ∀ s, ixV s (hp h) (.int d) = some (.int w)) (b : w.natAbs ≤ 20) : mBin pMul (mIx (mVar i) (mC (.int c))) (mIx (mVar j) (mC (.int d))) env st = .ok (.int (v * w)) st :=
  bin_ok (ix_ok (mv_ok hi) ev_C (hx st)) (ix_ok (mv_ok hj) ev_C (hy st)) (mul_small (by omega))
instance (g h : HP) : Decidable (Two g h) := by unfold Two; infer_instance
def wv (R : List HP) (w : Nat → Int) : PV := .tup ((List.range R.length).map fun m => .int (w m))
theorem of_two_ev (hs : ∀ m, m < R.length → Sm (at' R m)) {j k : Nat} (jk : j < k) (hk : k < R.length) (hl : R.length ≤ 100) : M_of_two [rv R, nI j, nI k] st = .ok (if Two (at' R j) (at' R k) then wv R (w2 j k ((at' R k).1.natAbs + (at' R k).2.1.natAbs : Nat) ((at' R j).1.natAbs + (at' R j).2.1.natAbs : Nat)) else .non) st := by
  have b1 := hs j (by omega)
  have b2 := hs k hk
  have ij := fun s => row_ix (R := R) (k := j) (by omega) s
  have ik := fun s => row_ix (R := R) (k := k) hk s
  generalize eg : at' R j = g at *
  generalize eh : at' R k = h at *
  obtain ⟨g1, g2, g3⟩ := b1
  obtain ⟨h1, h2, h3⟩ := b2
  refine fnM_rt ?_
  show B_of_two [.pv (rv R), .pv (nI j), .pv (nI k), .un, .un, .un, .un, .un] st = _
  refine (seq_nx (show s_of_two_1 _ st = .nx [.pv (rv R), .pv (nI j), .pv (nI k), .pv (hp g), .pv (hp h), .un, .un, .un] st from par_ok (evs := [.pv (hp g), .pv (hp h)]) (vF_ok (ix_ok (mv_ok rfl) (mv_ok rfl) (ij st)) (vF_ok (ix_ok (mv_ok rfl) (mv_ok rfl) (ik st)) vN0)) rfl rfl)).trans ?_
  have c1 : tBin cNe (mBin pMul (mIx (mVar 3) (mC (.int 0))) (mIx (mVar 4) (mC (.int 1)))) (mBin pMul (mIx (mVar 3) (mC (.int 1))) (mIx (mVar 4) (mC (.int 0)))) [.pv (rv R), .pv (nI j), .pv (nI k), .pv (hp g), .pv (hp h), .un, .un, .un] st = .ok (!decide (g.1 * h.2.1 = g.2.1 * h.1)) st :=
    tbin_ok (mul_ev 0 1 rfl rfl (hp0 g) (hp1 h) h2) (mul_ev 1 0 rfl rfl (hp1 g) (hp0 h) h1) cNe_int
  have c2 : tBin cGt (mBin pAdd (mBin pMul (mIx (mVar 3) (mC (.int 0))) (mIx (mVar 4) (mC (.int 0)))) (mBin pMul (mIx (mVar 3) (mC (.int 1))) (mIx (mVar 4) (mC (.int 1))))) (mC (.int 0)) [.pv (rv R), .pv (nI j), .pv (nI k), .pv (hp g), .pv (hp h), .un, .un, .un] st = .ok (decide (0 < g.1 * h.1 + g.2.1 * h.2.1)) st :=
    tbin_ok (bin_ok (mul_ev 0 0 rfl rfl (hp0 g) (hp0 h) h1) (mul_ev 1 1 rfl rfl (hp1 g) (hp1 h) h2) pAdd_int) ev_C cGt_int
  by_cases q1 : g.1 * h.2.1 = g.2.1 * h.1
  · by_cases q2 : 0 < g.1 * h.1 + g.2.1 * h.2.1
    · have nT : ¬ Two g h := fun T => by have := T.2.1; unfold dt at this; omega
      rw [if_neg nT]
      refine seq_rt ((ifT_ok ?_).trans (ret_ok ev_C))
      unfold tOrM; rw [c1, ev_bindR, if_neg (by simp [q1]), c2]; simp [q2]
    · refine (seq_nx (ifF_ok (tor_ok (okc c1 (by simp [q1])) (okc c2 (by simp [q2]))))).trans ?_
      refine (seq_nx (show s_of_two_4 _ st = .nx [.pv (rv R), .pv (nI j), .pv (nI k), .pv (hp g), .pv (hp h), .pv (.int (h.1.natAbs + h.2.1.natAbs : Nat)), .pv (.int (g.1.natAbs + g.2.1.natAbs : Nat)), .un] st from asg_ok (tup_ok (a2_ok (sumabs_ev rfl) (a1_ok (sumabs_ev rfl)))) rfl)).trans ?_
      have c3 : tBin cGe (mBin pAdd (mBin pMul (mVar 5) (mIx (mVar 3) (mC (.int 2)))) (mBin pMul (mVar 6) (mIx (mVar 4) (mC (.int 2))))) (mC (.int 0)) [.pv (rv R), .pv (nI j), .pv (nI k), .pv (hp g), .pv (hp h), .pv (.int (h.1.natAbs + h.2.1.natAbs : Nat)), .pv (.int (g.1.natAbs + g.2.1.natAbs : Nat)), .un] st = .ok (decide (0 ≤ ((h.1.natAbs + h.2.1.natAbs : Nat) : Int) * g.2.2 + ((g.1.natAbs + g.2.1.natAbs : Nat) : Int) * h.2.2)) st :=
        tbin_ok (bin_ok (bin_ok (mv_ok rfl) (ix_ok (mv_ok rfl) ev_C (hp2 g st)) (mul_small (by omega))) (bin_ok (mv_ok rfl) (ix_ok (mv_ok rfl) ev_C (hp2 h st)) (mul_small (by omega))) pAdd_int) ev_C cGe_int
      by_cases q3 : 0 ≤ ((h.1.natAbs + h.2.1.natAbs : Nat) : Int) * g.2.2 + ((g.1.natAbs + g.2.1.natAbs : Nat) : Int) * h.2.2
      · have nT : ¬ Two g h := fun T => by have := T.2.2; omega
        rw [if_neg nT]
        exact seq_rt ((ifT_ok (okc c3 (decide_eq_true q3))).trans (ret_ok ev_C))
      · have T : Two g h := ⟨by unfold xx; omega, by unfold dt; omega, by omega⟩
        rw [if_pos T]
        refine (seq_nx (ifF_ok (okc c3 (decide_eq_false q3)))).trans ?_
        refine ret_ok (callB_ok (a1_ok (mComp_all (fun m : Nat => nI m) (fun m : Nat => .int (w2 j k (h.1.natAbs + h.2.1.natAbs : Nat) (g.1.natAbs + g.2.1.natAbs : Nat) m)) (List.range R.length) (rng1_ev (a1_ok (callB_ok (a1_ok (mv_ok rfl)) (by rw [lenL, List.length_map]))) (by omega)) rfl (by rw [List.length_range]; omega) fun m hm => ⟨[.pv (rv R), .pv (nI j), .pv (nI k), .pv (hp g), .pv (hp h), .pv (.int (h.1.natAbs + h.2.1.natAbs : Nat)), .pv (.int (g.1.natAbs + g.2.1.natAbs : Nat)), .pv (nI m)], rfl, ?_⟩)) rfl)
        have d1 : tBin cEq (mVar 7) (mVar 1) [.pv (rv R), .pv (nI j), .pv (nI k), .pv (hp g), .pv (hp h), .pv (.int (h.1.natAbs + h.2.1.natAbs : Nat)), .pv (.int (g.1.natAbs + g.2.1.natAbs : Nat)), .pv (nI m)] st = .ok (decide (m = j)) st := (tbin_ok (mv_ok (v := nI m) rfl) (mv_ok (v := nI j) rfl) cEq_int).trans (by rw [decide_eq_decide.mpr Int.ofNat_inj])
        have d2 : tBin cEq (mVar 7) (mVar 2) [.pv (rv R), .pv (nI j), .pv (nI k), .pv (hp g), .pv (hp h), .pv (.int (h.1.natAbs + h.2.1.natAbs : Nat)), .pv (.int (g.1.natAbs + g.2.1.natAbs : Nat)), .pv (nI m)] st = .ok (decide (m = k)) st := (tbin_ok (mv_ok (v := nI m) rfl) (mv_ok (v := nI k) rfl) cEq_int).trans (by rw [decide_eq_decide.mpr Int.ofNat_inj])
        rw [eIf_ok d1]
        unfold w2
        by_cases z1 : m = j
        · rw [if_pos z1, if_pos (by simpa using z1)]; exact mv_ok rfl
        · rw [if_neg z1, if_neg (by simpa using z1), eIf_ok d2]
          by_cases z2 : m = k
          · rw [if_pos z2, if_pos (by simpa using z2)]; exact mv_ok rfl
          · rw [if_neg z2, if_neg (by simpa using z2)]; rfl
  · have nT : ¬ Two g h := fun T => by have := T.1; unfold xx at this; omega
    rw [if_neg nT]
    refine seq_rt ((ifT_ok ?_).trans (ret_ok ev_C))
    unfold tOrM; rw [c1, ev_bindR, if_pos (by simp [q1])]
theorem abs_neg (x : Int) : pNeg (.int x) = some (.int (-x)) := rfl
instance (a b c : HP) : Decidable (Thr a b c) := by unfold Thr; infer_instance
def NN (a b c : HP) : Prop := 0 ≤ xx b c ∧ 0 ≤ xx c a ∧ 0 ≤ xx a b
instance (a b c : HP) : Decidable (NN a b c) := by unfold NN; infer_instance
theorem min3_ev (x y z : Int) : ∃ m, bMinD st [.lst [.int x, .int y, .int z]] = some (.int m) ∧ (m < 0 ↔ ¬ (0 ≤ x ∧ 0 ≤ y ∧ 0 ≤ z)) := by
  have e := Ge.minD_ints st (l := [x, y, z]) (by simp)
  have m := Ge.mnL_ok (l := [x, y, z]) (by simp)
  refine ⟨_, e, ?_⟩
  obtain ⟨m1, m2⟩ := m
  have a1 := m2 x (by simp)
  have a2 := m2 y (by simp)
  have a3 := m2 z (by simp)
  simp only [List.mem_cons, List.not_mem_nil, or_false] at m1
  omega
abbrev E3 (R : List HP) (i j k : Nat) (a b c : HP) (x y : Int) (w : EV) (m n : EV) : MEnv := [.pv (rv R), .pv (nI i), .pv (nI j), .pv (nI k), .pv (hp a), .pv (hp b), .pv (hp c), .pv (.int x), .pv (.int y), w, m, n]
def l3 (x y z : Int) : PV := .lst [.int x, .int y, .int z]
theorem tmin_ev {R : List HP} {i j k : Nat} {a b c : HP} {x y p q r : Int} {m n : EV} : tBin cLt (mCallB bMinD (aCons (mVar 9) aNil)) (mC (.int 0)) (E3 R i j k a b c x y (.pv (l3 p q r)) m n) st = .ok (decide (¬ (0 ≤ p ∧ 0 ≤ q ∧ 0 ≤ r))) st := by
  obtain ⟨v, e, h⟩ := min3_ev (st := st) p q r
  have t := tbin_ok (env := E3 R i j k a b c x y (.pv (l3 p q r)) m n) (callB_ok (a1_ok (mv_ok (i := 9) (v := l3 p q r) rfl)) e) (ev_C (v := .int 0)) cLt_int
  exact okc t (decide_eq_decide.mpr h)
theorem find3 (i j k n : Nat) (p q r : Int) (ij : i < j) (jk : j < k) : findI (n : Int) [(i : Int), (j : Int), (k : Int)] [PV.int p, .int q, .int r] = if n = i then some (.int p) else if n = j then some (.int q) else if n = k then some (.int r) else none := by
  unfold findI
  by_cases h1 : n = i
  · rw [if_pos h1, if_pos (by omega)]
  · rw [if_neg h1, if_neg (by omega)]
    unfold findI
    by_cases h2 : n = j
    · rw [if_pos h2, if_pos (by omega)]
    · rw [if_neg h2, if_neg (by omega)]
      unfold findI
      by_cases h3 : n = k
      · rw [if_pos h3, if_pos (by omega)]
      · rw [if_neg h3, if_neg (by omega)]; rfl
theorem three_end {i j k : Nat} {a b c : HP} {x y p q r : Int} {m n : EV} (ij : i < j) (jk : j < k) (hl : R.length ≤ 100) (ha : Sm a) (hb : Sm b) (hc : Sm c) (hm : noOwn [11] (E3 R i j k a b c x y (.pv (l3 p q r)) m n) = true) : ∃ st', Ext st st' ∧
    sSeq s_of_three_7 s_of_three_8 (E3 R i j k a b c x y (.pv (l3 p q r)) m n) st = .rt (if 0 ≤ p ∧ 0 ≤ q ∧ 0 ≤ r ∧ p * a.2.2 + q * b.2.2 + r * c.2.2 < 0 then wv R (w3 i j k p q r) else .non) st' := by
  have c1 := tmin_ev (st := st) (R := R) (i := i) (j := j) (k := k) (a := a) (b := b) (c := c) (x := x) (y := y) (p := p) (q := q) (r := r) (m := m) (n := n)
  have w0 : ixV st (l3 p q r) (.int 0) = some (.int p) := rfl
  have w1 : ixV st (l3 p q r) (.int 1) = some (.int q) := rfl
  have w2' : ixV st (l3 p q r) (.int 2) = some (.int r) := rfl
  have c2 : tBin cGe (mBin pAdd (mBin pAdd (mBin pMul (mIx (mVar 9) (mC (.int 0))) (mIx (mVar 4) (mC (.int 2)))) (mBin pMul (mIx (mVar 9) (mC (.int 1))) (mIx (mVar 5) (mC (.int 2))))) (mBin pMul (mIx (mVar 9) (mC (.int 2))) (mIx (mVar 6) (mC (.int 2))))) (mC (.int 0)) (E3 R i j k a b c x y (.pv (l3 p q r)) m n) st = .ok (decide (0 ≤ p * a.2.2 + q * b.2.2 + r * c.2.2)) st := by
    unfold Sm at ha hb hc
    exact tbin_ok (bin_ok (bin_ok (bin_ok (ix_ok (mv_ok rfl) ev_C w0) (ix_ok (mv_ok rfl) ev_C (hp2 a st)) (mul_small (by omega))) (bin_ok (ix_ok (mv_ok rfl) ev_C w1) (ix_ok (mv_ok rfl) ev_C (hp2 b st)) (mul_small (by omega))) pAdd_int) (bin_ok (ix_ok (mv_ok rfl) ev_C w2') (ix_ok (mv_ok rfl) ev_C (hp2 c st)) (mul_small (by omega))) pAdd_int) ev_C cGe_int
  by_cases q1 : 0 ≤ p ∧ 0 ≤ q ∧ 0 ≤ r
  · by_cases q2 : 0 ≤ p * a.2.2 + q * b.2.2 + r * c.2.2
    · rw [if_neg (by omega)]
      refine ⟨st, Ext.rfl' st, seq_rt ((ifT_ok ?_).trans (ret_ok ev_C))⟩
      unfold tOrM
      rw [c1, ev_bindR, if_neg (by simp; exact q1), c2, decide_eq_true q2]
    · rw [if_pos (by omega)]
      have K := mComp_st (mi := iRng1M (aCons (mCallB bLen (aCons (mVar 0) aNil)) aNil)) (gt := gNm 11) (me := mGetID (mDzip (aCons (mTup (aCons (mVar 1) (aCons (mVar 2) (aCons (mVar 3) aNil)))) (aCons (mVar 9) aNil))) (mVar 11) (mC (.int 0))) (vs := [11]) (env := E3 R i j k a b c x y (.pv (l3 p q r)) m n) (st := st) (fun m : Nat => nI m) (fun m : Nat => .int (w3 i j k p q r m)) (Ext st) (List.range R.length) (rng1_ev (a1_ok (callB_ok (a1_ok (mv_ok (v := rv R) rfl)) (by rw [lenL, List.length_map]))) (by omega)) hm (by rw [List.length_range]; omega) (Ext.rfl' st) fun t ht s es => by
        refine ⟨E3 R i j k a b c x y (.pv (l3 p q r)) m (.pv (nI t)), s ++ [.dci [(i : Int), (j : Int), (k : Int)] [.int p, .int q, .int r]], rfl, ?_, es.trans ⟨[.dci [(i : Int), (j : Int), (k : Int)] [.int p, .int q, .int r]], rfl, by simp [okO, noLs, noL]⟩⟩
        have nd : ([(i : Int), (j : Int), (k : Int)] : List Int).Nodup := by simp; omega
        have dz : mDzip (aCons (mTup (aCons (mVar 1) (aCons (mVar 2) (aCons (mVar 3) aNil)))) (aCons (mVar 9) aNil)) (E3 R i j k a b c x y (.pv (l3 p q r)) m (.pv (nI t))) s = .ok (.ref s.length) (s ++ [.dci [(i : Int), (j : Int), (k : Int)] [.int p, .int q, .int r]]) := by
          unfold mDzip
          rw [a2_ok (tup_ok (vs := [nI i, nI j, nI k]) (a2_ok (mv_ok rfl) (a2_ok (mv_ok rfl) (a1_ok (mv_ok rfl))))) (a1_ok (mv_ok (v := l3 p q r) rfl)), ev_bindR]
          show (if (decide ([(i : Int), (j : Int), (k : Int)] : List Int).Nodup && decide (([(i : Int), (j : Int), (k : Int)] : List Int).length = ([PV.int p, .int q, .int r] : List PV).length) && decide (([(i : Int), (j : Int), (k : Int)] : List Int).length ≤ 1000)) = true then (MRes.ok (PV.ref s.length) (s ++ [.dci [(i : Int), (j : Int), (k : Int)] [.int p, .int q, .int r]]) : MRes PV) else .bad) = _
          rw [if_pos (by rw [decide_eq_true nd]; simp)]
        unfold mGetID
        rw [dz, ev_bindR]
        dsimp only
        rw [List.getElem?_append_right (Nat.le_refl _), Nat.sub_self]
        dsimp only [List.getElem?_cons_zero]
        rw [mv_ok (v := nI t) rfl, ev_bindR, ev_C, ev_bindR]
        dsimp only [nI]
        rw [List.getElem?_append_right (Nat.le_refl _), Nat.sub_self]
        dsimp only [List.getElem?_cons_zero]
        rw [find3 i j k t p q r ij jk]
        unfold w3
        by_cases z1 : t = i
        · rw [if_pos z1, if_pos z1]; rfl
        · rw [if_neg z1, if_neg z1]
          by_cases z2 : t = j
          · rw [if_pos z2, if_pos z2]; rfl
          · rw [if_neg z2, if_neg z2]
            by_cases z3 : t = k
            · rw [if_pos z3, if_pos z3]; rfl
            · rw [if_neg z3, if_neg z3]; rfl
      obtain ⟨st', e, es⟩ := K
      refine ⟨st', es, (seq_nx (ifF_ok (tor_ok (okc c1 (by simp; exact q1)) (okc c2 (decide_eq_false q2))))).trans (ret_ok (callB_ok (a1_ok e) rfl))⟩
  · rw [if_neg (fun z => q1 ⟨z.1, z.2.1, z.2.2.1⟩)]
    refine ⟨st, Ext.rfl' st, seq_rt ((ifT_ok ?_).trans (ret_ok ev_C))⟩
    unfold tOrM
    rw [c1, ev_bindR, if_pos (decide_eq_true q1)]
end
end K17
end
section
set_option maxRecDepth 100000
set_option maxHeartbeats 1000000
namespace K17
open PySem L2 Mp Pg
theorem forL_or2 {α : Type} {gt : PV → MEnv → Option MEnv} {body : SM} {ks : List Nat} (f : α → PV) (Pd : List α → MEnv → Sto → Prop) (R : PV → Sto → Prop) :
    ∀ (xs : List α) (env : MEnv) (st : Sto), Pd xs env st → (∀ a r env st, a ∈ xs → Pd (a :: r) env st → (∃ e1 v st', gt (f a) env = some e1 ∧ body e1 st = .rt v st' ∧ R v st') ∨ ∃ e1 e st', gt (f a) env = some e1 ∧ (body e1 st = .nx e st' ∨ body e1 st = .ct e st') ∧ Pd r (killE ks e) st') →
    (∃ v st', forL gt body ks (xs.map f) env st = .rt v st' ∧ R v st') ∨ ∃ e st', forL gt body ks (xs.map f) env st = .nx e st' ∧ Pd [] e st'
  | [], env, st, h, _ => .inr ⟨env, st, rfl, h⟩
  | x :: xs, env, st, h, hs => by
    rcases hs x xs env st List.mem_cons_self h with ⟨e1, v, st', h1, h2, h3⟩ | ⟨e1, e, st', h1, h2, h3⟩
    · refine .inl ⟨v, st', ?_, h3⟩
      simp only [List.map_cons, forL, h1, h2]
    · have q : forL gt body ks ((x :: xs).map f) env st = forL gt body ks (xs.map f) (killE ks e) st' := by
        rcases h2 with h2 | h2 <;> simp only [List.map_cons, forL, h1, h2]
      rcases forL_or2 f Pd R xs _ _ h3 (fun a r env st ha => hs a r env st (List.mem_cons_of_mem _ ha)) with ⟨v, st2, h4, h5⟩ | ⟨e', st2, h4, h5⟩
      · exact .inl ⟨v, st2, q.trans h4, h5⟩
      · exact .inr ⟨e', st2, q.trans h4, h5⟩
theorem rng_or {gt : PV → MEnv → Option MEnv} {body : SM} {ks : List Nat} (Q : Nat → Prop) (env : MEnv) (st : Sto) (Rt : PV → Sto → Prop) (n : Nat) (h : ∀ k s, k < n → Ext st s → (∃ e1 v s', gt (nI k) env = some e1 ∧ body e1 s = .rt v s' ∧ Ext s s' ∧ Rt v s') ∨ ∃ e1 e s', gt (nI k) env = some e1 ∧ body e1 s = .nx e s' ∧ killE ks e = env ∧ Ext s s' ∧ Q k) :
    (∃ v s', forL gt body ks ((List.range n).map fun (k : Nat) => .int (k : Int)) env st = .rt v s' ∧ Ext st s' ∧ Rt v s') ∨ ∃ s', forL gt body ks ((List.range n).map fun (k : Nat) => .int (k : Int)) env st = .nx env s' ∧ Ext st s' ∧ ∀ k, k < n → Q k := by
  rcases forL_or2 (gt := gt) (body := body) (ks := ks) nI (fun r e s => e = env ∧ Ext st s ∧ ∃ m, m ≤ n ∧ r = List.range' m (n - m) ∧ ∀ k, k < m → Q k) (fun v s => Ext st s ∧ Rt v s) (List.range n) env st ⟨rfl, Ext.rfl' st, 0, by omega, by rw [List.range_eq_range']; rfl, fun k hk => absurd hk (Nat.not_lt_zero k)⟩ (by
    rintro a r e s ha ⟨rfl, es, m, hm, hr, hq⟩
    have lt : m < n := by
      rcases Nat.lt_or_ge m n with z | z
      · exact z
      · rw [show n - m = 0 by omega] at hr; cases hr
    rw [show n - m = (n - (m + 1)) + 1 by omega, List.range'_succ] at hr
    injection hr with h1 h2
    subst h1; subst h2
    rcases h a s lt es with ⟨e1, v, s', g1, g2, g3, g4⟩ | ⟨e1, e2, s', g1, g2, g3, g4, g5⟩
    · exact .inl ⟨e1, v, s', g1, g2, es.trans g3, g4⟩
    · refine .inr ⟨e1, e2, s', g1, .inl g2, g3, es.trans g4, a + 1, by omega, rfl, fun k hk => ?_⟩
      rcases Nat.lt_or_ge k a with z | z
      · exact hq k z
      · rw [show k = a by omega]; exact g5) with ⟨v, s', g1, g2, g3⟩ | ⟨e, s', g1, rfl, g2, m, hm, hr, hq⟩
  · exact .inl ⟨v, s', g1, g2, g3⟩
  · refine .inr ⟨s', g1, g2, fun k hk => hq k ?_⟩
    have : n - m = 0 := by
      have := congrArg List.length hr
      simpa using this.symm
    omega
section
variable {st : Sto} {R : List HP}
theorem xx_ev {i j : Nat} {env : MEnv} {g h : HP} (hi : env[i]? = some (.pv (hp g))) (hj : env[j]? = some (.pv (hp h))) (hh : Sm h) : mBin pSub (mBin pMul (mIx (mVar i) (mC (.int 0))) (mIx (mVar j) (mC (.int 1)))) (mBin pMul (mIx (mVar i) (mC (.int 1))) (mIx (mVar j) (mC (.int 0)))) env st = .ok (.int (xx g h)) st :=
  bin_ok (mul_ev 0 1 hi hj (hp0 g) (hp1 h) hh.2.1) (mul_ev 1 0 hi hj (hp1 g) (hp0 h) hh.1) pSub_int
theorem of_three_ev (hs : ∀ m, m < R.length → Sm (at' R m)) {i j k : Nat} (ij : i < j) (jk : j < k) (hk : k < R.length) (hl : R.length ≤ 100) : ∃ st', Ext st st' ∧
    ((M_of_three [rv R, nI i, nI j, nI k] st = .ok .non st' ∧ ¬ Thr (at' R i) (at' R j) (at' R k)) ∨ ∃ w, Wk R w ∧ M_of_three [rv R, nI i, nI j, nI k] st = .ok (wv R w) st') := by
  have ba := hs i (by omega)
  have bb := hs j (by omega)
  have bc := hs k hk
  have ia := fun s => row_ix (R := R) (k := i) (by omega) s
  have ib := fun s => row_ix (R := R) (k := j) (by omega) s
  have ic := fun s => row_ix (R := R) (k := k) hk s
  have W := fun s hse p1 p2 p3 ng => wk3 (R := R) (s := s) hs ij jk hk hse p1 p2 p3 ng
  generalize at' R i = a at *
  generalize at' R j = b at *
  generalize at' R k = c at *
  have e1 : s_of_three_1 [.pv (rv R), .pv (nI i), .pv (nI j), .pv (nI k), .un, .un, .un, .un, .un, .un, .un, .un] st = .nx [.pv (rv R), .pv (nI i), .pv (nI j), .pv (nI k), .pv (hp a), .pv (hp b), .pv (hp c), .un, .un, .un, .un, .un] st :=
    par_ok (evs := [.pv (hp a), .pv (hp b), .pv (hp c)]) (vF_ok (ix_ok (mv_ok rfl) (mv_ok rfl) (ia st)) (vF_ok (ix_ok (mv_ok rfl) (mv_ok rfl) (ib st)) (vF_ok (ix_ok (mv_ok rfl) (mv_ok rfl) (ic st)) vN0))) rfl rfl
  have e2 : s_of_three_2 [.pv (rv R), .pv (nI i), .pv (nI j), .pv (nI k), .pv (hp a), .pv (hp b), .pv (hp c), .un, .un, .un, .un, .un] st = .nx (E3 R i j k a b c (xx b c) (xx c a) .un .un .un) st :=
    par_ok (evs := [.pv (.int (xx b c)), .pv (.int (xx c a))]) (vF_ok (xx_ev rfl rfl bc) (vF_ok (xx_ev rfl rfl ba) vN0)) rfl rfl
  have e3 : s_of_three_3 (E3 R i j k a b c (xx b c) (xx c a) .un .un .un) st = .nx (E3 R i j k a b c (xx b c) (xx c a) (.pv (l3 (xx b c) (xx c a) (xx a b))) .un .un) st :=
    set_ok (lst_ok (a2_ok (mv_ok rfl) (a2_ok (mv_ok rfl) (a1_ok (xx_ev rfl rfl bb)))))
  have pre : ∀ r, sSeq s_of_three_5 (sSeq s_of_three_7 s_of_three_8) (E3 R i j k a b c (xx b c) (xx c a) (.pv (l3 (xx b c) (xx c a) (xx a b))) .un .un) st = r → B_of_three [.pv (rv R), .pv (nI i), .pv (nI j), .pv (nI k), .un, .un, .un, .un, .un, .un, .un, .un] st = r := fun r h => by
    rw [B_of_three, seq_nx e1, seq_nx e2, seq_nx e3, h]
  have fin : ∀ {v st'}, sSeq s_of_three_5 (sSeq s_of_three_7 s_of_three_8) (E3 R i j k a b c (xx b c) (xx c a) (.pv (l3 (xx b c) (xx c a) (xx a b))) .un .un) st = .rt v st' → M_of_three [rv R, nI i, nI j, nI k] st = .ok v st' := fun h => fnM_rt (pre _ h)
  have c1 := tmin_ev (st := st) (R := R) (i := i) (j := j) (k := k) (a := a) (b := b) (c := c) (x := xx b c) (y := xx c a) (p := xx b c) (q := xx c a) (r := xx a b) (m := .un) (n := .un)
  by_cases q : 0 ≤ xx b c ∧ 0 ≤ xx c a ∧ 0 ≤ xx a b
  · obtain ⟨st', es, e⟩ := three_end (st := st) (R := R) (i := i) (j := j) (k := k) (a := a) (b := b) (c := c) (x := xx b c) (y := xx c a) (p := xx b c) (q := xx c a) (r := xx a b) (m := .un) (n := .un) ij jk hl ba bb bc rfl
    refine ⟨st', es, ?_⟩
    have e5 : s_of_three_5 (E3 R i j k a b c (xx b c) (xx c a) (.pv (l3 (xx b c) (xx c a) (xx a b))) .un .un) st = .nx _ st := ifF_ok (okc c1 (decide_eq_false (fun z => z q)))
    have f := fin ((seq_nx e5).trans e)
    by_cases z : 0 ≤ xx b c ∧ 0 ≤ xx c a ∧ 0 ≤ xx a b ∧ xx b c * a.2.2 + xx c a * b.2.2 + xx a b * c.2.2 < 0
    · rw [if_pos z] at f
      refine .inr ⟨_, ?_, f⟩
      have := W 1 (.inl rfl) (by omega) (by omega) (by omega) (by simp only [Int.one_mul]; exact z.2.2.2)
      simpa only [Int.one_mul] using this
    · rw [if_neg z] at f
      refine .inl ⟨f, fun T => ?_⟩
      rcases T with T | ⟨t1, t2, t3, t4⟩
      · exact z T
      · have z1 : xx b c = 0 := by omega
        have z2 : xx c a = 0 := by omega
        have z3 : xx a b = 0 := by omega
        rw [z1, z2, z3] at t4
        omega
  · have e5 : s_of_three_5 (E3 R i j k a b c (xx b c) (xx c a) (.pv (l3 (xx b c) (xx c a) (xx a b))) .un .un) st = .nx (E3 R i j k a b c (xx b c) (xx c a) (.pv (l3 (-xx b c) (-xx c a) (-xx a b))) .un .un) st := by
      refine (ifT_ok (okc c1 (decide_eq_true q))).trans (set_ok (v := l3 (-xx b c) (-xx c a) (-xx a b)) ?_)
      exact mComp_all (fun x : Int => .int x) (fun x : Int => .int (-x)) [xx b c, xx c a, xx a b] (seq_ev (mv_ok (v := l3 (xx b c) (xx c a) (xx a b)) rfl)) rfl (by simp) fun x hx => ⟨E3 R i j k a b c (xx b c) (xx c a) (.pv (l3 (xx b c) (xx c a) (xx a b))) (.pv (.int x)) .un, rfl, un_ok (mv_ok rfl) (abs_neg x)⟩
    obtain ⟨st', es, e⟩ := three_end (st := st) (R := R) (i := i) (j := j) (k := k) (a := a) (b := b) (c := c) (x := xx b c) (y := xx c a) (p := -xx b c) (q := -xx c a) (r := -xx a b) (m := .un) (n := .un) ij jk hl ba bb bc rfl
    refine ⟨st', es, ?_⟩
    have f := fin ((seq_nx e5).trans e)
    by_cases z : 0 ≤ -xx b c ∧ 0 ≤ -xx c a ∧ 0 ≤ -xx a b ∧ -xx b c * a.2.2 + -xx c a * b.2.2 + -xx a b * c.2.2 < 0
    · rw [if_pos z] at f
      refine .inr ⟨_, ?_, f⟩
      have := W (-1) (.inr rfl) (by omega) (by omega) (by omega) (by simp only [Int.neg_mul, Int.one_mul]; simp only [Int.neg_mul] at z; exact z.2.2.2)
      simpa only [Int.neg_mul, Int.one_mul] using this
    · rw [if_neg z] at f
      refine .inl ⟨f, fun T => ?_⟩
      rcases T with ⟨t1, t2, t3, t4⟩ | ⟨t1, t2, t3, t4⟩
      · exact q ⟨t1, t2, t3⟩
      · exact z ⟨by omega, by omega, by omega, by simp only [Int.neg_mul]; omega⟩
theorem HB.sm {h : HP} (H : HB h) : Sm h := ⟨H.a, H.b, H.c⟩
theorem ref_ev (H : ∀ g ∈ R, HB g) (hl : R.length ≤ 100) : ∃ st', Ext st st' ∧
    ((M_refutation [rv R] st = .ok .non st' ∧ ¬ Rf R.reverse) ∨ ∃ w, Wk R w ∧ M_refutation [rv R] st = .ok (wv R w) st') := by
  have hs : ∀ m, m < R.length → Sm (at' R m) := fun m hm => (H _ (at_mem hm)).sm
  have non : ∀ w, cNotN (wv R w) .non = some (.bl true) := fun _ => rfl
  have e1 : s_refutation_1 [.pv (rv R), .un, .un, .un, .un] st = .nx [.pv (rv R), .un, .un, .un, .un] st := expr_ok (call_ok (a1_ok (mv_ok rfl)) (check_ev H))
  have rl : ∀ s, iRng1M (aCons (mCallB bLen (aCons (mVar 0) aNil)) aNil) [.pv (rv R), .un, .un, .un, .un] s = .ok ((List.range R.length).map fun (k : Nat) => .int (k : Int)) s := fun s => rng1_ev (a1_ok (callB_ok (a1_ok (mv_ok (v := rv R) rfl)) (by rw [lenL, List.length_map]))) (by omega)
  -- pairs
  have L1 := rng_or (gt := gNm 1) (body := s_refutation_5) (ks := [1, 2, 3]) (fun k => ∀ j, j < k → ¬ Two (at' R j) (at' R k)) [.pv (rv R), .un, .un, .un, .un] st (fun v s => ∃ w, Wk R w ∧ v = wv R w) R.length fun k s hk es => by
    have L2 := rng_or (gt := gNm 2) (body := sSeq s_refutation_2 s_refutation_4) (ks := [2, 3]) (fun j => ¬ Two (at' R j) (at' R k)) [.pv (rv R), .pv (nI k), .un, .un, .un] s (fun v s => ∃ w, Wk R w ∧ v = wv R w) k fun j s2 hj es2 => by
      have e := of_two_ev (st := s2) hs hj hk hl
      have c2 : s_refutation_2 [.pv (rv R), .pv (nI k), .pv (nI j), .un, .un] s2 = .nx [.pv (rv R), .pv (nI k), .pv (nI j), .pv _, .un] s2 := set_ok (call_ok (a2_ok (mv_ok rfl) (a2_ok (mv_ok rfl) (a1_ok (mv_ok rfl)))) e)
      by_cases T : Two (at' R j) (at' R k)
      · rw [if_pos T] at c2
        refine .inl ⟨_, _, s2, rfl, (seq_nx c2).trans ((ifT_ok (tbin_ok (mv_ok rfl) ev_C (non _))).trans (ret_ok (mv_ok rfl))), Ext.rfl' _, _, wk2 hs hj hk T, rfl⟩
      · rw [if_neg T] at c2
        exact .inr ⟨_, _, s2, rfl, (seq_nx c2).trans (ifF_ok (tbin_ok (mv_ok (v := .non) rfl) ev_C rfl)), rfl, Ext.rfl' _, T⟩
    have rk : iRng1M (aCons (mVar 1) aNil) [.pv (rv R), .pv (nI k), .un, .un, .un] s = .ok ((List.range k).map fun (k : Nat) => .int (k : Int)) s := rng1_ev (a1_ok (mv_ok (v := nI k) rfl)) (by omega)
    rcases L2 with ⟨v, s', g1, g2, g3⟩ | ⟨s', g1, g2, g3⟩
    · exact .inl ⟨_, v, s', rfl, (for_ev rk).trans g1, g2, g3⟩
    · exact .inr ⟨_, _, s', rfl, (for_ev rk).trans g1, rfl, g2, g3⟩
  rcases L1 with ⟨v, s', g1, g2, w, g3, rfl⟩ | ⟨s1, g1, g2, g3⟩
  · refine ⟨s', g2, .inr ⟨w, g3, fnM_rt ?_⟩⟩
    show B_refutation [.pv (rv R), .un, .un, .un, .un] st = _
    rw [B_refutation, seq_nx e1]
    exact seq_rt ((for_ev (rl st)).trans g1)
  have L3 := rng_or (gt := gNm 1) (body := s_refutation_9) (ks := [1, 2, 3, 4]) (fun k => ∀ j, j < k → ∀ i, i < j → ¬ Thr (at' R i) (at' R j) (at' R k)) [.pv (rv R), .un, .un, .un, .un] s1 (fun v s => ∃ w, Wk R w ∧ v = wv R w) R.length fun k s hk es => by
    have L2 := rng_or (gt := gNm 2) (body := s_refutation_8) (ks := [2, 3, 4]) (fun j => ∀ i, i < j → ¬ Thr (at' R i) (at' R j) (at' R k)) [.pv (rv R), .pv (nI k), .un, .un, .un] s (fun v s => ∃ w, Wk R w ∧ v = wv R w) k fun j s2 hj es2 => by
      have L4 := rng_or (gt := gNm 4) (body := sSeq s_refutation_7 s_refutation_4) (ks := [3, 4]) (fun i => ¬ Thr (at' R i) (at' R j) (at' R k)) [.pv (rv R), .pv (nI k), .pv (nI j), .un, .un] s2 (fun v s => ∃ w, Wk R w ∧ v = wv R w) j fun i s3 hi es3 => by
        obtain ⟨s4, es4, ⟨e, nT⟩ | ⟨w, K, e⟩⟩ := of_three_ev (st := s3) hs hi hj hk hl
        · have c2 : s_refutation_7 [.pv (rv R), .pv (nI k), .pv (nI j), .un, .pv (nI i)] s3 = .nx [.pv (rv R), .pv (nI k), .pv (nI j), .pv .non, .pv (nI i)] s4 := set_ok (call_ok (a2_ok (mv_ok rfl) (a2_ok (mv_ok rfl) (a2_ok (mv_ok rfl) (a1_ok (mv_ok rfl))))) e)
          exact .inr ⟨_, _, s4, rfl, (seq_nx c2).trans (ifF_ok (tbin_ok (mv_ok (v := .non) rfl) ev_C rfl)), rfl, es4, nT⟩
        · have c2 : s_refutation_7 [.pv (rv R), .pv (nI k), .pv (nI j), .un, .pv (nI i)] s3 = .nx [.pv (rv R), .pv (nI k), .pv (nI j), .pv (wv R w), .pv (nI i)] s4 := set_ok (call_ok (a2_ok (mv_ok rfl) (a2_ok (mv_ok rfl) (a2_ok (mv_ok rfl) (a1_ok (mv_ok rfl))))) e)
          exact .inl ⟨_, _, s4, rfl, (seq_nx c2).trans ((ifT_ok (tbin_ok (mv_ok rfl) ev_C (non _))).trans (ret_ok (mv_ok rfl))), es4, w, K, rfl⟩
      have rk : iRng1M (aCons (mVar 2) aNil) [.pv (rv R), .pv (nI k), .pv (nI j), .un, .un] s2 = .ok ((List.range j).map fun (k : Nat) => .int (k : Int)) s2 := rng1_ev (a1_ok (mv_ok (v := nI j) rfl)) (by omega)
      rcases L4 with ⟨v, s', g1, g2, g3⟩ | ⟨s', g1, g2, g3⟩
      · exact .inl ⟨_, v, s', rfl, (for_ev rk).trans g1, g2, g3⟩
      · exact .inr ⟨_, _, s', rfl, (for_ev rk).trans g1, rfl, g2, g3⟩
    have rk : iRng1M (aCons (mVar 1) aNil) [.pv (rv R), .pv (nI k), .un, .un, .un] s = .ok ((List.range k).map fun (k : Nat) => .int (k : Int)) s := rng1_ev (a1_ok (mv_ok (v := nI k) rfl)) (by omega)
    rcases L2 with ⟨v, s', g1, g2, g3⟩ | ⟨s', g1, g2, g3⟩
    · exact .inl ⟨_, v, s', rfl, (for_ev rk).trans g1, g2, g3⟩
    · exact .inr ⟨_, _, s', rfl, (for_ev rk).trans g1, rfl, g2, g3⟩
  have pre : s_refutation_6 [.pv (rv R), .un, .un, .un, .un] st = .nx [.pv (rv R), .un, .un, .un, .un] s1 := (for_ev (rl st)).trans g1
  rcases L3 with ⟨v, s', k1, k2, w, k3, rfl⟩ | ⟨s2, k1, k2, k3⟩
  · refine ⟨s', g2.trans k2, .inr ⟨w, k3, fnM_rt ?_⟩⟩
    show B_refutation [.pv (rv R), .un, .un, .un, .un] st = _
    rw [B_refutation, seq_nx e1, seq_nx pre]
    exact seq_rt ((for_ev (rl s1)).trans k1)
  · refine ⟨s2, g2.trans k2, .inl ⟨fnM_rt ?_, fun F => ?_⟩⟩
    · show B_refutation [.pv (rv R), .un, .un, .un, .un] st = _
      have pre2 : s_refutation_10 [.pv (rv R), .un, .un, .un, .un] s1 = .nx [.pv (rv R), .un, .un, .un, .un] s2 := (for_ev (rl s1)).trans k1
      rw [B_refutation, seq_nx e1, seq_nx pre, seq_nx pre2]
      exact ret_ok ev_C
    · have := rf_ix F
      rw [List.reverse_reverse, List.length_reverse] at this
      rcases this with ⟨j, k, h1, h2, T⟩ | ⟨i, j, k, h1, h2, h3, T⟩
      · exact g3 k h2 j h1 T
      · exact k3 k h3 j h2 i h1 T
end
end K17
end
section
set_option maxRecDepth 100000
set_option maxHeartbeats 1000000
namespace K17
open PySem L2 Mp Pg
theorem sz_div' {o u : Int} (ho : o.natAbs < 1024) (hu : u.natAbs < 1024) : sz ((o : Rat) / (u : Rat)) ≤ 10 := by
  rw [← Rat.divInt_eq_div]
  have := sz_divInt o u
  have := bt_le (k := 10) ho (by decide)
  have := bt_le (k := 10) hu (by decide)
  omega
section
variable {st : Sto} {R : List HP} {g h : HP} {q : Q2}
theorem HB.xx (H : HB g) (H' : HB h) : (Pg.xx g h).natAbs ≤ 800 := xx_b H.sm H'.sm
theorem corn_pb (H : HB g) (H' : HB h) : PB 10 (corn g h) := by
  have := HB.xx H H'
  have a1 := mul_b H.c H'.b
  have a2 := mul_b H.b H'.c
  have a3 := mul_b H.a H'.c
  have a4 := mul_b H.c H'.a
  exact ⟨sz_div' (by omega) (by omega), sz_div' (by omega) (by omega)⟩
theorem foot_pb (H : HB h) : PB 10 (foot h) := by
  have a1 := mul_b H.a H.c
  have a2 := mul_b H.b H.c
  have a3 := mul_b H.a H.a
  have a4 := mul_b H.b H.b
  exact ⟨sz_div' (by omega) (by omega), sz_div' (by omega) (by omega)⟩
theorem cand_pb : ∀ {R : List HP}, (∀ g ∈ R, HB g) → ∀ q ∈ cand R, PB 10 q
  | [], _, q, hq => by
    simp only [cand, List.mem_singleton] at hq
    subst hq
    exact ⟨by decide, by decide⟩
  | h :: R, H, q, hq => by
    simp only [cand, List.mem_append, List.mem_cons, List.mem_map, List.mem_filter, List.mem_reverse] at hq
    rcases hq with q1 | rfl | ⟨g, ⟨hg, _⟩, rfl⟩
    · exact cand_pb (fun g hg => H g (List.mem_cons_of_mem _ hg)) q q1
    · exact foot_pb (H h List.mem_cons_self)
    · exact corn_pb (H h List.mem_cons_self) (H g (List.mem_cons_of_mem _ hg))
theorem cand_len : ∀ (R : List HP) (N : Nat), R.length ≤ N → (cand R).length ≤ 1 + R.length * (N + 1)
  | [], _, _ => by simp [cand]
  | h :: R, N, hl => by
    rw [List.length_cons] at hl
    have ih := cand_len R N (by omega)
    have f := List.length_filter_le (fun g => decide (Pg.xx h g ≠ 0)) R.reverse
    rw [List.length_reverse] at f
    simp only [cand, List.length_append, List.length_cons, List.length_map]
    rw [Nat.add_mul, Nat.one_mul]
    omega
theorem corner_ev (H : HB g) (H' : HB h) : M_corner_of [hp g, hp h] st = .ok (if Pg.xx g h = 0 then .non else pq (corn g h)) st := by
  have X := HB.xx H H'
  refine fnM_rt ?_
  show B_corner_of [.pv (hp g), .pv (hp h), .un] st = _
  refine (seq_nx (show s_corner_of_1 [.pv (hp g), .pv (hp h), .un] st = .nx [.pv (hp g), .pv (hp h), .pv (.int (Pg.xx g h))] st from set_ok (xx_ev rfl rfl H'.sm))).trans ?_
  have c : tBin cEq (mVar 2) (mC (.int 0)) [.pv (hp g), .pv (hp h), .pv (.int (Pg.xx g h))] st = .ok (decide (Pg.xx g h = 0)) st := tbin_ok (mv_ok rfl) ev_C cEq_int
  by_cases z : Pg.xx g h = 0
  · rw [if_pos z]
    exact seq_rt ((ifT_ok (okc c (decide_eq_true z))).trans (ret_ok ev_C))
  · rw [if_neg z]
    refine (seq_nx (ifF_ok (okc c (decide_eq_false z)))).trans ?_
    exact ret_ok (tup_ok (a2_ok (call_ok (a2_ok (bin_ok (mul_ev 2 1 rfl rfl (hp2 g) (hp1 h) H'.b) (mul_ev 1 2 rfl rfl (hp1 g) (hp2 h) H'.c) pSub_int) (a1_ok (mv_ok rfl))) (part_small z (by omega))) (a1_ok (call_ok (a2_ok (bin_ok (mul_ev 0 2 rfl rfl (hp0 g) (hp2 h) H'.c) (mul_ev 2 0 rfl rfl (hp2 g) (hp0 h) H'.a) pSub_int) (a1_ok (mv_ok rfl))) (part_small z (by omega))))))
theorem cNot_pq (q : Q2) : cNotN (pq q) .non = some (.bl true) := rfl
abbrev tE (R D : List HP) (a b c d e f x : EV) : MEnv := [.pv (rv R), .own (.lst ((cand D.reverse).map pq)), a, b, c, d, e, f, x]
theorem tried_ev (H : ∀ g ∈ R, HB g) (hl : R.length ≤ 100) : M_tried [rv R] st = .ok (.lst ((cand R.reverse).map pq)) st := by
  refine fnM_rt ?_
  show B_tried [.pv (rv R), .un, .un, .un, .un, .un, .un, .un, .un] st = _
  refine (seq_nx (show s_tried_1 [.pv (rv R), .un, .un, .un, .un, .un, .un, .un, .un] st = .nx (tE R [] .un .un .un .un .un .un .un) st from setO_ok (lst_ok (vs := [pq (0, 0)]) (a1_ok (tup_ok (a2_ok (tup_ok (a2_ok ev_C (a1_ok ev_C))) (a1_ok (tup_ok (a2_ok ev_C (a1_ok ev_C)))))))))).trans ?_
  have en : iEnumM (aCons (mVar 0) aNil) (tE R [] .un .un .un .un .un .un .un) st = .ok ((R.zipIdx 0).map fun p => .tup [.int (p.2 : Nat), hp p.1]) st := by
    unfold iEnumM
    rw [a1_ok (mv_ok (v := rv R) rfl), ev_bindR]
    dsimp only
    rw [enumP_map]
  have L := forL_ex (gt := gTp 2 (gConsM (gNm 2) (gConsM (gNm 3) gNilM))) (body := sSeq s_tried_2 (sSeq s_tried_3 (sSeq s_tried_4 s_tried_5))) (ks := [2, 3, 4, 5, 6, 7]) (fun p : HP × Nat => .tup [.int (p.2 : Nat), hp p.1]) (fun r e s => s = st ∧ ∃ D rest, R = D ++ rest ∧ r = rest.zipIdx D.length ∧ e = tE R D .un .un .un .un .un .un .un) (R.zipIdx 0) (tE R [] .un .un .un .un .un .un .un) st ⟨rfl, [], R, rfl, rfl, rfl⟩ (by
    rintro ⟨h, k⟩ r e s ha ⟨rfl, D, rest, eR, er, rfl⟩
    cases rest with
    | nil => simp at er
    | cons x rest =>
    rw [List.zipIdx_cons] at er
    injection er with e1 e2
    injection e1 with e1 e3
    subst e1; subst e3
    have Hh : HB h := H h (by rw [eR]; simp)
    have HD : ∀ g ∈ D, HB g := fun g hg => H g (by rw [eR]; exact List.mem_append_left _ hg)
    have DL : D.length < R.length := by rw [eR]; simp
    have cl := cand_len D.reverse 100 (by rw [List.length_reverse]; omega)
    rw [List.length_reverse] at cl
    have cl : (cand D.reverse).length ≤ 20000 := by
      have := Nat.mul_le_mul (show D.length ≤ 100 by omega) (Nat.le_refl (100 + 1))
      omega
    have nz := nn_pos Hh.nz
    have ha' : -1000000 < h.1 ∧ h.1 < 1000000 := by have := Hh.a; omega
    have hb' : -1000000 < h.2.1 ∧ h.2.1 < 1000000 := by have := Hh.b; omega
    have hc' : -1000000 < h.2.2 ∧ h.2.2 < 1000000 := by have := Hh.c; omega
    have a3 := mul_b Hh.a Hh.a
    have a4 := mul_b Hh.b Hh.b
    refine ⟨tE R D (.pv (nI D.length)) (.pv (hp h)) .un .un .un .un .un, [.pv (rv R), .own (.lst ((cand (D ++ [h]).reverse).map pq)), .pv (nI D.length), .pv (hp h), .pv (.int h.1), .pv (.int h.2.1), .pv (.int h.2.2), .pv (.int (h.1 * h.1 + h.2.1 * h.2.1)), .un], s, rfl, ?_, rfl, D ++ [h], rest, by rw [eR]; simp, ?_, rfl⟩
    · refine (seq_nx (show s_tried_2 _ s = .nx (tE R D (.pv (nI D.length)) (.pv (hp h)) (.pv (.int h.1)) (.pv (.int h.2.1)) (.pv (.int h.2.2)) .un .un) s from asg_ok (mv_ok rfl) rfl)).trans ?_
      refine (seq_nx (show s_tried_3 (tE R D (.pv (nI D.length)) (.pv (hp h)) (.pv (.int h.1)) (.pv (.int h.2.1)) (.pv (.int h.2.2)) .un .un) s = .nx (tE R D (.pv (nI D.length)) (.pv (hp h)) (.pv (.int h.1)) (.pv (.int h.2.1)) (.pv (.int h.2.2)) (.pv (.int (h.1 * h.1 + h.2.1 * h.2.1))) .un) s from set_ok (bin_ok (bin_ok (mv_ok rfl) (mv_ok rfl) (mul_small ha')) (bin_ok (mv_ok rfl) (mv_ok rfl) (mul_small hb')) pAdd_int))).trans ?_
      refine (seq_nx (show s_tried_4 (tE R D (.pv (nI D.length)) (.pv (hp h)) (.pv (.int h.1)) (.pv (.int h.2.1)) (.pv (.int h.2.2)) (.pv (.int (h.1 * h.1 + h.2.1 * h.2.1))) .un) s = .nx [.pv (rv R), .own (.lst ((cand D.reverse).map pq ++ [pq (foot h)])), .pv (nI D.length), .pv (hp h), .pv (.int h.1), .pv (.int h.2.1), .pv (.int h.2.2), .pv (.int (h.1 * h.1 + h.2.1 * h.2.1)), .un] s from Mp.app_ok rfl (tup_ok (a2_ok (call_ok (a2_ok (bin_ok (mv_ok rfl) (mv_ok rfl) (mul_small hc')) (a1_ok (mv_ok rfl))) (part_small (by omega) (by omega))) (a1_ok (call_ok (a2_ok (bin_ok (mv_ok rfl) (mv_ok rfl) (mul_small hc')) (a1_ok (mv_ok rfl))) (part_small (by omega) (by omega)))))) (by rw [List.length_map]; omega))).trans ?_
      have K := mComp_map (mi := iSeq (mSlice (mVar 0) pN (pS (mVar 2)))) (gt := gNm 8) (tc := tBin cNotN (mCall 2 M_corner_of (aCons (mVar 3) (aCons (mVar 8) aNil))) (mC .non)) (me := mCall 2 M_corner_of (aCons (mVar 3) (aCons (mVar 8) aNil))) (vs := [8]) (st := s) (env := [.pv (rv R), .own (.lst ((cand D.reverse).map pq ++ [pq (foot h)])), .pv (nI D.length), .pv (hp h), .pv (.int h.1), .pv (.int h.2.1), .pv (.int h.2.2), .pv (.int (h.1 * h.1 + h.2.1 * h.2.1)), .un]) hp (fun g => decide (Pg.xx h g ≠ 0)) (fun g => pq (corn h g)) D
        (by
          have e := sl_take (m := mVar 0) (mi := mVar 2) (st := s) (env := [.pv (rv R), .own (.lst ((cand D.reverse).map pq ++ [pq (foot h)])), .pv (nI D.length), .pv (hp h), .pv (.int h.1), .pv (.int h.2.1), .pv (.int h.2.2), .pv (.int (h.1 * h.1 + h.2.1 * h.2.1)), .un]) (xs := R.map hp) (n := D.length) (mv_ok rfl) (mv_ok rfl)
          have t : (R.map hp).take D.length = D.map hp := by rw [eR, ← List.map_take, List.take_left' rfl]
          rw [t] at e
          exact seq_ev e) rfl (by omega) fun g hg => by
        have ce := corner_ev (st := s) Hh (HD g hg)
        refine ⟨[.pv (rv R), .own (.lst ((cand D.reverse).map pq ++ [pq (foot h)])), .pv (nI D.length), .pv (hp h), .pv (.int h.1), .pv (.int h.2.1), .pv (.int h.2.2), .pv (.int (h.1 * h.1 + h.2.1 * h.2.1)), .pv (hp g)], rfl, ?_, fun z => ?_⟩
        · by_cases z : Pg.xx h g = 0
          · rw [if_pos z] at ce
            exact okc (tbin_ok (call_ok (a2_ok (mv_ok rfl) (a1_ok (mv_ok rfl))) ce) ev_C (c := false) rfl) (by simp [z])
          · rw [if_neg z] at ce
            exact okc (tbin_ok (call_ok (a2_ok (mv_ok rfl) (a1_ok (mv_ok rfl))) ce) ev_C (cNot_pq _)) (by simp [z])
        · rw [if_neg (by simpa using z)] at ce
          exact call_ok (a2_ok (mv_ok rfl) (a1_ok (mv_ok rfl))) ce
      have lf : ((D.filter fun g => decide (Pg.xx h g ≠ 0)).map fun g => pq (corn h g)).length ≤ D.length := by rw [List.length_map]; exact List.length_filter_le _ _
      have x := ext_ok (i := 1) (env := [.pv (rv R), .own (.lst ((cand D.reverse).map pq ++ [pq (foot h)])), .pv (nI D.length), .pv (hp h), .pv (.int h.1), .pv (.int h.2.1), .pv (.int h.2.2), .pv (.int (h.1 * h.1 + h.2.1 * h.2.1)), .un]) rfl K (by rw [List.length_append, List.length_map]; simp only [List.length_cons, List.length_nil]; omega)
      refine (show s_tried_5 _ s = _ from x).trans ?_
      have fin : (cand D.reverse).map pq ++ [pq (foot h)] ++ (D.filter fun g => decide (Pg.xx h g ≠ 0)).map (fun g => pq (corn h g)) = (cand (D ++ [h]).reverse).map pq := by
        rw [List.reverse_append]
        simp only [List.reverse_cons, List.reverse_nil, List.nil_append, List.cons_append, cand, List.reverse_reverse, List.map_append, List.map_cons, List.map_map, List.append_assoc]
        rfl
      rw [fin]; rfl
    · rw [List.length_append]; exact e2)
  obtain ⟨e, st', L, rfl, D, rest, eR, er, rfl⟩ := L
  have r0 : rest = [] := by
    cases rest with
    | nil => rfl
    | cons x r => rw [List.zipIdx_cons] at er; cases er
  subst r0
  rw [List.append_nil] at eR
  subst eR
  refine (seq_nx (show s_tried_6 _ _ = _ from (for_ev en).trans L)).trans ?_
  rfl
theorem find_mem {p : Q2 → Bool} : ∀ {L : List Q2}, L.find? p = none → ∀ q ∈ L, p q = false := by
  intro L h q hq
  have := List.find?_eq_none.mp h q hq
  simpa using this
theorem a_point_ev (H : ∀ g ∈ R, HB g) (hl : R.length ≤ 100) : M_a_point [rv R] st = .ok (match (cand R.reverse).find? (fun q => decide (RS R q)) with | some q => pq q | none => .non) st := by
  have pb := cand_pb (R := R.reverse) fun g hg => H g (List.mem_reverse.mp hg)
  have L := forL_find (gt := gNm 1) (body := s_a_point_3) (ks := [1]) (env := [.pv (rv R), .un]) (st := st) pq (fun q => decide (RS R q)) pq (cand R.reverse) fun q hq => by
    have w := within_ev (st := st) H (pb q hq) (by decide)
    have c : tVal (mCall 2 M_is_within (aCons (mVar 0) (aCons (mVar 1) aNil))) [.pv (rv R), .pv (pq q)] st = .ok (decide (RS R q)) st := tval_ok (call_ok (a2_ok (mv_ok rfl) (a1_ok (mv_ok rfl))) w)
    exact ⟨[.pv (rv R), .pv (pq q)], rfl, fun z => ⟨_, ifF_ok (okc c z), rfl⟩, fun z => (ifT_ok (okc c z)).trans (ret_ok (mv_ok rfl))⟩
  have e1 : s_a_point_1 [.pv (rv R), .un] st = .nx [.pv (rv R), .un] st := expr_ok (call_ok (a1_ok (mv_ok rfl)) (check_ev H))
  have e2 : s_a_point_4 [.pv (rv R), .un] st = _ := (for_ev (seq_ev (call_ok (a1_ok (mv_ok rfl)) (tried_ev H hl)))).trans L
  refine fnM_rt ?_
  show B_a_point [.pv (rv R), .un] st = _
  rw [B_a_point, seq_nx e1]
  cases f : (cand R.reverse).find? (fun q => decide (RS R q)) with
  | some q =>
    rw [f] at e2
    exact seq_rt e2
  | none =>
    rw [f] at e2
    exact (seq_nx e2).trans (ret_ok ev_C)
end
end K17
end
section
set_option maxRecDepth 100000
set_option maxHeartbeats 1000000
namespace Pg
section
variable {S : List HP} {C : List Q2} {R : List HP} {h : HP}
theorem line_tr {g : HP} {u v w : Q2} (hn : Nz g) (hu : vl g u = 0) (hv : vl g v = 0) (hw : vl g w = 0) : tr u v w = 0 := co_line (h := g) (O := u) hn hu hv hw
theorem Ok.len (O : Ok S C) (hS : ∀ g ∈ S, Nz g) (h3 : 3 ≤ C.length) : C.length ≤ S.length := by
  have Y := (O.big h3).cy h3
  have ex : ∀ k, ∃ g, k < C.length → g ∈ S ∧ vl g (cyc C k) = 0 ∧ vl g (cyc C (k + 1)) = 0 := fun k => by
    by_cases hk : k < C.length
    · obtain ⟨g, h1, h2, h3⟩ := O.edg k hk
      exact ⟨g, fun _ => ⟨h1, h2, h3⟩⟩
    · exact ⟨(0, 0, 0), fun z => absurd z hk⟩
  let G : Nat → HP := fun k => Classical.choose (ex k)
  have hG : ∀ k, k < C.length → G k ∈ S ∧ vl (G k) (cyc C k) = 0 ∧ vl (G k) (cyc C (k + 1)) = 0 := fun k hk => Classical.choose_spec (ex k) hk
  have inj : ∀ i j, i < j → j < C.length → G i ≠ G j := fun i j ij hj e => by
    obtain ⟨m1, a1, a2⟩ := hG i (by omega)
    obtain ⟨m2, b1, b2⟩ := hG j hj
    rw [← e] at b1 b2
    by_cases z : j = i + 1
    · subst z
      have := Y.pos i (i + 1) (i + 1 + 1) (by omega) (by omega) (by omega)
      rw [line_tr (hS _ m1) a1 a2 b2] at this
      exact absurd this (by grind)
    · have := Y.pos i (i + 1) j (by omega) (by omega) (by omega)
      rw [line_tr (hS _ m1) a1 a2 b1] at this
      exact absurd this (by grind)
  have nd : ((List.range C.length).map G).Nodup := by
    rw [List.Nodup, List.pairwise_map]
    exact List.Pairwise.imp_of_mem (fun {a b} _ hb ab => inj a b ab (List.mem_range.mp hb)) List.pairwise_lt_range
  have := List.Nodup.length_le_of_subset nd (l₂ := S) fun g hg => by
    obtain ⟨k, hk, rfl⟩ := List.mem_map.mp hg
    exact (hG k (List.mem_range.mp hk)).1
  rwa [List.length_map, List.length_range] at this
theorem nz0 : ∀ g ∈ S0, Nz g := by
  intro g hg
  simp only [S0, List.mem_cons, List.not_mem_nil, or_false] at hg
  unfold Nz
  rcases hg with rfl | rfl | rfl | rfl <;> simp
theorem nz_all (hR : ∀ g ∈ R, Nz g) : ∀ g ∈ R.reverse ++ S0, Nz g := fun g hg => by
  rcases List.mem_append.mp hg with q | q
  · exact hR g (List.mem_reverse.mp q)
  · exact nz0 g q
theorem lo_cnt (hR : ∀ g ∈ R, Nz g) : (lo R).length ≤ R.length + 4 := by
  by_cases h3 : 3 ≤ (lo R).length
  · have := (lo_ok R).len (nz_all hR) h3
    rw [List.length_append, List.length_reverse] at this
    exact this
  · omega
end
end Pg
end
section
set_option maxRecDepth 100000
set_option maxHeartbeats 1000000
namespace K17
open PySem L2 Mp Pg
theorem num_sg (a : Rat) : (a.num < 0 ↔ a < 0) ∧ (0 < a.num ↔ 0 < a) := by
  have h1 := Rat.lt_iff a 0
  have h2 := Rat.lt_iff 0 a
  simp at h1 h2
  exact ⟨h1.symm, h2.symm⟩
theorem num_np (a : Rat) : a.num ≤ 0 ↔ a ≤ 0 := by
  have := (num_sg a).2
  constructor
  · intro z
    have : ¬ 0 < a := fun y => by have := this.mpr y; omega
    grind
  · intro z
    have : ¬ 0 < a.num := fun y => by have := this.mp y; grind
    omega
theorem num_mul (a b : Rat) : a.num * b.num < 0 ↔ a * b < 0 := by
  have s1 := num_sg a
  have s2 := num_sg b
  constructor
  · intro z
    rcases Int.lt_trichotomy a.num 0 with q | q | q
    · have qb : 0 < b.num := by
        apply Classical.byContradiction; intro c
        have := Int.mul_nonneg_of_nonpos_of_nonpos (Int.le_of_lt q) (show b.num ≤ 0 by omega)
        omega
      have x := s1.1.mp q
      have y := s2.2.mp qb
      have := mul_pp (show 0 < -a by grind) y
      grind
    · rw [q, Int.zero_mul] at z; omega
    · have qb : b.num < 0 := by
        apply Classical.byContradiction; intro c
        have := Int.mul_nonneg (Int.le_of_lt q) (show 0 ≤ b.num by omega)
        omega
      have x := s1.2.mp q
      have y := s2.1.mp qb
      have := mul_pp x (show 0 < -b by grind)
      grind
  · intro z
    rcases neg_mul z with ⟨x, y⟩ | ⟨x, y⟩
    · have := Int.mul_pos (show 0 < -a.num by have := s1.1.mpr x; omega) (s2.2.mpr y)
      rw [Int.neg_mul] at this; omega
    · have := Int.mul_pos (s1.2.mpr x) (show 0 < -b.num by have := s2.1.mpr y; omega)
      rw [Int.mul_neg] at this; omega
def tq (C : List Q2) : PV := .tup (C.map pq)
section
variable {a b t : Rat} {st : Sto} {h : HP} {C F : List Q2} {k : Nat} {u v p q : Q2}
theorem getq (hk : k < C.length) : (C.map pq)[k]? = some (pq (C.getD k (0, 0))) := by
  rw [List.getElem?_map, List.getElem?_eq_getElem hk, List.getD_eq_getElem?_getD, List.getElem?_eq_getElem hk]; rfl
theorem at_M (hk : k < C.length) : atI (C.map pq) ((k : Int) - 1) = some (pq (cyc C k)) := by
  cases k with
  | zero =>
    have e : cyc C 0 = C.getD (C.length - 1) (0, 0) := by unfold cyc; rw [Nat.zero_add, Nat.mod_eq_of_lt (by omega)]
    rw [e]
    exact atIlast (by rw [List.length_map]; exact getq (by omega))
  | succ k =>
    rw [cyc_s (by omega), show (((k + 1 : Nat) : Int) - 1) = ((k : Nat) : Int) by omega]
    exact atIn (getq (by omega))
theorem ixP (hk : k < C.length) (s : Sto) : ixV s (tq C) (nI k) = some (pq (cyc C (k + 1))) := by rw [cyc_s hk]; exact ixT (getq hk)
theorem ixM (hk : k < C.length) (s : Sto) : ixV s (tq C) (.int ((k : Int) - 1)) = some (pq (cyc C k)) := at_M hk
theorem ixML (hk : k < C.length) (s : Sto) : ixV s (.lst (C.map pq)) (.int ((k : Int) - 1)) = some (pq (cyc C k)) := at_M hk
theorem pvEq_pq (p q : Q2) : pvEq (pq p) (pq q) = decide (p = q) := by
  unfold pq
  simp only [pvEq, pvEqs, pvEq_fr]
  by_cases e : p = q
  · subst e; simp
  · rw [decide_eq_false e]
    by_cases e1 : p.1 = q.1
    · have : p.2 ≠ q.2 := fun z => e (Prod.ext e1 z)
      simp [this]
    · simp [e1]
theorem isD_pq (q : Q2) : isD (pq q) = true := by simp [isD, pq, fr, pd, pds]
theorem cNe_pq (p q : Q2) : cNe (pq p) (pq q) = some (.bl (!decide (p = q))) := by simp [cNe, isD_pq, pvEq_pq]
theorem W1_ev {i j c : Nat} {env : MEnv} {x y : Rat} (ho : ∀ s, ixV s (pq u) (.int c) = some (fr x)) (hv : ∀ s, ixV s (pq v) (.int c) = some (fr y)) (h4 : env[4]? = some (.pv (pq u))) (h5 : env[5]? = some (.pv (pq v))) (h8 : env[8]? = some (.pv (fr t))) (b1 : sz x ≤ 100) (b2 : sz y ≤ 100) (b3 : sz t ≤ 2000) :
    mCall 2 M_plus (aCons (mIx (mVar 4) (mC (.int c))) (aCons (mCall 2 M_times (aCons (mVar 8) (aCons (mCall 2 M_minus (aCons (mIx (mVar 5) (mC (.int c))) (aCons (mIx (mVar 4) (mC (.int c))) aNil))) aNil))) aNil)) env st = .ok (fr ((1 - t) * x + t * y)) st := by
  have e : (1 - t) * x + t * y = x + t * (y - x) := by grind
  have s1 := sz_sub y x
  have s2 := sz_mul t (y - x)
  rw [e]
  exact call_ok (a2_ok (ix_ok (mv_ok h4) ev_C (ho st)) (a1_ok (call_ok (a2_ok (mv_ok h8) (a1_ok (call_ok (a2_ok (ix_ok (mv_ok h5) ev_C (hv st)) (a1_ok (ix_ok (mv_ok h4) ev_C (ho st)))) (minus_ev (by omega))))) (times_ev (by omega))))) (plus_ev (by omega))
abbrev cE (C : List Q2) (h : HP) (F : List Q2) (a b c d e f g i : EV) : MEnv := [.pv (tq C), .pv (hp h), .own (.lst (F.map pq)), a, b, c, d, e, f, g, i, .un]
theorem cE_set (p : Q2) {a b c d e f g i : EV} : (cE C h F a b c d e f g i).set 2 (.own (.lst (F.map pq ++ [pq p]))) = cE C h (F ++ [p]) a b c d e f g i := by
  show (cE C h F a b c d e f g i).set 2 _ = [.pv (tq C), .pv (hp h), .own (.lst ((F ++ [p]).map pq)), a, b, c, d, e, f, g, i, .un]
  rw [List.map_append]; rfl
theorem step_ev (H : HB h) (P : ∀ p ∈ C, PB 10 p) (hk : k < C.length) (hF : F.length + 2 ≤ 400000) : ∃ e, sSeq s_cut_2 (sSeq s_cut_3 (sSeq s_cut_8 s_cut_10)) (cE C h F (.pv (nI k)) .un .un .un .un .un .un .un) st = .nx e st ∧ killE [3, 4, 5, 6, 7, 8, 9, 10] e = cE C h (F ++ em h (cyc C k) (cyc C (k + 1))) .un .un .un .un .un .un .un .un := by
  have ne : C ≠ [] := fun z => by rw [z] at hk; cases hk
  have Pu := P _ (cyc_mem (i := k) ne)
  have Pv := P _ (cyc_mem (i := k + 1) ne)
  have i4 := ixM hk st
  have i5 := ixP hk st
  generalize cyc C k = u at *
  generalize cyc C (k + 1) = v at *
  have e2 : s_cut_2 (cE C h F (.pv (nI k)) .un .un .un .un .un .un .un) st = .nx (cE C h F (.pv (nI k)) (.pv (pq u)) (.pv (pq v)) .un .un .un .un .un) st :=
    par_ok (evs := [.pv (pq u), .pv (pq v)]) (vF_ok (ix_ok (mv_ok rfl) (bin_ok (mv_ok (v := nI k) rfl) ev_C pSub_int) i4) (vF_ok (ix_ok (mv_ok rfl) (mv_ok rfl) i5) vN0)) rfl rfl
  have zu := vl_sz H Pu
  have zv := vl_sz H Pv
  have e3 : s_cut_3 (cE C h F (.pv (nI k)) (.pv (pq u)) (.pv (pq v)) .un .un .un .un .un) st = .nx (cE C h F (.pv (nI k)) (.pv (pq u)) (.pv (pq v)) (.pv (fr (vl h u))) (.pv (fr (vl h v))) .un .un .un) st :=
    par_ok (evs := [.pv (fr (vl h u)), .pv (fr (vl h v))]) (vF_ok (call_ok (a2_ok (mv_ok rfl) (a1_ok (mv_ok rfl))) (value_ev H Pu (by decide))) (vF_ok (call_ok (a2_ok (mv_ok rfl) (a1_ok (mv_ok rfl))) (value_ev H Pv (by decide))) vN0)) rfl rfl
  rw [seq_nx e2, seq_nx e3]
  obtain ⟨u1, u2⟩ := Pu
  obtain ⟨v1, v2⟩ := Pv
  have c8 : tBin cLt (mBin pMul (mIx (mVar 6) (mC (.int 0))) (mIx (mVar 7) (mC (.int 0)))) (mC (.int 0)) (cE C h F (.pv (nI k)) (.pv (pq u)) (.pv (pq v)) (.pv (fr (vl h u))) (.pv (fr (vl h v))) .un .un .un) st = .ok (decide (vl h u * vl h v < 0)) st := by
    have m : pMul (.int (vl h u).num) (.int (vl h v).num) = some (.int ((vl h u).num * (vl h v).num)) := mul_bt (by unfold sz at zu zv; omega)
    have t := tbin_ok (env := cE C h F (.pv (nI k)) (.pv (pq u)) (.pv (pq v)) (.pv (fr (vl h u))) (.pv (fr (vl h v))) .un .un .un) (s := st) (bin_ok (ix_ok (mv_ok (i := 6) rfl) (ev_C (v := .int 0)) (fr_ix0 (vl h u) st)) (ix_ok (mv_ok (i := 7) rfl) (ev_C (v := .int 0)) (fr_ix0 (vl h v) st)) m) (ev_C (v := .int 0)) cLt_int
    exact okc t (decide_eq_decide.mpr (num_mul _ _))
  have e8 : ∃ m8 m9 m10, s_cut_8 (cE C h F (.pv (nI k)) (.pv (pq u)) (.pv (pq v)) (.pv (fr (vl h u))) (.pv (fr (vl h v))) .un .un .un) st = .nx (cE C h (F ++ if vl h u * vl h v < 0 then [W (vl h u / (vl h u - vl h v)) u v] else []) (.pv (nI k)) (.pv (pq u)) (.pv (pq v)) (.pv (fr (vl h u))) (.pv (fr (vl h v))) m8 m9 m10) st := by
    by_cases q : vl h u * vl h v < 0
    · have nz : vl h u - vl h v ≠ 0 := fun z => by rcases neg_mul q with y | y <;> grind
      have s1 := sz_sub (vl h u) (vl h v)
      have s2 : sz (vl h u / (vl h u - vl h v)) ≤ 2000 := by
        have := sz_div (vl h u) (vl h u - vl h v)
        omega
      have e4 : s_cut_4 (cE C h F (.pv (nI k)) (.pv (pq u)) (.pv (pq v)) (.pv (fr (vl h u))) (.pv (fr (vl h v))) .un .un .un) st = .nx (cE C h F (.pv (nI k)) (.pv (pq u)) (.pv (pq v)) (.pv (fr (vl h u))) (.pv (fr (vl h v))) (.pv (fr (vl h u / (vl h u - vl h v)))) .un .un) st :=
        set_ok (call_ok (a2_ok (mv_ok rfl) (a1_ok (call_ok (a2_ok (mv_ok rfl) (a1_ok (mv_ok rfl))) (minus_ev (by omega))))) (over_ev (by omega) nz))
      rw [if_pos q]
      generalize vl h u / (vl h u - vl h v) = t at *
      have e5 : s_cut_5 (cE C h F (.pv (nI k)) (.pv (pq u)) (.pv (pq v)) (.pv (fr (vl h u))) (.pv (fr (vl h v))) (.pv (fr t)) .un .un) st = .nx (cE C h F (.pv (nI k)) (.pv (pq u)) (.pv (pq v)) (.pv (fr (vl h u))) (.pv (fr (vl h v))) (.pv (fr t)) (.pv (fr (W t u v).1)) .un) st :=
        set_ok (W1_ev (i := 0) (j := 0) (pq0 u) (pq0 v) rfl rfl rfl (by omega) (by omega) s2)
      have e6 : s_cut_6 (cE C h F (.pv (nI k)) (.pv (pq u)) (.pv (pq v)) (.pv (fr (vl h u))) (.pv (fr (vl h v))) (.pv (fr t)) (.pv (fr (W t u v).1)) .un) st = .nx (cE C h F (.pv (nI k)) (.pv (pq u)) (.pv (pq v)) (.pv (fr (vl h u))) (.pv (fr (vl h v))) (.pv (fr t)) (.pv (fr (W t u v).1)) (.pv (fr (W t u v).2))) st :=
        set_ok (W1_ev (i := 0) (j := 0) (pq1 u) (pq1 v) rfl rfl rfl (by omega) (by omega) s2)
      have e7 := Mp.app_ok (i := 2) (env := cE C h F (.pv (nI k)) (.pv (pq u)) (.pv (pq v)) (.pv (fr (vl h u))) (.pv (fr (vl h v))) (.pv (fr t)) (.pv (fr (W t u v).1)) (.pv (fr (W t u v).2))) (xs := F.map pq) (v := pq (W t u v)) (s := st) rfl (tup_ok (a2_ok (mv_ok (i := 9) rfl) (a1_ok (mv_ok (i := 10) rfl)))) (by rw [List.length_map]; omega)
      rw [cE_set] at e7
      exact ⟨_, _, _, (ifT_ok (okc c8 (decide_eq_true q))).trans ((seq_nx e4).trans ((seq_nx e5).trans ((seq_nx e6).trans e7)))⟩
    · rw [if_neg q, List.append_nil]
      exact ⟨_, _, _, ifF_ok (okc c8 (decide_eq_false q))⟩
  obtain ⟨m8, m9, m10, e8⟩ := e8
  rw [seq_nx e8]
  unfold em
  rw [← List.append_assoc]
  have lF : (F ++ if vl h u * vl h v < 0 then [W (vl h u / (vl h u - vl h v)) u v] else []).length ≤ F.length + 1 := by
    rw [List.length_append]; split <;> simp
  generalize (F ++ if vl h u * vl h v < 0 then [W (vl h u / (vl h u - vl h v)) u v] else []) = F' at *
  have c10 : tBin cLe (mIx (mVar 7) (mC (.int 0))) (mC (.int 0)) (cE C h F' (.pv (nI k)) (.pv (pq u)) (.pv (pq v)) (.pv (fr (vl h u))) (.pv (fr (vl h v))) m8 m9 m10) st = .ok (decide (vl h v ≤ 0)) st := by
    have t := tbin_ok (env := cE C h F' (.pv (nI k)) (.pv (pq u)) (.pv (pq v)) (.pv (fr (vl h u))) (.pv (fr (vl h v))) m8 m9 m10) (s := st) (ix_ok (mv_ok (i := 7) rfl) (ev_C (v := .int 0)) (fr_ix0 (vl h v) st)) (ev_C (v := .int 0)) cLe_int
    exact okc t (decide_eq_decide.mpr (num_np _))
  by_cases q : vl h v ≤ 0
  · rw [if_pos q]
    have e9 := Mp.app_ok (i := 2) (env := cE C h F' (.pv (nI k)) (.pv (pq u)) (.pv (pq v)) (.pv (fr (vl h u))) (.pv (fr (vl h v))) m8 m9 m10) (xs := F'.map pq) (v := pq v) (s := st) rfl (mv_ok (i := 5) rfl) (by rw [List.length_map]; omega)
    rw [cE_set] at e9
    exact ⟨_, (ifT_ok (okc c10 (decide_eq_true q))).trans e9, rfl⟩
  · rw [if_neg q, List.append_nil]
    exact ⟨_, ifF_ok (okc c10 (decide_eq_false q)), rfl⟩
theorem enum_pq (L : List Q2) : enumP (L.map pq) = (List.range L.length).map fun (k : Nat) => .tup [.int (k : Int), pq (cyc L (k + 1))] := by
  rw [enumP_map]
  refine List.ext_getElem (by simp) fun i h1 h2 => ?_
  have hi : i < L.length := by simpa using h1
  rw [List.getElem_map, List.getElem_map, List.getElem_range, List.getElem_zipIdx, cyc_s hi, List.getD_eq_getElem?_getD, List.getElem?_eq_getElem hi]
  simp
theorem cut_ev (H : HB h) (P : ∀ p ∈ C, PB 10 p) (hl : C.length ≤ 100000) : M_cut [tq C, hp h] st = .ok (tq (cut h C)) st := by
  refine fnM_rt ?_
  show B_cut [.pv (tq C), .pv (hp h), .un, .un, .un, .un, .un, .un, .un, .un, .un, .un] st = _
  have e1 : s_cut_1 [.pv (tq C), .pv (hp h), .un, .un, .un, .un, .un, .un, .un, .un, .un, .un] st = .nx (cE C h [] .un .un .un .un .un .un .un .un) st := setO_ok (lst_ok rfl)
  have rg : iRng1M (aCons (mCallB bLen (aCons (mVar 0) aNil)) aNil) (cE C h [] .un .un .un .un .un .un .un .un) st = .ok ((List.range C.length).map fun (k : Nat) => .int (k : Int)) st :=
    rng1_ev (a1_ok (callB_ok (a1_ok (mv_ok (v := tq C) rfl)) (by unfold tq; rw [lenT, List.length_map]))) (by omega)
  have L := forL_flat (gt := gNm 3) (body := sSeq s_cut_2 (sSeq s_cut_3 (sSeq s_cut_8 s_cut_10))) (ks := [3, 4, 5, 6, 7, 8, 9, 10]) (st := st) (fun (k : Nat) => .int (k : Int)) (fun F : List Q2 => cE C h F .un .un .un .un .un .un .un .un) (fun k => em h (cyc C k) (cyc C (k + 1))) 2 200000 (List.range C.length) [] (by rw [List.length_range]; simp only [List.length_nil]; omega) fun F k hk hF => by
    obtain ⟨e, e1, e2⟩ := step_ev (st := st) (F := F) H P (List.mem_range.mp hk) (by omega)
    exact ⟨em_len _ _ _, _, e, rfl, e1, e2⟩
  rw [List.nil_append] at L
  have e11 : s_cut_11 (cE C h [] .un .un .un .un .un .un .un .un) st = .nx (cE C h (cutR h C) .un .un .un .un .un .un .un .un) st := (for_ev rg).trans L
  rw [B_cut, seq_nx e1, seq_nx e11]
  have lR : (cutR h C).length ≤ 200000 := by
    have := flat_len (fun k => em h (cyc C k) (cyc C (k + 1))) (fun k => em_len h _ _) (List.range C.length)
    rw [List.length_range] at this
    show ((List.range C.length).flatMap fun k => em h (cyc C k) (cyc C (k + 1))).length ≤ _
    omega
  show _ = MFlow.rt (tq (ded (cutR h C))) st
  generalize cutR h C = L at *
  show sRet _ [.pv (tq C), .pv (hp h), .pv (.lst (L.map pq)), .un, .un, .un, .un, .un, .un, .un, .un, .un] st = _
  have en : iEnumM (aCons (mVar 2) aNil) [.pv (tq C), .pv (hp h), .pv (.lst (L.map pq)), .un, .un, .un, .un, .un, .un, .un, .un, .un] st = .ok ((List.range L.length).map fun (k : Nat) => .tup [.int (k : Int), pq (cyc L (k + 1))]) st := by
    unfold iEnumM
    rw [a1_ok (mv_ok (v := .lst (L.map pq)) rfl), ev_bindR]
    dsimp only
    rw [enum_pq]
  have K := mComp_map (mi := iEnumM (aCons (mVar 2) aNil)) (gt := gTp 2 (gConsM (gNm 3) (gConsM (gNm 11) gNilM))) (tc := tOrM (tBin cNe (mVar 11) (mIx (mVar 2) (mBin pSub (mVar 3) (mC (.int 1))))) (tBin cEq (mCallB bLen (aCons (mVar 2) aNil)) (mC (.int 1)))) (me := mVar 11) (vs := [3, 11]) (st := st) (fun (k : Nat) => .tup [.int (k : Int), pq (cyc L (k + 1))]) (fun k => decide (cyc L (k + 1) ≠ cyc L k ∨ L.length = 1)) (fun k => pq (cyc L (k + 1))) (List.range L.length) en rfl (by rw [List.length_range]; omega) fun k hk => by
    have hk := List.mem_range.mp hk
    refine ⟨[.pv (tq C), .pv (hp h), .pv (.lst (L.map pq)), .pv (nI k), .un, .un, .un, .un, .un, .un, .un, .pv (pq (cyc L (k + 1)))], rfl, ?_, fun _ => mv_ok rfl⟩
    have c1 := tbin_ok (env := [.pv (tq C), .pv (hp h), .pv (.lst (L.map pq)), .pv (nI k), .un, .un, .un, .un, .un, .un, .un, .pv (pq (cyc L (k + 1)))]) (s := st) (mv_ok (i := 11) rfl) (ix_ok (mv_ok (i := 2) rfl) (bin_ok (mv_ok (i := 3) (v := nI k) rfl) (ev_C (v := .int 1)) pSub_int) (ixML hk st)) (cNe_pq _ _)
    have c2 := tbin_ok (env := [.pv (tq C), .pv (hp h), .pv (.lst (L.map pq)), .pv (nI k), .un, .un, .un, .un, .un, .un, .un, .pv (pq (cyc L (k + 1)))]) (s := st) (callB_ok (a1_ok (mv_ok (i := 2) rfl)) lenL) (ev_C (v := .int 1)) cEq_int
    unfold tOrM
    rw [c1, ev_bindR]
    by_cases z : cyc L (k + 1) = cyc L k
    · rw [if_neg (by simp [z]), c2]
      congr 1
      rw [List.length_map]
      simp [z]
      omega
    · rw [if_pos (by simp [z])]
      congr 1
      simp [z]
  refine ret_ok (callB_ok (a1_ok K) ?_)
  show some (PV.tup _) = some (PV.tup _)
  unfold ded
  rw [List.map_map]
  rfl
end
end K17
end
section
set_option maxRecDepth 100000
set_option maxHeartbeats 1000000
namespace K17
open PySem L2 Mp Pg
section
variable {a b t : Rat} {st : Sto} {g h : HP} {R : List HP} {C : List Q2} {k n : Nat} {u v p q : Q2}
theorem hb0 : ∀ g ∈ S0, HB g := by
  intro g hg
  simp only [S0, List.mem_cons, List.not_mem_nil, or_false] at hg
  rcases hg with rfl | rfl | rfl | rfl <;> exact ⟨by unfold Nz; simp, by decide, by decide, by decide⟩
theorem lo_snoc (R : List HP) (h : HP) : lo (R ++ [h]) = cut h (lo R) := by unfold lo; rw [List.foldl_append]; rfl
theorem c0_pb : ∀ p ∈ C0, PB 10 p := by
  intro p hp
  simp only [C0, List.mem_cons, List.not_mem_nil, or_false] at hp
  rcases hp with rfl | rfl | rfl | rfl <;> exact ⟨by decide, by decide⟩
theorem pb_cut {S : List HP} (O : Ok S C) (hS : ∀ g ∈ S, HB g) (H : HB h) (P : ∀ p ∈ C, PB 10 p) : ∀ p ∈ cut h C, PB 10 p := fun p hp => by
  rcases cut_corn O (fun g hg => (hS g hg).nz) hp with q | ⟨g, hg, _, e⟩
  · exact P p q
  · rw [e]; exact corn_pb (hS g hg) H
theorem pb_fold : ∀ (R : List HP) {S : List HP} {C : List Q2}, Ok S C → (∀ g ∈ S, HB g) → (∀ p ∈ C, PB 10 p) → (∀ g ∈ R, HB g) → ∀ p ∈ R.foldl (fun C h => cut h C) C, PB 10 p
  | [], _, _, _, _, P, _ => P
  | h :: R, S, C, O, hS, P, H => by
    refine pb_fold R (O.cut (h := h)) (fun g hg => ?_) (pb_cut O hS (H h List.mem_cons_self) P) fun g hg => H g (List.mem_cons_of_mem _ hg)
    rcases List.mem_cons.mp hg with rfl | q
    · exact H _ List.mem_cons_self
    · exact hS g q
theorem lo_pb (H : ∀ g ∈ R, HB g) : ∀ p ∈ lo R, PB 10 p := pb_fold R ok0 hb0 c0_pb H
theorem lo_l (H : ∀ g ∈ R, HB g) : (lo R).length ≤ R.length + 4 := lo_cnt fun g hg => (H g hg).nz
def bx : PV := .tup [.int (-5), .int (-5), .int 5, .int 5]
theorem part1_ev (i : Int) : M_part [.int i, .int 1] st = .ok (fr (i : Rat)) st := by
  rw [part_small (by decide) (by decide)]
  congr 2
  rw [Rat.div_def, show (((1 : Int) : Rat))⁻¹ = 1 by rw [show ((1 : Int) : Rat) = 1 from rfl]; grind]
  exact Rat.mul_one _
abbrev LE (R D : List HP) : MEnv := [.pv (rv R), .pv bx, .pv (.int (-5)), .pv (.int (-5)), .pv (.int 5), .pv (.int 5), .pv (tq (lo D)), .un, .un, .un]
theorem left_ev (H : ∀ g ∈ R, HB g) (hl : R.length ≤ 100) : M_left_of [rv R, bx] st = .ok (tq (lo R)) st := by
  refine fnM_rt ?_
  show B_left_of [.pv (rv R), .pv bx, .un, .un, .un, .un, .un, .un, .un, .un] st = _
  have e1 : s_left_of_1 [.pv (rv R), .pv bx, .un, .un, .un, .un, .un, .un, .un, .un] st = .nx [.pv (rv R), .pv bx, .un, .un, .un, .un, .un, .un, .un, .un] st := expr_ok (call_ok (a1_ok (mv_ok rfl)) (check_ev H))
  have e2 : s_left_of_2 [.pv (rv R), .pv bx, .un, .un, .un, .un, .un, .un, .un, .un] st = .nx [.pv (rv R), .pv bx, .pv (.int (-5)), .pv (.int (-5)), .pv (.int 5), .pv (.int 5), .un, .un, .un, .un] st := asg_ok (mv_ok rfl) rfl
  have e4 : s_left_of_4 [.pv (rv R), .pv bx, .pv (.int (-5)), .pv (.int (-5)), .pv (.int 5), .pv (.int 5), .un, .un, .un, .un] st = .nx [.pv (rv R), .pv bx, .pv (.int (-5)), .pv (.int (-5)), .pv (.int 5), .pv (.int 5), .un, .un, .un, .un] st :=
    ifF_ok (tor_ok (tnot_ok (okc (tbin_ok (mv_ok rfl) (mv_ok rfl) cLt_int) (by decide))) (tnot_ok (okc (tbin_ok (mv_ok rfl) (mv_ok rfl) cLt_int) (by decide))))
  have e5 : s_left_of_5 [.pv (rv R), .pv bx, .pv (.int (-5)), .pv (.int (-5)), .pv (.int 5), .pv (.int 5), .un, .un, .un, .un] st = .nx (LE R []) st := by
    have t4 : iSeq (mTup (aCons (mTup (aCons (mVar 2) (aCons (mVar 3) aNil))) (aCons (mTup (aCons (mVar 4) (aCons (mVar 3) aNil))) (aCons (mTup (aCons (mVar 4) (aCons (mVar 5) aNil))) (aCons (mTup (aCons (mVar 2) (aCons (mVar 5) aNil))) aNil))))) [.pv (rv R), .pv bx, .pv (.int (-5)), .pv (.int (-5)), .pv (.int 5), .pv (.int 5), .un, .un, .un, .un] st = .ok (([(-5, -5), (5, -5), (5, 5), (-5, 5)] : List (Int × Int)).map fun p => .tup [.int p.1, .int p.2]) st := rfl
    have K := mComp_all (gt := gTp 2 (gConsM (gNm 8) (gConsM (gNm 9) gNilM))) (me := mTup (aCons (mCall 2 M_part (aCons (mVar 8) (aCons (mC (.int 1)) aNil))) (aCons (mCall 2 M_part (aCons (mVar 9) (aCons (mC (.int 1)) aNil))) aNil))) (vs := [8, 9]) (fun p : Int × Int => .tup [.int p.1, .int p.2]) (fun p : Int × Int => pq ((p.1 : Rat), (p.2 : Rat))) [(-5, -5), (5, -5), (5, 5), (-5, 5)] t4 rfl (by simp) fun p hp => ⟨[.pv (rv R), .pv bx, .pv (.int (-5)), .pv (.int (-5)), .pv (.int 5), .pv (.int 5), .un, .un, .pv (.int p.1), .pv (.int p.2)], rfl, tup_ok (a2_ok (call_ok (a2_ok (mv_ok rfl) (a1_ok ev_C)) (part1_ev _)) (a1_ok (call_ok (a2_ok (mv_ok rfl) (a1_ok ev_C)) (part1_ev _))))⟩
    exact set_ok (v := tq (lo [])) (callB_ok (a1_ok K) rfl)
  rw [B_left_of, seq_nx e1, seq_nx e2, seq_nx e4, seq_nx e5]
  have L := forL_ex (gt := gNm 7) (body := s_left_of_6) (ks := [7]) hp (fun r e s => s = st ∧ ∃ D, R = D ++ r ∧ e = LE R D) R (LE R []) st ⟨rfl, [], rfl, rfl⟩ (by
    rintro h r e s ha ⟨rfl, D, eR, rfl⟩
    have HD : ∀ g ∈ D, HB g := fun g hg => H g (by rw [eR]; exact List.mem_append_left _ hg)
    have l1 := lo_l HD
    have l2 : D.length ≤ R.length := by rw [eR]; simp
    refine ⟨[.pv (rv R), .pv bx, .pv (.int (-5)), .pv (.int (-5)), .pv (.int 5), .pv (.int 5), .pv (tq (lo D)), .pv (hp h), .un, .un], [.pv (rv R), .pv bx, .pv (.int (-5)), .pv (.int (-5)), .pv (.int 5), .pv (.int 5), .pv (tq (cut h (lo D))), .pv (hp h), .un, .un], s, rfl, ?_, rfl, D ++ [h], by rw [eR]; simp, ?_⟩
    · exact set_ok (call_ok (a2_ok (mv_ok rfl) (a1_ok (mv_ok rfl))) (cut_ev (H h ha) (lo_pb HD) (by omega)))
    · rw [← lo_snoc]; rfl)
  obtain ⟨e, s', L, rfl, D, eR, rfl⟩ := L
  rw [List.append_nil] at eR
  subst eR
  refine (seq_nx (show s_left_of_7 _ _ = _ from (for_ev (seq_ev (mv_ok (v := rv R) rfl))).trans L)).trans ?_
  exact ret_ok (mv_ok rfl)
theorem cr_sz (Pu : PB 10 u) (Pv : PB 10 v) : sz (cr u v) ≤ 41 := by
  obtain ⟨u1, u2⟩ := Pu
  obtain ⟨v1, v2⟩ := Pv
  have s1 := sz_mul u.1 v.2
  have s2 := sz_mul u.2 v.1
  have s3 := sz_sub (u.1 * v.2) (u.2 * v.1)
  unfold cr
  omega
def aS (C : List Q2) (n : Nat) : Rat := ((List.range n).map fun k => cr (cyc C k) (cyc C (k + 1))).sum
theorem aS_s (C : List Q2) (n : Nat) : aS C (n + 1) = aS C n + cr (cyc C n) (cyc C (n + 1)) := by
  unfold aS
  rw [List.range_succ, List.map_append, List.sum_append]
  simp [Rat.add_zero]
theorem aS_sz (P : ∀ p ∈ C, PB 10 p) (hC : C ≠ []) : ∀ n, sz (aS C n) ≤ 1 + 42 * n
  | 0 => sz0
  | n + 1 => by
    have ih := aS_sz P hC n
    have c := cr_sz (P _ (cyc_mem (i := n) hC)) (P _ (cyc_mem (i := n + 1) hC))
    have := sz_add (aS C n) (cr (cyc C n) (cyc C (n + 1)))
    rw [aS_s]
    omega
theorem area_ev (P : ∀ p ∈ C, PB 10 p) (hl : C.length ≤ 200) : M_double_area [tq C] st = .ok (fr (ar C)) st := by
  refine fnM_rt ?_
  show B_double_area [.pv (tq C), .un, .un, .un, .un] st = _
  have e1 : s_double_area_1 [.pv (tq C), .un, .un, .un, .un] st = .nx [.pv (tq C), .pv (fr (aS C 0)), .un, .un, .un] st := set_ok (v := fr (aS C 0)) (tup_ok (a2_ok ev_C (a1_ok ev_C)))
  have rg : iRng1M (aCons (mCallB bLen (aCons (mVar 0) aNil)) aNil) [.pv (tq C), .pv (fr (aS C 0)), .un, .un, .un] st = .ok ((List.range C.length).map fun (k : Nat) => .int (k : Int)) st :=
    rng1_ev (a1_ok (callB_ok (a1_ok (mv_ok (v := tq C) rfl)) (by unfold tq; rw [lenT, List.length_map]))) (by omega)
  have L := forL_ex (gt := gNm 2) (body := sSeq s_double_area_2 s_double_area_3) (ks := [2, 3, 4]) (fun (k : Nat) => .int (k : Int)) (fun r e s => s = st ∧ ∃ n, n ≤ C.length ∧ r = List.range' n (C.length - n) ∧ e = [.pv (tq C), .pv (fr (aS C n)), .un, .un, .un]) (List.range C.length) [.pv (tq C), .pv (fr (aS C 0)), .un, .un, .un] st ⟨rfl, 0, by omega, by rw [List.range_eq_range']; rfl, rfl⟩ (by
    rintro k r e s ha ⟨rfl, n, hn, er, rfl⟩
    have lt : n < C.length := by
      rcases Nat.lt_or_ge n C.length with z | z
      · exact z
      · rw [show C.length - n = 0 by omega] at er; cases er
    rw [show C.length - n = (C.length - (n + 1)) + 1 by omega, List.range'_succ] at er
    injection er with h1 h2
    subst h1
    have ne : C ≠ [] := fun z => by rw [z] at lt; cases lt
    have Pu := P _ (cyc_mem (i := k) ne)
    have Pv := P _ (cyc_mem (i := k + 1) ne)
    have i3 := ixM lt s
    have i4 := ixP lt s
    have az := aS_sz P ne k
    have cz := cr_sz Pu Pv
    rw [h2]
    refine ⟨[.pv (tq C), .pv (fr (aS C k)), .pv (nI k), .un, .un], [.pv (tq C), .pv (fr (aS C (k + 1))), .pv (nI k), .pv (pq (cyc C k)), .pv (pq (cyc C (k + 1)))], s, rfl, ?_, rfl, k + 1, by omega, rfl, rfl⟩
    · rw [aS_s]
      generalize cyc C k = u at *
      generalize cyc C (k + 1) = v at *
      obtain ⟨u1, u2⟩ := Pu
      obtain ⟨v1, v2⟩ := Pv
      have s1 := sz_mul u.1 v.2
      have s2 := sz_mul u.2 v.1
      have e2 : s_double_area_2 [.pv (tq C), .pv (fr (aS C k)), .pv (nI k), .un, .un] s = .nx [.pv (tq C), .pv (fr (aS C k)), .pv (nI k), .pv (pq u), .pv (pq v)] s :=
        par_ok (evs := [.pv (pq u), .pv (pq v)]) (vF_ok (ix_ok (mv_ok rfl) (bin_ok (mv_ok (v := nI k) rfl) ev_C pSub_int) i3) (vF_ok (ix_ok (mv_ok rfl) (mv_ok rfl) i4) vN0)) rfl rfl
      refine (seq_nx e2).trans ?_
      have cz : sz (u.1 * v.2 - u.2 * v.1) ≤ 41 := cz
      exact set_ok (v := fr (aS C k + (u.1 * v.2 - u.2 * v.1))) (call_ok (a2_ok (mv_ok rfl) (a1_ok (call_ok (a2_ok (call_ok (a2_ok (ix_ok (mv_ok rfl) ev_C (pq0 u s)) (a1_ok (ix_ok (mv_ok rfl) ev_C (pq1 v s)))) (times_ev (by omega))) (a1_ok (call_ok (a2_ok (ix_ok (mv_ok rfl) ev_C (pq1 u s)) (a1_ok (ix_ok (mv_ok rfl) ev_C (pq0 v s)))) (times_ev (by omega))))) (minus_ev (by omega))))) (plus_ev (by omega))))
  obtain ⟨e, s', L, rfl, n, hn, er, rfl⟩ := L
  have : n = C.length := by
    have := congrArg List.length er
    simp at this
    omega
  subst this
  rw [B_double_area, seq_nx e1]
  refine (seq_nx (show s_double_area_4 _ _ = _ from (for_ev rg).trans L)).trans ?_
  exact ret_ok (mv_ok rfl)
def ahd (p q : Q2) : Prop := p.1 < q.1 ∨ p.1 = q.1 ∧ p.2 < q.2
instance (p q : Q2) : Decidable (ahd p q) := by unfold ahd; infer_instance
theorem ahead_ev (Pp : PB 10 p) (Pq : PB 10 q) : M_is_ahead [pq p, pq q] st = .ok (.bl (decide (ahd p q))) st := by
  obtain ⟨p1, p2⟩ := Pp
  obtain ⟨q1, q2⟩ := Pq
  have e1 := stands_ev (st := st) (a := p.1) (b := q.1) (by omega)
  have e2 := stands_ev (st := st) (a := p.2) (b := q.2) (by omega)
  refine fnM_rt ?_
  show B_is_ahead [.pv (pq p), .pv (pq q), .un] st = _
  have s1 : s_is_ahead_1 [.pv (pq p), .pv (pq q), .un] st = .nx [.pv (pq p), .pv (pq q), .pv (.int (sgn p.1 q.1))] st := set_ok (call_ok (a2_ok (ix_ok (mv_ok rfl) ev_C (pq0 p st)) (a1_ok (ix_ok (mv_ok rfl) ev_C (pq0 q st)))) e1)
  rw [B_is_ahead, seq_nx s1]
  refine ret_ok ?_
  have c1 := bin_ok (env := [.pv (pq p), .pv (pq q), .pv (.int (sgn p.1 q.1))]) (s := st) (mv_ok (i := 2) rfl) (ev_C (v := .int 0)) cLt_int
  have c2 := bin_ok (env := [.pv (pq p), .pv (pq q), .pv (.int (sgn p.1 q.1))]) (s := st) (mv_ok (i := 2) rfl) (ev_C (v := .int 0)) cEq_int
  have c3 := bin_ok (env := [.pv (pq p), .pv (pq q), .pv (.int (sgn p.1 q.1))]) (s := st) (call_ok (n := 2) (M := M_stands) (a2_ok (ix_ok (mv_ok (i := 0) rfl) (ev_C (v := .int 1)) (pq1 p st)) (a1_ok (ix_ok (mv_ok (i := 1) rfl) (ev_C (v := .int 1)) (pq1 q st)))) e2) (ev_C (v := .int 0)) cLt_int
  have l1 := sgn_lt (a := p.1) (b := q.1)
  have g1 := sgn_gt (a := p.1) (b := q.1)
  have l2 := sgn_lt (a := p.2) (b := q.2)
  rw [ev_eOr, c1, ev_bindR]
  by_cases x : p.1 < q.1
  · rw [decide_eq_true (l1.mpr x), decide_eq_true (show ahd p q from .inl x)]; rfl
  · have nx : ¬ sgn p.1 q.1 < 0 := fun z => x (l1.mp z)
    rw [decide_eq_false nx]
    simp only [tru_bl]
    rw [ev_eAnd, c2, ev_bindR]
    by_cases y : q.1 < p.1
    · have := g1.mpr y
      have n0 : sgn p.1 q.1 ≠ 0 := by omega
      have ne : ¬ ahd p q := fun z => by
        rcases z with z | ⟨z, _⟩
        · exact x z
        · rw [z] at y; grind
      rw [decide_eq_false n0, decide_eq_false ne]; rfl
    · have ny : ¬ 0 < sgn p.1 q.1 := fun z => y (g1.mp z)
      have n0 : sgn p.1 q.1 = 0 := by omega
      have e : p.1 = q.1 := by grind
      rw [decide_eq_true n0]
      simp only [tru_bl]
      rw [c3]
      congr 2
      rw [decide_eq_decide]
      constructor
      · exact fun z => .inr ⟨e, l2.mp z⟩
      · rintro (z | ⟨_, z⟩)
        · exact absurd z x
        · exact l2.mpr z
def gv (g : Int × Int) (p : Q2) : Rat := (g.1 : Rat) * p.1 + (g.2 : Rat) * p.2
def bo (g : Int × Int) : Option Q2 → PV
  | none => .non
  | some p => .tup [fr (gv g p), pq p]
theorem gv_sz {g : Int × Int} (h1 : g.1.natAbs ≤ 20) (h2 : g.2.natAbs ≤ 20) (P : PB 10 p) : sz (gv g p) ≤ 41 := by
  obtain ⟨p1, p2⟩ := P
  have z1 := szI (i := g.1) (by omega)
  have z2 := szI (i := g.2) (by omega)
  have s1 := sz_mul (g.1 : Rat) p.1
  have s2 := sz_mul (g.2 : Rat) p.2
  have s3 := sz_add ((g.1 : Rat) * p.1) ((g.2 : Rat) * p.2)
  unfold gv
  omega
theorem gvE {g : Int × Int} {env : MEnv} {i : Nat} {x y : Rat} {m1 m2 : EM} (h1 : g.1.natAbs ≤ 20) (h2 : g.2.natAbs ≤ 20) (P : PB 10 (x, y)) (hi : env[i]? = some (.pv (tp g))) (hx : m1 env st = .ok (fr x) st) (hy : m2 env st = .ok (fr y) st) :
    mCall 2 M_plus (aCons (mCall 2 M_times (aCons (mTup (aCons (mIx (mVar i) (mC (.int 0))) (aCons (mC (.int 1)) aNil))) (aCons m1 aNil))) (aCons (mCall 2 M_times (aCons (mTup (aCons (mIx (mVar i) (mC (.int 1))) (aCons (mC (.int 1)) aNil))) (aCons m2 aNil))) aNil)) env st = .ok (fr (gv g (x, y))) st := by
  obtain ⟨p1, p2⟩ := P
  dsimp only at p1 p2
  have z1 := szI (i := g.1) (by omega)
  have z2 := szI (i := g.2) (by omega)
  have s1 := sz_mul (g.1 : Rat) x
  have s2 := sz_mul (g.2 : Rat) y
  have i1 : ixV st (tp g) (.int 0) = some (.int g.1) := rfl
  have i2 : ixV st (tp g) (.int 1) = some (.int g.2) := rfl
  have f1 : mTup (aCons (mIx (mVar i) (mC (.int 0))) (aCons (mC (.int 1)) aNil)) env st = .ok (fr (g.1 : Rat)) st := tup_ok (a2_ok (ix_ok (mv_ok hi) ev_C i1) (a1_ok ev_C))
  have f2 : mTup (aCons (mIx (mVar i) (mC (.int 1))) (aCons (mC (.int 1)) aNil)) env st = .ok (fr (g.2 : Rat)) st := tup_ok (a2_ok (ix_ok (mv_ok hi) ev_C i2) (a1_ok ev_C))
  exact call_ok (a2_ok (call_ok (a2_ok f1 (a1_ok hx)) (times_ev (by omega))) (a1_ok (call_ok (a2_ok f2 (a1_ok hy)) (times_ev (by omega))))) (plus_ev (by omega))
def Bst (g : Int × Int) (D : List Q2) : Option Q2 → Prop
  | none => D = []
  | some p => p ∈ D ∧ ∀ q ∈ D, gv g q ≤ gv g p
abbrev gE (R : List HP) (g : Int × Int) (b : PV) (x y z : EV) : MEnv := [.pv (rv R), .pv bx, .pv (tp g), .pv b, x, y, z]
theorem great_ev {g : Int × Int} (h1 : g.1.natAbs ≤ 20) (h2 : g.2.natAbs ≤ 20) (H : ∀ g ∈ R, HB g) (hl : R.length ≤ 100) : ∃ b, Bst g (lo R) b ∧ M_greatest [rv R, bx, tp g] st = .ok (bo g b) st := by
  have pb := lo_pb H
  have e1 : s_greatest_1 [.pv (rv R), .pv bx, .pv (tp g), .un, .un, .un, .un] st = .nx (gE R g .non .un .un .un) st := set_ok ev_C
  have L := forL_ex (gt := gNm 4) (body := sSeq s_greatest_2 (sSeq s_greatest_3 s_greatest_5)) (ks := [4, 5, 6]) pq (fun r e s => s = st ∧ ∃ D b, lo R = D ++ r ∧ Bst g D b ∧ e = gE R g (bo g b) .un .un .un) (lo R) (gE R g .non .un .un .un) st ⟨rfl, [], none, rfl, rfl, rfl⟩ (by
    rintro p r e s ha ⟨rfl, D, b, eR, B, rfl⟩
    have Pp := pb p ha
    have zp := gv_sz (g := g) h1 h2 Pp
    have c2 : s_greatest_2 (gE R g (bo g b) (.pv (pq p)) .un .un) s = .nx (gE R g (bo g b) (.pv (pq p)) (.pv (fr (gv g p))) .un) s :=
      set_ok (gvE (x := p.1) (y := p.2) h1 h2 Pp rfl (ix_ok (mv_ok rfl) ev_C (pq0 p s)) (ix_ok (mv_ok rfl) ev_C (pq1 p s)))
    have new : s_greatest_4 (gE R g (bo g b) (.pv (pq p)) (.pv (fr (gv g p))) (.pv (.int 1))) s = .nx (gE R g (bo g (some p)) (.pv (pq p)) (.pv (fr (gv g p))) (.pv (.int 1))) s := set_ok (tup_ok (a2_ok (mv_ok rfl) (a1_ok (mv_ok rfl))))
    have fin : ∀ {e : MEnv} {b'}, (sSeq s_greatest_2 (sSeq s_greatest_3 s_greatest_5)) (gE R g (bo g b) (.pv (pq p)) .un .un) s = .nx e s → killE [4, 5, 6] e = gE R g (bo g b') .un .un .un → Bst g (D ++ [p]) b' → ∃ e1 e st', gNm 4 (pq p) (gE R g (bo g b) .un .un .un) = some e1 ∧ (sSeq s_greatest_2 (sSeq s_greatest_3 s_greatest_5)) e1 s = .nx e st' ∧ st' = s ∧ ∃ D b, lo R = D ++ r ∧ Bst g D b ∧ killE [4, 5, 6] e = gE R g (bo g b) .un .un .un := fun {e b'} q1 q2 q3 => ⟨_, e, s, rfl, q1, rfl, D ++ [p], b', by rw [eR]; simp, q3, q2⟩
    cases b with
    | none =>
      have B : D = [] := B
      subst B
      have c3 : s_greatest_3 (gE R g (bo g none) (.pv (pq p)) (.pv (fr (gv g p))) .un) s = .nx (gE R g (bo g none) (.pv (pq p)) (.pv (fr (gv g p))) (.pv (.int 1))) s := set_ok ((eIf_ok (tbin_ok (mv_ok (v := .non) rfl) ev_C (c := true) rfl)).trans (by rw [if_pos rfl]; rfl))
      have c5 : s_greatest_5 (gE R g (bo g none) (.pv (pq p)) (.pv (fr (gv g p))) (.pv (.int 1))) s = .nx (gE R g (bo g (some p)) (.pv (pq p)) (.pv (fr (gv g p))) (.pv (.int 1))) s := by
        refine (ifT_ok ?_).trans new
        unfold tOrM
        rw [tbin_ok (mv_ok (v := .int 1) rfl) ev_C (cGt_int (i := 1) (j := 0)), ev_bindR]
        rfl
      exact fin ((seq_nx c2).trans ((seq_nx c3).trans c5)) rfl ⟨by simp, fun q hq => by
        rw [List.nil_append, List.mem_singleton] at hq
        rw [hq]; exact Rat.le_refl⟩
    | some o =>
      obtain ⟨B1, B2⟩ := B
      have Po := pb o (by rw [eR]; exact List.mem_append_left _ B1)
      have zo := gv_sz (g := g) h1 h2 Po
      have i0 : ixV s (bo g (some o)) (.int 0) = some (fr (gv g o)) := rfl
      have i1 : ixV s (bo g (some o)) (.int 1) = some (pq o) := rfl
      have c3 : s_greatest_3 (gE R g (bo g (some o)) (.pv (pq p)) (.pv (fr (gv g p))) .un) s = .nx (gE R g (bo g (some o)) (.pv (pq p)) (.pv (fr (gv g p))) (.pv (.int (sgn (gv g p) (gv g o))))) s :=
        set_ok ((eIf_ok (tbin_ok (mv_ok (v := bo g (some o)) rfl) ev_C (c := false) rfl)).trans (by
          rw [if_neg (by decide)]
          exact call_ok (a2_ok (mv_ok rfl) (a1_ok (ix_ok (mv_ok rfl) ev_C i0))) (stands_ev (by omega))))
      have new : s_greatest_4 (gE R g (bo g (some o)) (.pv (pq p)) (.pv (fr (gv g p))) (.pv (.int (sgn (gv g p) (gv g o))))) s = .nx (gE R g (bo g (some p)) (.pv (pq p)) (.pv (fr (gv g p))) (.pv (.int (sgn (gv g p) (gv g o))))) s := set_ok (tup_ok (a2_ok (mv_ok rfl) (a1_ok (mv_ok rfl))))
      have t1 := tbin_ok (env := gE R g (bo g (some o)) (.pv (pq p)) (.pv (fr (gv g p))) (.pv (.int (sgn (gv g p) (gv g o))))) (s := s) (mv_ok (i := 6) rfl) (ev_C (v := .int 0)) cGt_int
      have t2 := tbin_ok (env := gE R g (bo g (some o)) (.pv (pq p)) (.pv (fr (gv g p))) (.pv (.int (sgn (gv g p) (gv g o))))) (s := s) (mv_ok (i := 6) rfl) (ev_C (v := .int 0)) cEq_int
      have t3 : tVal (mCall 2 M_is_ahead (aCons (mVar 4) (aCons (mIx (mVar 3) (mC (.int 1))) aNil))) (gE R g (bo g (some o)) (.pv (pq p)) (.pv (fr (gv g p))) (.pv (.int (sgn (gv g p) (gv g o))))) s = .ok (decide (ahd p o)) s := tval_ok (call_ok (a2_ok (mv_ok rfl) (a1_ok (ix_ok (mv_ok rfl) ev_C i1))) (ahead_ev Pp Po))
      have sg := sgn_gt (a := gv g p) (b := gv g o)
      have sl := sgn_lt (a := gv g p) (b := gv g o)
      have tt : ∃ c, (tOrM (tBin cGt (mVar 6) (mC (.int 0))) (tAndM (tBin cEq (mVar 6) (mC (.int 0))) (tVal (mCall 2 M_is_ahead (aCons (mVar 4) (aCons (mIx (mVar 3) (mC (.int 1))) aNil)))))) (gE R g (bo g (some o)) (.pv (pq p)) (.pv (fr (gv g p))) (.pv (.int (sgn (gv g p) (gv g o))))) s = .ok c s ∧ (c = true → gv g o ≤ gv g p) ∧ (c = false → gv g p ≤ gv g o) := by
        unfold tOrM
        rw [t1, ev_bindR]
        by_cases q1 : 0 < sgn (gv g p) (gv g o)
        · rw [if_pos (by simpa using q1)]
          exact ⟨true, rfl, (fun _ => by have := sg.mp q1; grind), (fun z => nomatch z)⟩
        · rw [if_neg (by simpa using q1)]
          have le : gv g p ≤ gv g o := by have : ¬ gv g o < gv g p := fun y => q1 (sg.mpr y); grind
          unfold tAndM
          rw [t2, ev_bindR]
          by_cases q2 : sgn (gv g p) (gv g o) = 0
          · rw [if_pos (by simpa using q2), t3]
            exact ⟨_, rfl, fun _ => by have : ¬ gv g p < gv g o := fun y => by have := sl.mpr y; omega
                                       grind, fun _ => le⟩
          · rw [if_neg (by simpa using q2)]
            exact ⟨false, rfl, (fun z => nomatch z), fun _ => le⟩
      obtain ⟨c, tt, k1, k2⟩ := tt
      cases c with
      | true =>
        have le := k1 rfl
        exact fin ((seq_nx c2).trans ((seq_nx c3).trans ((ifT_ok tt).trans new))) rfl ⟨by simp, fun q hq => by
          rcases List.mem_append.mp hq with hq | hq
          · have := B2 q hq; grind
          · rw [List.mem_singleton] at hq; rw [hq]; exact Rat.le_refl⟩
      | false =>
        have le := k2 rfl
        exact fin ((seq_nx c2).trans ((seq_nx c3).trans (ifF_ok tt))) rfl ⟨List.mem_append_left _ B1, fun q hq => by
          rcases List.mem_append.mp hq with hq | hq
          · exact B2 q hq
          · rw [List.mem_singleton] at hq; rw [hq]; exact le⟩)
  obtain ⟨e, s', L, rfl, D, b, eR, B, rfl⟩ := L
  rw [List.append_nil] at eR
  refine ⟨b, by rw [eR]; exact B, fnM_rt ?_⟩
  show B_greatest [.pv (rv R), .pv bx, .pv (tp g), .un, .un, .un, .un] _ = _
  rw [B_greatest, seq_nx e1]
  refine (seq_nx (show s_greatest_6 _ _ = _ from (for_ev (seqT_ev (call_ok (a2_ok (mv_ok rfl) (a1_ok (mv_ok rfl))) (left_ev H hl)))).trans L)).trans ?_
  exact ret_ok (mv_ok rfl)
end
end K17
end
section
set_option maxRecDepth 100000
set_option maxHeartbeats 1000000
namespace Pg
section
variable {S : List HP} {C : List Q2} {R R' A B : List HP} {h : HP} {p u v : Q2}
theorem flat1 {α β : Type} (f : α → β) : ∀ l : List α, (l.flatMap fun k => [f k]) = l.map f
  | [] => rfl
  | a :: l => by rw [List.flatMap_cons, flat1 f l]; rfl
theorem flat_c {α β : Type} {f g : α → List β} : ∀ {l : List α}, (∀ a ∈ l, f a = g a) → l.flatMap f = l.flatMap g
  | [], _ => rfl
  | a :: l, h => by rw [List.flatMap_cons, List.flatMap_cons, h a List.mem_cons_self, flat_c fun b hb => h b (List.mem_cons_of_mem _ hb)]
theorem em_in (hu : vl h u ≤ 0) (hv : vl h v ≤ 0) : em h u v = [v] := by unfold em; rw [if_neg (not_cross hu hv), if_pos hv]; rfl
theorem cutR_id (hC : ∀ p ∈ C, vl h p ≤ 0) : cutR h C = C := by
  by_cases ne : C = []
  · subst ne; rfl
  · unfold cutR
    rw [flat_c (g := fun k => [cyc C (k + 1)]) fun k _ => em_in (hC _ (cyc_mem ne)) (hC _ (cyc_mem ne)), flat1]
    exact cyc_list C
theorem ded_id (O : Ok S C) : ded C = C := by
  rcases O.shp with ⟨rfl, _⟩ | ⟨u, rfl, _⟩ | ⟨u, v, rfl, ne, _⟩ | ⟨h3, sc, _⟩
  · rfl
  · exact ded1 u
  · exact ded2 ne
  · exact ded_all fun k _ => .inl ((sc.cy h3).ne k).symm
theorem cut_id (O : Ok S C) (hC : ∀ p ∈ C, vl h p ≤ 0) : cut h C = C := by unfold cut; rw [cutR_id hC, ded_id O]
theorem fold_id (O : Ok S C) : ∀ L : List HP, (∀ g ∈ L, ∀ p ∈ C, vl g p ≤ 0) → L.foldl (fun C h => cut h C) C = C
  | [], _ => rfl
  | g :: L, h => by rw [List.foldl_cons, cut_id O (h g List.mem_cons_self)]; exact fold_id O L fun x hx => h x (List.mem_cons_of_mem _ hx)
theorem lo_twice (R : List HP) : lo (R ++ R) = lo R := by
  show (R ++ R).foldl (fun C h => cut h C) C0 = _
  rw [List.foldl_append]
  exact fold_id (lo_ok R) R fun g hg p hp => (lo_in hp).1 g hg
theorem lo_sn (R : List HP) (h : HP) : lo (R ++ [h]) = cut h (lo R) := by unfold lo; rw [List.foldl_append]; rfl
theorem ar_same (h : ∀ p, RS R p ↔ RS R' p) : ar (lo R) = ar (lo R') := (lo_ok R).ar_eq (lo_ok R') fun p => by rw [rs_lo, rs_lo, h]
theorem lo_same (h : ∀ p, RS R p ↔ RS R' p) : (lo R).Perm (lo R') := (lo_ok R).perm (lo_ok R') fun p => by rw [rs_lo, rs_lo, h]
theorem rs_rev : RS R.reverse p ↔ RS R p := by unfold RS; simp only [List.mem_reverse]
def tri (h : HP) : HP := (3 * h.1, 3 * h.2.1, 3 * h.2.2)
theorem vl_tri : vl (tri h) p = 3 * vl h p := by
  have e3 : ((3 : Int) : Rat) = 3 := rfl
  unfold vl tri
  dsimp only
  rw [Rat.intCast_mul, Rat.intCast_mul, Rat.intCast_mul, e3]; grind
theorem rs_tri : RS (R.map tri) p ↔ RS R p := by
  unfold RS
  constructor
  · intro h g hg
    have := h _ (List.mem_map.mpr ⟨g, hg, rfl⟩)
    rw [vl_tri] at this
    grind
  · intro h g hg
    obtain ⟨x, hx, rfl⟩ := List.mem_map.mp hg
    have := h x hx
    rw [vl_tri]
    grind
theorem rs_mid : RS (A ++ h :: B) p ↔ vl h p ≤ 0 ∧ RS (A ++ B) p := by
  unfold RS
  constructor
  · exact fun H => ⟨H h (by simp), fun g hg => H g (by rcases List.mem_append.mp hg with q | q <;> simp [q])⟩
  · rintro ⟨h1, h2⟩ g hg
    rcases List.mem_append.mp hg with q | q
    · exact h2 g (List.mem_append_left _ q)
    · rcases List.mem_cons.mp q with rfl | q
      · exact h1
      · exact h2 g (List.mem_append_right _ q)
theorem ar_mid : ar (lo (A ++ h :: B)) = ar (cut h (lo (A ++ B))) := by
  refine (lo_ok _).ar_eq (lo_ok (A ++ B)).cut fun p => ?_
  rw [rs_lo, RS.cons, rs_lo, rs_mid]
  exact and_assoc
theorem ar_both (hn : Nz h) : ar (lo (A ++ h :: B)) + ar (lo (A ++ B ++ [ng h])) = ar (lo (A ++ B)) := by
  rw [ar_mid, lo_sn]
  exact ar_split (lo_ok _) hn
theorem ar_less (hn : Nz h) : ar (lo (A ++ h :: B)) ≤ ar (lo (A ++ B)) := by
  have e := ar_both (A := A) (B := B) hn
  have n := ar_nn (lo_ok (A ++ B ++ [ng h]))
  grind
theorem pt_ex (hz : ∀ g ∈ R, Nz g) : (∃ p, RS R p) ↔ ¬ Rf R.reverse := by
  constructor
  · rintro ⟨p, hp⟩ F
    exact F.not (rs_rev.mpr hp)
  · intro nF
    rcases fk (R := R.reverse) fun g hg => hz g (List.mem_reverse.mp hg) with ⟨q, _, rq⟩ | F
    · exact ⟨q, rs_rev.mp rq⟩
    · exact absurd F nF
end
end Pg
end
section
set_option maxRecDepth 100000
set_option maxHeartbeats 1000000
namespace K17
open PySem L2 Mp Pg
theorem pAdd_lst {xs ys : List PV} (h : xs.length + ys.length ≤ 1000000) : pAdd (.lst xs) (.lst ys) = some (.lst (xs ++ ys)) := by unfold pAdd; dsimp only; rw [if_pos h]
theorem pds_map {α : Type} (f : α → PV) (n : Nat) (h : ∀ a, pd n (f a) = true) : ∀ xs : List α, pds n (xs.map f) = true
  | [] => by rw [List.map_nil]; unfold pds; rfl
  | a :: xs => by rw [List.map_cons]; unfold pds; rw [h a, pds_map f n h xs]; rfl
theorem pd_pq (n : Nat) (q : Q2) : pd (n + 2) (pq q) = true := by simp [pq, fr, pd, pds]
theorem isD_tq (C : List Q2) : isD (tq C) = true := by unfold isD tq pd; exact pds_map _ 59 (fun a => pd_pq 57 _) C
theorem cEq_tq (C : List Q2) : cEq (tq C) (.tup []) = some (.bl C.isEmpty) := by
  have d := isD_tq C
  have d2 : isD (.tup []) = true := rfl
  unfold cEq
  rw [d, d2]
  cases C with
  | nil => rfl
  | cons a C => rfl
section
variable {a b t : Rat} {st : Sto} {g h : HP} {R : List HP} {C : List Q2} {k n : Nat} {u v p q : Q2}
theorem bx_ok {env : MEnv} : mTup (aCons (mBin pSub (mC (.int 0)) (mC (.int 5))) (aCons (mBin pSub (mC (.int 0)) (mC (.int 5))) (aCons (mC (.int 5)) (aCons (mC (.int 5)) aNil)))) env st = .ok bx st :=
  tup_ok (a2_ok (bin_ok ev_C ev_C pSub_int) (a2_ok (bin_ok ev_C ev_C pSub_int) (a2_ok ev_C (a1_ok ev_C))))
theorem HB.ng (H : HB h) : HB (Pg.ng h) := ⟨ng_n H.nz, by show (-h.1).natAbs ≤ 20; have := H.a; omega, by show (-h.2.1).natAbs ≤ 20; have := H.b; omega, by show (-h.2.2).natAbs ≤ 20; have := H.c; omega⟩
theorem ar_sz (P : ∀ p ∈ C, PB 10 p) : sz (ar C) ≤ 1 + 42 * C.length := by
  by_cases ne : C = []
  · subst ne; exact sz0
  · exact aS_sz P ne C.length
theorem area_lo (H : ∀ g ∈ R, HB g) (hl : R.length ≤ 50) : M_double_area [tq (lo R)] st = .ok (fr (ar (lo R))) st := area_ev (lo_pb H) (by have := lo_l H; omega)
theorem area_sz (H : ∀ g ∈ R, HB g) (hl : R.length ≤ 50) : sz (ar (lo R)) ≤ 2500 := by
  have := lo_l H
  have := ar_sz (lo_pb H)
  omega
theorem area_call (H : ∀ g ∈ R, HB g) (hl : R.length ≤ 50) : M_law_area [rv R, bx] st = .ok (fr (ar (lo R))) st := by
  refine fnM_rt ?_
  show B_law_area [.pv (rv R), .pv bx] st = _
  exact ret_ok (call_ok (a1_ok (call_ok (a2_ok (mv_ok rfl) (a1_ok (mv_ok rfl))) (left_ev H (by omega)))) (area_lo H hl))
theorem rev_ok {env : MEnv} {i : Nat} (hi : env[i]? = some (.pv (rv R))) : mLstRev (mVar i) env st = .ok (rv R.reverse) st := by
  unfold mLstRev
  rw [mv_ok hi, ev_bindR]
  show MRes.ok (PV.lst (R.map hp).reverse) st = _
  rw [← List.map_reverse]
theorem rev_hb (H : ∀ g ∈ R, HB g) : ∀ g ∈ R.reverse, HB g := fun g hg => H g (List.mem_reverse.mp hg)
theorem apoint_ev (H : ∀ g ∈ R, HB g) (hl : R.length ≤ 100) : ∃ v, M_a_point [rv R] st = .ok v st ∧ (isN v = true ↔ ¬ ∃ p, RS R p) := by
  have ap := a_point_ev (st := st) H hl
  cases f : (cand R.reverse).find? (fun q => decide (RS R q)) with
  | some q =>
    rw [f] at ap
    have rs : RS R q := by simpa using List.find?_some f
    exact ⟨_, ap, (fun z => nomatch z), fun z => absurd ⟨q, rs⟩ z⟩
  | none =>
    rw [f] at ap
    refine ⟨_, ap, fun _ => ?_, fun _ => rfl⟩
    rw [pt_ex fun g hg => (H g hg).nz]
    rcases fk (R := R.reverse) fun g hg => (H g (List.mem_reverse.mp hg)).nz with ⟨q, hq, rq⟩ | F
    · have := find_mem f q hq
      have rs : RS R q := rs_rev.mp rq
      simp [rs] at this
    · exact fun z => z F
theorem refut_ev (H : ∀ g ∈ R, HB g) (hl : R.length ≤ 100) : ∃ v st', Ext st st' ∧ M_refutation [rv R] st = .ok v st' ∧ (isN v = true ↔ ∃ p, RS R p) := by
  obtain ⟨s', es, rf⟩ := ref_ev (st := st) H hl
  rcases rf with ⟨e, nR⟩ | ⟨w, K, e⟩
  · exact ⟨_, s', es, e, (fun _ => (pt_ex fun g hg => (H g hg).nz).mpr nR), fun _ => rfl⟩
  · exact ⟨_, s', es, e, (fun z => nomatch z), fun ⟨p, hp⟩ => absurd hp K.not⟩
theorem isN_ev (v : PV) : cIsN v .non = some (.bl (isN v)) := rfl
theorem same_b {a b : Bool} {P : Prop} (h1 : a = true ↔ P) (h2 : b = true ↔ P) : a = b := by rw [Bool.eq_iff_iff, h1, h2]
theorem pvLt_fr (a b : Rat) : pvLt (fr a) (fr b) = (decide (a.num < b.num) || (decide (a.num = b.num) && decide ((a.den : Int) < b.den))) := by
  unfold fr
  simp only [pvLt, pvLts, pvEq_int]
  by_cases h : a.num = b.num
  · have : ¬ a.num < b.num := by omega
    by_cases h2 : (a.den : Int) = b.den
    · simp [h, h2]
    · simp [h, h2]
  · simp [h]
def frL (a b : Rat) : Prop := a.num < b.num ∨ a.num = b.num ∧ (a.den : Int) < b.den
theorem frL_iff (a b : Rat) : pvLt (fr a) (fr b) = true ↔ frL a b := by
  rw [pvLt_fr]
  unfold frL
  simp
theorem fr_tri (a b : Rat) (h1 : ¬ frL a b) (h2 : ¬ frL b a) : a = b := by
  unfold frL at h1 h2
  exact Rat.ext (by omega) (by omega)
theorem pvLt_pq (p q : Q2) : pvLt (pq p) (pq q) = true ↔ frL p.1 q.1 ∨ p.1 = q.1 ∧ frL p.2 q.2 := by
  unfold pq
  simp only [pvLt, pvLts, pvEq_fr]
  by_cases h : p.1 = q.1
  · have irr : ¬ frL q.1 q.1 := by unfold frL; omega
    by_cases h2 : p.2 = q.2
    · have irr2 : ¬ frL q.2 q.2 := by unfold frL; omega
      simp [h, h2, irr, irr2]
    · simp [h, h2, irr, frL_iff]
  · simp [h, frL_iff]
theorem pq_tri (p q : Q2) (h1 : ¬ pvLt (pq p) (pq q) = true) (h2 : ¬ pvLt (pq q) (pq p) = true) : p = q := by
  rw [pvLt_pq] at h1 h2
  have e : p.1 = q.1 := fr_tri _ _ (fun z => h1 (.inl z)) fun z => h2 (.inl z)
  exact Prod.ext e (fr_tri _ _ (fun z => h1 (.inr ⟨e, z⟩)) fun z => h2 (.inr ⟨e.symm, z⟩))
theorem pq_tr (p q r : Q2) (h1 : pvLt (pq p) (pq q) = true) (h2 : pvLt (pq q) (pq r) = true) : pvLt (pq p) (pq r) = true := by
  rw [pvLt_pq] at *
  rcases h1 with h1 | ⟨e1, h1⟩
  · rcases h2 with h2 | ⟨e2, h2⟩
    · left; unfold frL at *; omega
    · left; rw [← e2]; exact h1
  · rcases h2 with h2 | ⟨e2, h2⟩
    · left; rw [e1]; exact h2
    · right; refine ⟨e1.trans e2, ?_⟩; unfold frL at *; omega
theorem pq_irr (p : Q2) : ¬ pvLt (pq p) (pq p) = true := by
  rw [pvLt_pq]
  unfold frL
  omega
theorem sort_pq {D : List Q2} (h : C.Perm D) : pvSort (C.map pq) = pvSort (D.map pq) := by
  have e : ∀ C : List Q2, pvSort (C.map pq) = (C.mergeSort fun p q => !pvLt (pq q) (pq p)).map pq := fun C => by
    unfold pvSort
    rw [List.map_mergeSort]
    exact fun p _ q _ => rfl
  rw [e, e]
  congr 1
  have tr : ∀ X Y Z : Q2, (!pvLt (pq Y) (pq X)) = true → (!pvLt (pq Z) (pq Y)) = true → (!pvLt (pq Z) (pq X)) = true := fun X Y Z h1 h2 => by
    rw [Bool.not_eq_true'] at *
    cases c : pvLt (pq Z) (pq X) with
    | false => rfl
    | true =>
      by_cases d : pvLt (pq X) (pq Y) = true
      · rw [pq_tr _ _ _ c d] at h2; cases h2
      · have := pq_tri X Y d (by rw [h1]; decide)
        rw [this, h2] at c; cases c
  have to : ∀ X Y : Q2, ((!pvLt (pq Y) (pq X)) || (!pvLt (pq X) (pq Y))) = true := fun X Y => by
    rw [Bool.or_eq_true, Bool.not_eq_true', Bool.not_eq_true']
    cases c : pvLt (pq Y) (pq X) with
    | false => exact .inl rfl
    | true =>
      right
      cases d : pvLt (pq X) (pq Y) with
      | false => rfl
      | true => exact absurd (pq_tr _ _ _ c d) (pq_irr _)
  refine List.Perm.eq_of_pairwise (le := fun X Y : Q2 => (!pvLt (pq Y) (pq X)) = true) (fun X Y _ _ h1 h2 => ?_) (List.pairwise_mergeSort (le := fun X Y : Q2 => !pvLt (pq Y) (pq X)) tr to C) (List.pairwise_mergeSort (le := fun X Y : Q2 => !pvLt (pq Y) (pq X)) tr to D) ((List.mergeSort_perm _ _).trans (h.trans (List.mergeSort_perm _ _).symm))
  rw [Bool.not_eq_true'] at h1 h2
  exact pq_tri X Y (by rw [h2]; decide) (by rw [h1]; decide)
theorem sorted_pq (C : List Q2) : bSorted3 st [tq C] = some (pvSort (C.map pq)) := by
  have h : sortOk (C.map pq) = true := by
    unfold sortOk
    simp only [Bool.and_eq_true, Bool.or_eq_true, List.all_eq_true, List.mem_map]
    refine ⟨⟨?_, ?_⟩, .inl ?_⟩
    · rintro x ⟨a, _, rfl⟩; exact pd_pq 57 a
    · rintro x ⟨a, _, rfl⟩ y ⟨b, _, rfl⟩; rfl
    · rintro x ⟨a, _, rfl⟩; rfl
  show (if sortOk (C.map pq) = true then some (pvSort (C.map pq)) else none) = _
  rw [if_pos h]
theorem isD_srt (C : List Q2) : isD (.lst (pvSort (C.map pq))) = true := by
  have e : pvSort (C.map pq) = (C.mergeSort fun p q => !pvLt (pq q) (pq p)).map pq := by
    unfold pvSort
    rw [List.map_mergeSort]
    exact fun p _ q _ => rfl
  rw [e]
  unfold isD pd
  exact pds_map _ 59 (fun a => pd_pq 57 _) _
theorem cNe_tq0 (C : List Q2) : cNe (tq C) (.tup []) = some (.bl (!C.isEmpty)) := by
  have d := isD_tq C
  have d2 : isD (.tup []) = true := rfl
  unfold cNe
  rw [d, d2]
  cases C with
  | nil => rfl
  | cons a C => rfl
theorem gv_neg (g : Int × Int) (p : Q2) : gv (-g.1, -g.2) p = - gv g p := by
  unfold gv
  rw [Rat.intCast_neg, Rat.intCast_neg]
  grind
end
end K17
end
section
set_option maxRecDepth 100000
set_option maxHeartbeats 1000000
namespace K17
open PySem L2 Mp Pg
structure Dr (h : HP) : Prop where
  nz : Nz h
  a : h.1.natAbs ≤ 3
  b : h.2.1.natAbs ≤ 3
  c : h.2.2.natAbs ≤ 6
theorem Dr.hb {h : HP} (H : Dr h) : HB h := ⟨H.nz, by have := H.a; omega, by have := H.b; omega, by have := H.c; omega⟩
structure Rw (R : List HP) : Prop where
  dr : ∀ g ∈ R, Dr g
  len : R.length ≤ 5
theorem Rw.hb {R : List HP} (H : Rw R) : ∀ g ∈ R, HB g := fun g hg => (H.dr g hg).hb
theorem for_ev2 {mi : AM} {gt : PV → MEnv → Option MEnv} {b : SM} {ks : List Nat} {env : MEnv} {st s1 : Sto} {xs : List PV} (h : mi env st = .ok xs s1) : sFor mi gt b ks env st = forL gt b ks xs env s1 := by rw [ev_for, h]; rfl
theorem tand_ok {a b : TM} {env : MEnv} {s s1 s2 : Sto} {c d : Bool} (ha : a env s = .ok c s1) (hb : c = true → b env s1 = .ok d s2) (hc : c = false → s2 = s1) (hd : c = false → d = false) : tAndM a b env s = .ok d s2 := by
  unfold tAndM
  rw [ha, ev_bindR]
  cases c with
  | true => rw [if_pos rfl]; exact hb rfl
  | false => rw [if_neg Bool.false_ne_true, hc rfl, hd rfl]
section
variable {k d0 : Nat} {st : Sto} {zs : List Int} {R : List HP} {g : Int × Int} {b c : Option Q2}
theorem l6 (G : Gk k st) (hn : d0 < k) : ∃ (R : List HP) (s' : Sto), s_law_6 [.pv (pInts zs), .pv bx, .pv (.ref d0), .own (.lst []), .un, .un, .un, .un, .un, .un, .un, .un, .un, .un] st = .nx [.pv (pInts zs), .pv bx, .pv (.ref d0), .own (.lst (R.map hp)), .un, .un, .un, .un, .un, .un, .un, .un, .un, .un] s' ∧ Rw R ∧ Gk k s' := by
  obtain ⟨v, s1, e1, b1, b2, g1, _⟩ := rollK (i := 2) (m := 6) (me := mC (.int 6)) (env := [.pv (pInts zs), .pv bx, .pv (.ref d0), .own (.lst []), .un, .un, .un, .un, .un, .un, .un, .un, .un, .un]) G hn rfl ev_C (by decide) (by decide)
  obtain ⟨t, rfl⟩ : ∃ t : Nat, v = (t : Int) := ⟨v.toNat, by omega⟩
  have e1 : mCall 2 M_law_roll (aCons (mVar 2) (aCons (mC (.int 6)) aNil)) [.pv (pInts zs), .pv bx, .pv (.ref d0), .own (.lst []), .un, .un, .un, .un, .un, .un, .un, .un, .un, .un] st = .ok (.int (t : Int)) s1 := e1
  have rg := rng1_ev2 (a1_ok e1) (by omega)
  have L := forL_ex (gt := gNm 4) (body := sSeq s_law_3 s_law_5) (ks := [4, 5, 6]) (fun (k : Nat) => .int (k : Int)) (fun r e s => Gk k s ∧ ∃ D : List HP, (∀ g ∈ D, Dr g) ∧ D.length + r.length ≤ 5 ∧ e = [.pv (pInts zs), .pv bx, .pv (.ref d0), .own (.lst (D.map hp)), .un, .un, .un, .un, .un, .un, .un, .un, .un, .un]) (List.range t) [.pv (pInts zs), .pv bx, .pv (.ref d0), .own (.lst []), .un, .un, .un, .un, .un, .un, .un, .un, .un, .un] s1 ⟨g1, [], (fun g hg => nomatch hg), by simp; omega, rfl⟩ (by
    rintro j r e s ha ⟨g, D, hD, lD, rfl⟩
    rw [List.length_cons] at lD
    obtain ⟨p, s2, e2, pb, g2, _⟩ := pointK (m := 3) g hn (by decide)
    have e2 : s_law_3 [.pv (pInts zs), .pv bx, .pv (.ref d0), .own (.lst (D.map hp)), .pv (nI j), .un, .un, .un, .un, .un, .un, .un, .un, .un] s = .nx [.pv (pInts zs), .pv bx, .pv (.ref d0), .own (.lst (D.map hp)), .pv (nI j), .pv (.int p.1), .pv (.int p.2), .un, .un, .un, .un, .un, .un, .un] s2 := asg_ok (call_ok (a2_ok (mv_ok rfl) (a1_ok ev_C)) e2) rfl
    have c := tbin_ok (env := [.pv (pInts zs), .pv bx, .pv (.ref d0), .own (.lst (D.map hp)), .pv (nI j), .pv (.int p.1), .pv (.int p.2), .un, .un, .un, .un, .un, .un, .un]) (s := s2) (tup_ok (a2_ok (mv_ok (i := 5) rfl) (a1_ok (mv_ok (i := 6) rfl)))) (tup_ok (a2_ok (ev_C (v := .int 0)) (a1_ok (ev_C (v := .int 0))))) (cNe_tp p (0, 0))
    by_cases z : p = (0, 0)
    · exact ⟨[.pv (pInts zs), .pv bx, .pv (.ref d0), .own (.lst (D.map hp)), .pv (nI j), .un, .un, .un, .un, .un, .un, .un, .un, .un], [.pv (pInts zs), .pv bx, .pv (.ref d0), .own (.lst (D.map hp)), .pv (nI j), .pv (.int p.1), .pv (.int p.2), .un, .un, .un, .un, .un, .un, .un], s2, rfl, (seq_nx e2).trans (ifF_ok (okc c (by simp [z]))), g2, D, hD, by omega, rfl⟩
    · obtain ⟨v, s3, e3, b3, b4, g3, _⟩ := rollK (i := 2) (m := 13) (me := mC (.int 13)) (env := [.pv (pInts zs), .pv bx, .pv (.ref d0), .own (.lst (D.map hp)), .pv (nI j), .pv (.int p.1), .pv (.int p.2), .un, .un, .un, .un, .un, .un, .un]) g2 hn rfl ev_C (by decide) (by decide)
      have e3 : mCall 2 M_law_roll (aCons (mVar 2) (aCons (mC (.int 13)) aNil)) [.pv (pInts zs), .pv bx, .pv (.ref d0), .own (.lst (D.map hp)), .pv (nI j), .pv (.int p.1), .pv (.int p.2), .un, .un, .un, .un, .un, .un, .un] s2 = .ok (.int v) s3 := e3
      have a : s_law_4 [.pv (pInts zs), .pv bx, .pv (.ref d0), .own (.lst (D.map hp)), .pv (nI j), .pv (.int p.1), .pv (.int p.2), .un, .un, .un, .un, .un, .un, .un] s2 = .nx (List.set [.pv (pInts zs), .pv bx, .pv (.ref d0), .own (.lst (D.map hp)), .pv (nI j), .pv (.int p.1), .pv (.int p.2), .un, .un, .un, .un, .un, .un, .un] 3 (.own (.lst (D.map hp ++ [hp (p.1, p.2, v - 6)])))) s3 := Mp.app_ok (v := hp (p.1, p.2, v - 6)) rfl (tup_ok (a2_ok (mv_ok rfl) (a2_ok (mv_ok rfl) (a1_ok (bin_ok e3 ev_C pSub_int))))) (by rw [List.length_map]; omega)
      refine ⟨[.pv (pInts zs), .pv bx, .pv (.ref d0), .own (.lst (D.map hp)), .pv (nI j), .un, .un, .un, .un, .un, .un, .un, .un, .un], _, s3, rfl, (seq_nx e2).trans ((ifT_ok (okc c (by simp [z]))).trans a), g3, D ++ [(p.1, p.2, v - 6)], fun g hg => ?_, by rw [List.length_append, List.length_singleton]; omega, ?_⟩
      · rcases List.mem_append.mp hg with q | q
        · exact hD g q
        · rw [List.mem_singleton] at q
          subst q
          refine ⟨?_, by show p.1.natAbs ≤ 3; omega, by show p.2.natAbs ≤ 3; omega, by show (v - 6).natAbs ≤ 6; omega⟩
          unfold Nz
          dsimp only
          by_cases q1 : p.1 = 0
          · exact .inr fun q2 => z (Prod.ext q1 q2)
          · exact .inl q1
      · rw [List.map_append]; rfl)
  obtain ⟨e, s', L, g', D, hD, lD, rfl⟩ := L
  exact ⟨D, s', (for_ev2 rg).trans L, ⟨hD, by simpa using lD⟩, g'⟩
theorem l7 (H : Rw R) : s_law_7 [.pv (pInts zs), .pv bx, .pv (.ref d0), .own (.lst (R.map hp)), .un, .un, .un, .un, .un, .un, .un, .un, .un, .un] st = .nx [.pv (pInts zs), .pv bx, .pv (.ref d0), .pv (rv R), .un, .un, .un, .pv (tq (lo R)), .pv (fr (ar (lo R))), .un, .un, .un, .un, .un] st := by
  have l5 := H.len
  exact par_ok (env := [.pv (pInts zs), .pv bx, .pv (.ref d0), .pv (rv R), .un, .un, .un, .un, .un, .un, .un, .un, .un, .un]) (evs := [.pv (tq (lo R)), .pv (fr (ar (lo R)))]) (vF_ok (call_ok (a2_ok (mv_ok rfl) (a1_ok (mv_ok rfl))) (left_ev H.hb (by omega))) (vF_ok (call_ok (a2_ok (mv_ok rfl) (a1_ok (mv_ok rfl))) (area_call H.hb (by omega))) vN0)) rfl rfl
theorem l9 (H : Rw R) : s_law_9 [.pv (pInts zs), .pv bx, .pv (.ref d0), .pv (rv R), .un, .un, .un, .pv (tq (lo R)), .pv (fr (ar (lo R))), .un, .un, .un, .un, .un] st = .nx [.pv (pInts zs), .pv bx, .pv (.ref d0), .pv (rv R), .un, .un, .un, .pv (tq (lo R)), .pv (fr (ar (lo R))), .un, .un, .un, .un, .un] st := by
  have l5 := H.len
  have e : ar (lo R.reverse) = ar (lo R) := ar_same fun p => rs_rev
  refine ifF_ok (tsame_ok (s1 := st) (x := fr (ar (lo R))) ?_ (mv_ok rfl) (isD_fr _))
  rw [← e]
  exact call_ok (a2_ok (rev_ok rfl) (a1_ok (mv_ok rfl))) (area_call (rev_hb H.hb) (by rw [List.length_reverse]; omega))
theorem l10 (H : Rw R) : s_law_10 [.pv (pInts zs), .pv bx, .pv (.ref d0), .pv (rv R), .un, .un, .un, .pv (tq (lo R)), .pv (fr (ar (lo R))), .un, .un, .un, .un, .un] st = .nx [.pv (pInts zs), .pv bx, .pv (.ref d0), .pv (rv R), .un, .un, .un, .pv (tq (lo R)), .pv (fr (ar (lo R))), .un, .un, .un, .un, .un] st := by
  have l5 := H.len
  have e : pvSort ((lo R.reverse).map pq) = pvSort ((lo R).map pq) := sort_pq (lo_same fun p => rs_rev)
  refine ifF_ok (tsame_ok (s1 := st) (x := .lst (pvSort ((lo R).map pq))) ?_ (callN_ok (a1_ok (mv_ok rfl)) (sorted_pq _)) (isD_srt _))
  rw [← e]
  exact callN_ok (a1_ok (call_ok (a2_ok (rev_ok rfl) (a1_ok (mv_ok rfl))) (left_ev (rev_hb H.hb) (by rw [List.length_reverse]; omega)))) (sorted_pq _)
theorem l11 (H : Rw R) : s_law_11 [.pv (pInts zs), .pv bx, .pv (.ref d0), .pv (rv R), .un, .un, .un, .pv (tq (lo R)), .pv (fr (ar (lo R))), .un, .un, .un, .un, .un] st = .nx [.pv (pInts zs), .pv bx, .pv (.ref d0), .pv (rv R), .un, .un, .un, .pv (tq (lo R)), .pv (fr (ar (lo R))), .un, .un, .un, .un, .un] st := by
  have l5 := H.len
  have HH : ∀ g ∈ R ++ R, HB g := fun g hg => by rcases List.mem_append.mp hg with q | q <;> exact H.hb g q
  have HT : ∀ g ∈ R.map tri, HB g := fun g hg => by
    obtain ⟨x, hx, rfl⟩ := List.mem_map.mp hg
    have D := H.dr x hx
    refine ⟨?_, by show (3 * x.1).natAbs ≤ 20; have := D.a; omega, by show (3 * x.2.1).natAbs ≤ 20; have := D.b; omega, by show (3 * x.2.2).natAbs ≤ 20; have := D.c; omega⟩
    rcases D.nz with q | q
    · exact .inl (by show 3 * x.1 ≠ 0; omega)
    · exact .inr (by show 3 * x.2.1 ≠ 0; omega)
  have e1 : ar (lo (R.map tri)) = ar (lo R) := ar_same fun p => rs_tri
  have K := mComp_all (mi := iSeq (mVar 3)) (gt := gTp 3 (gConsM (gNm 5) (gConsM (gNm 6) (gConsM (gNm 10) gNilM)))) (me := mTup (aCons (mBin pMul (mC (.int 3)) (mVar 5)) (aCons (mBin pMul (mC (.int 3)) (mVar 6)) (aCons (mBin pMul (mC (.int 3)) (mVar 10)) aNil)))) (vs := [5, 6, 10]) (env := [.pv (pInts zs), .pv bx, .pv (.ref d0), .pv (rv R), .un, .un, .un, .pv (tq (lo R)), .pv (fr (ar (lo R))), .un, .un, .un, .un, .un]) (st := st) hp (fun h => hp (tri h)) R (seq_ev (mv_ok rfl)) rfl (by omega) fun h hh => by
    have D := H.dr h hh
    have := D.a; have := D.b; have := D.c
    exact ⟨[.pv (pInts zs), .pv bx, .pv (.ref d0), .pv (rv R), .un, .pv (.int h.1), .pv (.int h.2.1), .pv (tq (lo R)), .pv (fr (ar (lo R))), .un, .pv (.int h.2.2), .un, .un, .un], rfl, tup_ok (a2_ok (bin_ok ev_C (mv_ok rfl) (mul_small (by omega))) (a2_ok (bin_ok ev_C (mv_ok rfl) (mul_small (by omega))) (a1_ok (bin_ok ev_C (mv_ok rfl) (mul_small (by omega))))))⟩
  have ek : (PV.lst (R.map fun h => hp (tri h))) = rv (R.map tri) := by unfold rv; rw [List.map_map]; rfl
  rw [ek] at K
  have dd : mBin pAdd (mVar 3) (mVar 3) [.pv (pInts zs), .pv bx, .pv (.ref d0), .pv (rv R), .un, .un, .un, .pv (tq (lo R)), .pv (fr (ar (lo R))), .un, .un, .un, .un, .un] st = .ok (rv (R ++ R)) st := by
    have := bin_ok (env := [.pv (pInts zs), .pv bx, .pv (.ref d0), .pv (rv R), .un, .un, .un, .pv (tq (lo R)), .pv (fr (ar (lo R))), .un, .un, .un, .un, .un]) (s := st) (mv_ok (i := 3) (v := rv R) rfl) (mv_ok (i := 3) (v := rv R) rfl) (pAdd_lst (by rw [List.length_map]; omega))
    rw [← List.map_append] at this
    exact this
  refine ifF_ok (tor_ok (s1 := st) (tsame_ok (s1 := st) (x := tq (lo R)) ?_ (mv_ok rfl) (isD_tq _)) (tsame_ok (s1 := st) (x := fr (ar (lo R))) ?_ (mv_ok rfl) (isD_fr _)))
  · have := left_ev (st := st) HH (by rw [List.length_append]; omega)
    rw [lo_twice] at this
    exact call_ok (a2_ok dd (a1_ok (mv_ok rfl))) this
  · have a := area_call (st := st) HT (by rw [List.length_map]; omega)
    rw [e1] at a
    exact call_ok (a2_ok K (a1_ok (mv_ok rfl))) a
theorem l12 (H : Rw R) : s_law_12 [.pv (pInts zs), .pv bx, .pv (.ref d0), .pv (rv R), .un, .un, .un, .pv (tq (lo R)), .pv (fr (ar (lo R))), .un, .un, .un, .un, .un] st = .nx [.pv (pInts zs), .pv bx, .pv (.ref d0), .pv (rv R), .un, .un, .un, .pv (tq (lo R)), .pv (fr (ar (lo R))), .un, .un, .un, .un, .un] st := by
  have l5 := H.len
  obtain ⟨v, e1, h1⟩ := apoint_ev (st := st) H.hb (by omega)
  obtain ⟨u, e2, h2⟩ := apoint_ev (st := st) (rev_hb H.hb) (by rw [List.length_reverse]; omega)
  have h2 : isN u = true ↔ ¬ ∃ p, RS R p := by rw [h2]; simp only [rs_rev]
  have f1 : mCall 1 M_a_point (aCons (mVar 3) aNil) [.pv (pInts zs), .pv bx, .pv (.ref d0), .pv (rv R), .un, .un, .un, .pv (tq (lo R)), .pv (fr (ar (lo R))), .un, .un, .un, .un, .un] st = .ok v st := call_ok (a1_ok (mv_ok rfl)) e1
  have f2 : mCall 1 M_a_point (aCons (mLstRev (mVar 3)) aNil) [.pv (pInts zs), .pv bx, .pv (.ref d0), .pv (rv R), .un, .un, .un, .pv (tq (lo R)), .pv (fr (ar (lo R))), .un, .un, .un, .un, .un] st = .ok u st := call_ok (a1_ok (rev_ok rfl)) e2
  refine ifF_ok (tor_ok (tand_ok (tbin_ok (mv_ok rfl) (tup_ok (ms := aNil) (vs := []) rfl) (cNe_tq0 _)) (fun z => okc (tbin_ok f1 ev_C (isN_ev v)) ?_) (fun _ => rfl) fun _ => rfl) (tbin_ok (bin_ok f1 ev_C (isN_ev v)) (bin_ok f2 ev_C (isN_ev u)) ((cNe_bl _ _).trans (by rw [same_b h1 h2]; simp))))
  have ne : lo R ≠ [] := by simpa using z
  obtain ⟨p, hp⟩ := List.exists_mem_of_ne_nil _ ne
  cases c : isN v with
  | false => rfl
  | true => exact absurd ⟨p, (lo_in hp).1⟩ (h1.mp c)
theorem l13 (G : Gk k st) (H : Rw R) : ∃ s', s_law_13 [.pv (pInts zs), .pv bx, .pv (.ref d0), .pv (rv R), .un, .un, .un, .pv (tq (lo R)), .pv (fr (ar (lo R))), .un, .un, .un, .un, .un] st = .nx [.pv (pInts zs), .pv bx, .pv (.ref d0), .pv (rv R), .un, .un, .un, .pv (tq (lo R)), .pv (fr (ar (lo R))), .un, .un, .un, .un, .un] s' ∧ Gk k s' := by
  have l5 := H.len
  obtain ⟨u, s1, x1, e1, h1⟩ := refut_ev (st := st) (rev_hb H.hb) (by rw [List.length_reverse]; omega)
  obtain ⟨v, s2, x2, e2, h2⟩ := refut_ev (st := s1) H.hb (by omega)
  have h1 : isN u = true ↔ ∃ p, RS R p := by rw [h1]; simp only [rs_rev]
  exact ⟨s2, ifF_ok (tbin_ok (bin_ok (call_ok (a1_ok (rev_ok rfl)) e1) ev_C (isN_ev u)) (bin_ok (call_ok (a1_ok (mv_ok rfl)) e2) ev_C (isN_ev v)) ((cNe_bl _ _).trans (by rw [same_b h1 h2]; simp))), x2.gk (x1.gk G)⟩
theorem split_at {k : Nat} (h : k < R.length) : ∃ A B, R = A ++ at' R k :: B ∧ A.length = k := by
  refine ⟨R.take k, R.drop (k + 1), ?_, by rw [List.length_take]; omega⟩
  have e : at' R k = R[k] := by unfold at'; rw [List.getD_eq_getElem?_getD, List.getElem?_eq_getElem h]; rfl
  rw [e, List.getElem_cons_drop, List.take_append_drop]
theorem l18 (H : Rw R) : s_law_18 [.pv (pInts zs), .pv bx, .pv (.ref d0), .pv (rv R), .un, .un, .un, .pv (tq (lo R)), .pv (fr (ar (lo R))), .un, .un, .un, .un, .un] st = .nx [.pv (pInts zs), .pv bx, .pv (.ref d0), .pv (rv R), .un, .un, .un, .pv (tq (lo R)), .pv (fr (ar (lo R))), .un, .un, .un, .un, .un] st := by
  have l5 := H.len
  have rg : iRng1M (aCons (mCallB bLen (aCons (mVar 3) aNil)) aNil) [.pv (pInts zs), .pv bx, .pv (.ref d0), .pv (rv R), .un, .un, .un, .pv (tq (lo R)), .pv (fr (ar (lo R))), .un, .un, .un, .un, .un] st = .ok ((List.range R.length).map fun (k : Nat) => .int (k : Int)) st := rng1_ev (a1_ok (callB_ok (a1_ok (mv_ok (v := rv R) rfl)) (by rw [lenL, List.length_map]))) (by omega)
  refine (for_ev rg).trans (forL_id (fun (k : Nat) => .int (k : Int)) (List.range R.length) fun j hj => ?_)
  have hj := List.mem_range.mp hj
  have ij := row_ix hj st
  obtain ⟨A, B, eR, lA⟩ := split_at hj
  generalize at' R j = h at *
  have Hh : HB h := H.hb h (by rw [eR]; simp)
  have HAB : ∀ g ∈ A ++ B, HB g := fun g hg => H.hb g (by rw [eR]; rcases List.mem_append.mp hg with q | q <;> simp [q])
  have HN : ∀ g ∈ A ++ B ++ [ng h], HB g := fun g hg => by
    rcases List.mem_append.mp hg with q | q
    · exact HAB g q
    · rw [List.mem_singleton] at q; rw [q]; exact Hh.ng
  have lAB : (A ++ B).length ≤ 5 := by have := congrArg List.length eR; simp at this ⊢; omega
  have lN : (A ++ B ++ [ng h]).length ≤ 6 := by rw [List.length_append]; simp only [List.length_cons, List.length_nil]; omega
  have e14 : s_law_14 [.pv (pInts zs), .pv bx, .pv (.ref d0), .pv (rv R), .pv (nI j), .un, .un, .pv (tq (lo R)), .pv (fr (ar (lo R))), .un, .un, .un, .un, .un] st = .nx [.pv (pInts zs), .pv bx, .pv (.ref d0), .pv (rv R), .pv (nI j), .un, .un, .pv (tq (lo R)), .pv (fr (ar (lo R))), .pv (rv (A ++ B)), .un, .un, .un, .un] st := by
    have t1 := sl_take (m := mVar 3) (mi := mVar 4) (env := [.pv (pInts zs), .pv bx, .pv (.ref d0), .pv (rv R), .pv (nI j), .un, .un, .pv (tq (lo R)), .pv (fr (ar (lo R))), .un, .un, .un, .un, .un]) (st := st) (xs := R.map hp) (n := j) (mv_ok rfl) (mv_ok (v := nI j) rfl)
    have t2 := sl_drop (m := mVar 3) (mi := mBin pAdd (mVar 4) (mC (.int 1))) (env := [.pv (pInts zs), .pv bx, .pv (.ref d0), .pv (rv R), .pv (nI j), .un, .un, .pv (tq (lo R)), .pv (fr (ar (lo R))), .un, .un, .un, .un, .un]) (st := st) (xs := R.map hp) (n := j + 1) (mv_ok rfl) (bin_ok (mv_ok (v := nI j) rfl) ev_C pAdd_int)
    have u1 : (R.map hp).take j = A.map hp := by rw [eR, ← List.map_take, List.take_left' lA]
    have u2 : (R.map hp).drop (j + 1) = B.map hp := by
      rw [eR, ← List.map_drop]
      congr 1
      rw [List.drop_append, List.drop_eq_nil_of_le (by omega), List.nil_append, show j + 1 - A.length = 1 by omega]; rfl
    rw [u1] at t1
    rw [u2] at t2
    have s := bin_ok t1 t2 (pAdd_lst (by rw [List.length_map, List.length_map]; have := lAB; rw [List.length_append] at this; omega))
    rw [← List.map_append] at s
    exact set_ok s
  have e15 : s_law_15 [.pv (pInts zs), .pv bx, .pv (.ref d0), .pv (rv R), .pv (nI j), .un, .un, .pv (tq (lo R)), .pv (fr (ar (lo R))), .pv (rv (A ++ B)), .un, .un, .un, .un] st = .nx [.pv (pInts zs), .pv bx, .pv (.ref d0), .pv (rv R), .pv (nI j), .pv (.int h.1), .pv (.int h.2.1), .pv (tq (lo R)), .pv (fr (ar (lo R))), .pv (rv (A ++ B)), .pv (.int h.2.2), .un, .un, .un] st := asg_ok (ix_ok (mv_ok (v := rv R) rfl) (mv_ok (v := nI j) rfl) ij) rfl
  have z1 := area_sz H.hb (by omega)
  have z2 := area_sz HAB (by omega)
  have z3 := area_sz HN (by omega)
  have le : ar (lo R) ≤ ar (lo (A ++ B)) := by rw [eR]; exact ar_less Hh.nz
  have bo : ar (lo R) + ar (lo (A ++ B ++ [ng h])) = ar (lo (A ++ B)) := by
    have := ar_both (A := A) (B := B) Hh.nz
    rw [← eR] at this
    exact this
  have ca : mCall 2 M_law_area (aCons (mVar 9) (aCons (mVar 1) aNil)) [.pv (pInts zs), .pv bx, .pv (.ref d0), .pv (rv R), .pv (nI j), .pv (.int h.1), .pv (.int h.2.1), .pv (tq (lo R)), .pv (fr (ar (lo R))), .pv (rv (A ++ B)), .pv (.int h.2.2), .un, .un, .un] st = .ok (fr (ar (lo (A ++ B)))) st := call_ok (a2_ok (mv_ok rfl) (a1_ok (mv_ok rfl))) (area_call HAB (by omega))
  have e16 : s_law_16 [.pv (pInts zs), .pv bx, .pv (.ref d0), .pv (rv R), .pv (nI j), .pv (.int h.1), .pv (.int h.2.1), .pv (tq (lo R)), .pv (fr (ar (lo R))), .pv (rv (A ++ B)), .pv (.int h.2.2), .un, .un, .un] st = .nx [.pv (pInts zs), .pv bx, .pv (.ref d0), .pv (rv R), .pv (nI j), .pv (.int h.1), .pv (.int h.2.1), .pv (tq (lo R)), .pv (fr (ar (lo R))), .pv (rv (A ++ B)), .pv (.int h.2.2), .un, .un, .un] st :=
    ifF_ok (okc (tbin_ok (call_ok (a2_ok ca (a1_ok (mv_ok rfl))) (stands_ev (by omega))) ev_C cLt_int) (decide_eq_false fun y => by have := sgn_lt.mp y; grind))
  have en : mBin pAdd (mVar 9) (mLst (aCons (mTup (aCons (mBin pSub (mC (.int 0)) (mVar 5)) (aCons (mBin pSub (mC (.int 0)) (mVar 6)) (aCons (mBin pSub (mC (.int 0)) (mVar 10)) aNil)))) aNil)) [.pv (pInts zs), .pv bx, .pv (.ref d0), .pv (rv R), .pv (nI j), .pv (.int h.1), .pv (.int h.2.1), .pv (tq (lo R)), .pv (fr (ar (lo R))), .pv (rv (A ++ B)), .pv (.int h.2.2), .un, .un, .un] st = .ok (rv (A ++ B ++ [ng h])) st := by
    have z : ∀ x : Int, pSub (.int 0) (.int x) = some (.int (-x)) := fun x => by rw [pSub_int, Int.zero_sub]
    have s := bin_ok (env := [.pv (pInts zs), .pv bx, .pv (.ref d0), .pv (rv R), .pv (nI j), .pv (.int h.1), .pv (.int h.2.1), .pv (tq (lo R)), .pv (fr (ar (lo R))), .pv (rv (A ++ B)), .pv (.int h.2.2), .un, .un, .un]) (s := st) (mv_ok (i := 9) (v := rv (A ++ B)) rfl) (lst_ok (a1_ok (tup_ok (a2_ok (bin_ok (ev_C (v := .int 0)) (mv_ok (i := 5) rfl) (z _)) (a2_ok (bin_ok (ev_C (v := .int 0)) (mv_ok (i := 6) rfl) (z _)) (a1_ok (bin_ok (ev_C (v := .int 0)) (mv_ok (i := 10) rfl) (z _)))))))) (pAdd_lst (by rw [List.length_map]; simp only [List.length_cons, List.length_nil]; omega))
    refine s.trans ?_
    congr 2
    simp only [List.map_append]; rfl
  have e17 : s_law_17 [.pv (pInts zs), .pv bx, .pv (.ref d0), .pv (rv R), .pv (nI j), .pv (.int h.1), .pv (.int h.2.1), .pv (tq (lo R)), .pv (fr (ar (lo R))), .pv (rv (A ++ B)), .pv (.int h.2.2), .un, .un, .un] st = .nx [.pv (pInts zs), .pv bx, .pv (.ref d0), .pv (rv R), .pv (nI j), .pv (.int h.1), .pv (.int h.2.1), .pv (tq (lo R)), .pv (fr (ar (lo R))), .pv (rv (A ++ B)), .pv (.int h.2.2), .un, .un, .un] st := by
    refine ifF_ok (tsame_ok (s1 := st) (x := fr (ar (lo (A ++ B)))) ?_ ca (isD_fr _))
    rw [← bo]
    exact call_ok (a2_ok (mv_ok rfl) (a1_ok (call_ok (a2_ok en (a1_ok (mv_ok rfl))) (area_call HN (by omega))))) (plus_ev (by omega))
  exact ⟨[.pv (pInts zs), .pv bx, .pv (.ref d0), .pv (rv R), .pv (nI j), .un, .un, .pv (tq (lo R)), .pv (fr (ar (lo R))), .un, .un, .un, .un, .un], [.pv (pInts zs), .pv bx, .pv (.ref d0), .pv (rv R), .pv (nI j), .pv (.int h.1), .pv (.int h.2.1), .pv (tq (lo R)), .pv (fr (ar (lo R))), .pv (rv (A ++ B)), .pv (.int h.2.2), .un, .un, .un], rfl, (seq_nx e14).trans ((seq_nx e15).trans ((seq_nx e16).trans e17)), rfl⟩
theorem l19 (G : Gk k st) (hn : d0 < k) : ∃ (g : Int × Int) (s' : Sto), s_law_19 [.pv (pInts zs), .pv bx, .pv (.ref d0), .pv (rv R), .un, .un, .un, .pv (tq (lo R)), .pv (fr (ar (lo R))), .un, .un, .un, .un, .un] st = .nx [.pv (pInts zs), .pv bx, .pv (.ref d0), .pv (rv R), .un, .un, .un, .pv (tq (lo R)), .pv (fr (ar (lo R))), .un, .un, .pv (tp g), .un, .un] s' ∧ g.1.natAbs ≤ 3 ∧ g.2.natAbs ≤ 3 ∧ Gk k s' := by
  obtain ⟨g, s1, e, gb, G1, _⟩ := pointK (m := 3) G hn (by decide)
  exact ⟨g, s1, set_ok (call_ok (a2_ok (mv_ok rfl) (a1_ok ev_C)) e), by omega, by omega, G1⟩
theorem l20 (H : Rw R) (g1 : g.1.natAbs ≤ 3) (g2 : g.2.natAbs ≤ 3) : ∃ b c, Bst g (lo R) b ∧ Bst (-g.1, -g.2) (lo R) c ∧ s_law_20 [.pv (pInts zs), .pv bx, .pv (.ref d0), .pv (rv R), .un, .un, .un, .pv (tq (lo R)), .pv (fr (ar (lo R))), .un, .un, .pv (tp g), .un, .un] st = .nx [.pv (pInts zs), .pv bx, .pv (.ref d0), .pv (rv R), .un, .un, .un, .pv (tq (lo R)), .pv (fr (ar (lo R))), .un, .un, .pv (tp g), .pv (bo g b), .pv (bo (-g.1, -g.2) c)] st := by
  have l5 := H.len
  obtain ⟨b, B, eb⟩ := great_ev (g := g) (st := st) (by omega) (by omega) H.hb (by omega)
  obtain ⟨c, C, ec⟩ := great_ev (g := (-g.1, -g.2)) (st := st) (by show (-g.1).natAbs ≤ 20; omega) (by show (-g.2).natAbs ≤ 20; omega) H.hb (by omega)
  have z : ∀ x : Int, pSub (.int 0) (.int x) = some (.int (-x)) := fun x => by rw [pSub_int, Int.zero_sub]
  have i0 : ixV st (tp g) (.int 0) = some (.int g.1) := rfl
  have i1 : ixV st (tp g) (.int 1) = some (.int g.2) := rfl
  have en : mTup (aCons (mBin pSub (mC (.int 0)) (mIx (mVar 11) (mC (.int 0)))) (aCons (mBin pSub (mC (.int 0)) (mIx (mVar 11) (mC (.int 1)))) aNil)) [.pv (pInts zs), .pv bx, .pv (.ref d0), .pv (rv R), .un, .un, .un, .pv (tq (lo R)), .pv (fr (ar (lo R))), .un, .un, .pv (tp g), .un, .un] st = .ok (tp (-g.1, -g.2)) st :=
    tup_ok (a2_ok (bin_ok ev_C (ix_ok (mv_ok rfl) ev_C i0) (z _)) (a1_ok (bin_ok ev_C (ix_ok (mv_ok rfl) ev_C i1) (z _))))
  exact ⟨b, c, B, C, par_ok (evs := [.pv (bo g b), .pv (bo (-g.1, -g.2) c)]) (vF_ok (call_ok (a2_ok (mv_ok rfl) (a2_ok (mv_ok rfl) (a1_ok (mv_ok rfl)))) eb) (vF_ok (call_ok (a2_ok (mv_ok rfl) (a2_ok (mv_ok rfl) (a1_ok en))) ec) vN0)) rfl rfl⟩
theorem bst_n {g : Int × Int} {D : List Q2} (B : Bst g D b) : cIsN (bo g b) .non = some (.bl D.isEmpty) := by
  cases b with
  | none =>
    have B : D = [] := B
    rw [B]; rfl
  | some p =>
    have : D ≠ [] := fun z => by have := B.1; rw [z] at this; cases this
    have : D.isEmpty = false := by simpa using this
    rw [this]; rfl
theorem l21 (B : Bst g (lo R) b) (C : Bst (-g.1, -g.2) (lo R) c) : s_law_21 [.pv (pInts zs), .pv bx, .pv (.ref d0), .pv (rv R), .un, .un, .un, .pv (tq (lo R)), .pv (fr (ar (lo R))), .un, .un, .pv (tp g), .pv (bo g b), .pv (bo (-g.1, -g.2) c)] st = .nx [.pv (pInts zs), .pv bx, .pv (.ref d0), .pv (rv R), .un, .un, .un, .pv (tq (lo R)), .pv (fr (ar (lo R))), .un, .un, .pv (tp g), .pv (bo g b), .pv (bo (-g.1, -g.2) c)] st :=
  ifF_ok (tor_ok (tsame_ok (x := .bl (lo R).isEmpty) (bin_ok (mv_ok rfl) ev_C (bst_n B)) (bin_ok (mv_ok rfl) (tup_ok (ms := aNil) (vs := []) rfl) (cEq_tq _)) rfl) (tsame_ok (x := .bl (lo R).isEmpty) (bin_ok (mv_ok rfl) ev_C (bst_n C)) (bin_ok (mv_ok rfl) (tup_ok (ms := aNil) (vs := []) rfl) (cEq_tq _)) rfl))
theorem l22 (H : Rw R) (g1 : g.1.natAbs ≤ 3) (g2 : g.2.natAbs ≤ 3) (B : Bst g (lo R) b) (C : Bst (-g.1, -g.2) (lo R) c) : s_law_22 [.pv (pInts zs), .pv bx, .pv (.ref d0), .pv (rv R), .un, .un, .un, .pv (tq (lo R)), .pv (fr (ar (lo R))), .un, .un, .pv (tp g), .pv (bo g b), .pv (bo (-g.1, -g.2) c)] st = .nx [.pv (pInts zs), .pv bx, .pv (.ref d0), .pv (rv R), .un, .un, .un, .pv (tq (lo R)), .pv (fr (ar (lo R))), .un, .un, .pv (tp g), .pv (bo g b), .pv (bo (-g.1, -g.2) c)] st := by
  cases b with
  | none => exact ifF_ok (tand_ok (c := false) (tbin_ok (mv_ok (v := .non) rfl) ev_C rfl) (fun z => nomatch z) (fun _ => rfl) fun _ => rfl)
  | some p =>
    obtain ⟨Bm, Bg⟩ := B
    cases c with
    | none =>
      have C : lo R = [] := C
      rw [C] at Bm; cases Bm
    | some q =>
      obtain ⟨Cm, Cg⟩ := C
      have zp := gv_sz (g := g) (by omega) (by omega) (lo_pb H.hb p Bm)
      have zq := gv_sz (g := (-g.1, -g.2)) (by show (-g.1).natAbs ≤ 20; omega) (by show (-g.2).natAbs ≤ 20; omega) (lo_pb H.hb q Cm)
      have zs := sz_add (gv g p) (gv (-g.1, -g.2) q)
      have le := Bg q Cm
      have i0 : ixV st (bo g (some p)) (.int 0) = some (fr (gv g p)) := rfl
      have i1 : ixV st (bo (-g.1, -g.2) (some q)) (.int 0) = some (fr (gv (-g.1, -g.2) q)) := rfl
      have z0 := sz0
      refine ifF_ok (tand_ok (c := true) (tbin_ok (mv_ok (v := bo g (some p)) rfl) ev_C rfl) (fun _ => okc (tbin_ok (call_ok (a2_ok (call_ok (a2_ok (ix_ok (mv_ok rfl) ev_C i0) (a1_ok (ix_ok (mv_ok rfl) ev_C i1))) (plus_ev (by omega))) (a1_ok (tup_ok (a2_ok ev_C (a1_ok ev_C))))) (stands_ev (b := 0) (by omega))) ev_C cLt_int) (decide_eq_false fun y => ?_)) (fun _ => rfl) fun _ => rfl)
      have y := sgn_lt.mp y
      rw [gv_neg] at y
      grind
theorem l23 (H : Rw R) : s_law_23 [.pv (pInts zs), .pv bx, .pv (.ref d0), .pv (rv R), .un, .un, .un, .pv (tq (lo R)), .pv (fr (ar (lo R))), .un, .un, .pv (tp g), .pv (bo g b), .pv (bo (-g.1, -g.2) c)] st = .nx [.pv (pInts zs), .pv bx, .pv (.ref d0), .pv (rv R), .un, .un, .un, .pv (tq (lo R)), .pv (fr (ar (lo R))), .un, .un, .pv (tp g), .pv (bo g b), .pv (bo (-g.1, -g.2) c)] st := by
  have l5 := H.len
  have nn := ar_nn (lo_ok R)
  have z := area_sz H.hb (by omega)
  have z0 := sz0
  have i0 : ixV st (fr (0 - ar (lo R))) (.int 0) = some (.int (0 - ar (lo R)).num) := rfl
  have c0 : cNe (fr (ar (lo R))) (fr 0) = some (.bl (!decide (ar (lo R) = 0))) := by simp [cNe, isD_fr, pvEq_fr]
  refine ifF_ok (tand_ok (tbin_ok (mv_ok rfl) (tup_ok (a2_ok (ev_C (v := .int 0)) (a1_ok (ev_C (v := .int 1))))) c0) (fun _ => okc (tbin_ok (ix_ok (call_ok (a2_ok (tup_ok (a2_ok ev_C (a1_ok ev_C))) (a1_ok (mv_ok rfl))) (minus_ev (a := 0) (by omega))) ev_C i0) ev_C cGt_int) (decide_eq_false fun y => ?_)) (fun _ => rfl) fun _ => rfl)
  have := (num_np (0 - ar (lo R))).mpr (by grind)
  omega
end
theorem frame2 {body : SM} {ks : List Nat} (ns : List Int) (hl : ns.length ≤ 63)
    (h : ∀ k n st, n < k → Gk k st → ∃ e st', body [.pv (pInts ns), .pv bx, .pv (.ref n), .un, .un, .un, .un, .un, .un, .un, .un, .un, .un, .un] st = .nx e st' ∧ killE ks e = [.pv (pInts ns), .pv bx, .un, .un, .un, .un, .un, .un, .un, .un, .un, .un, .un, .un] ∧ Gk k st') :
    ∃ s', fnM 14 (sSeq s_law_1 (sSeq (sFor (iSeq (mCall 2 M_law_rounds (aCons (mVar 0) (aCons (mC (.int 3)) aNil)))) (gNm 2) body ks) (sRet (mC (.bl true))))) [pInts ns] [] = .ok (.bl true) s' := by
  obtain ⟨k, st, e, g, hk⟩ := rounds_ga ns 3 (by omega)
  have key := forL_ex (gt := gNm 2) (body := body) (ks := ks) PV.ref (fun r env st => env = [.pv (pInts ns), .pv bx, .un, .un, .un, .un, .un, .un, .un, .un, .un, .un, .un, .un] ∧ Gk k st) (List.range k) _ st ⟨rfl, Gk.of g⟩ (by
    rintro n r env st hn ⟨rfl, g⟩
    obtain ⟨e, st', h1, h2, h3⟩ := h k n st (List.mem_range.mp hn) g
    exact ⟨_, e, st', rfl, h1, h2, h3⟩)
  obtain ⟨e2, st2, h1, h2, _⟩ := key
  refine ⟨st2, fnM_rt ?_⟩
  have t1 : s_law_1 (env0 14 [pInts ns]) [] = .nx [.pv (pInts ns), .pv bx, .un, .un, .un, .un, .un, .un, .un, .un, .un, .un, .un, .un] [] := set_ok bx_ok
  have t : sFor (iSeq (mCall 2 M_law_rounds (aCons (mVar 0) (aCons (mC (.int 3)) aNil)))) (gNm 2) body ks [.pv (pInts ns), .pv bx, .un, .un, .un, .un, .un, .un, .un, .un, .un, .un, .un, .un] [] = .nx e2 st2 := by
    have e : M_law_rounds [pInts ns, .int 3] [] = .ok (.lst ((List.range k).map PV.ref)) st := e
    have sq : iSeq (mCall 2 M_law_rounds (aCons (mVar 0) (aCons (mC (.int 3)) aNil))) [.pv (pInts ns), .pv bx, .un, .un, .un, .un, .un, .un, .un, .un, .un, .un, .un, .un] [] = .ok ((List.range k).map PV.ref) st := seq_ev2 (call_ok (a2_ok (mv_ok rfl) (a1_ok ev_C)) e)
    rw [ev_for, sq, ev_bindF]
    exact h1
  rw [seq_nx t1, seq_nx t]
  rfl
theorem law_ok (ns : List Int) (hl : ns.length ≤ 63) : ∃ s', M_law [pInts ns] [] = .ok (.bl true) s' := by
  refine frame2 ns hl fun k d0 st hn g => ?_
  have e2 : s_law_2 [.pv (pInts ns), .pv bx, .pv (.ref d0), .un, .un, .un, .un, .un, .un, .un, .un, .un, .un, .un] st = .nx [.pv (pInts ns), .pv bx, .pv (.ref d0), .own (.lst []), .un, .un, .un, .un, .un, .un, .un, .un, .un, .un] st := setO_ok (lst_ok rfl)
  obtain ⟨R, s6, e6, H, g6⟩ := l6 (zs := ns) g hn
  have e7 := l7 (zs := ns) (d0 := d0) (st := s6) H
  have e9 := l9 (zs := ns) (d0 := d0) (st := s6) H
  have e10 := l10 (zs := ns) (d0 := d0) (st := s6) H
  have e11 := l11 (zs := ns) (d0 := d0) (st := s6) H
  have e12 := l12 (zs := ns) (d0 := d0) (st := s6) H
  obtain ⟨s13, e13, g13⟩ := l13 (zs := ns) (d0 := d0) g6 H
  have e18 := l18 (zs := ns) (d0 := d0) (st := s13) H
  obtain ⟨v, s19, e19, v1, v2, g19⟩ := l19 (zs := ns) (R := R) g13 hn
  obtain ⟨b, c, B, C, e20⟩ := l20 (zs := ns) (d0 := d0) (st := s19) H v1 v2
  have e21 := l21 (zs := ns) (d0 := d0) (st := s19) B C
  have e22 := l22 (zs := ns) (d0 := d0) (st := s19) H v1 v2 B C
  have e23 := l23 (zs := ns) (d0 := d0) (st := s19) (g := v) (b := b) (c := c) H
  refine ⟨_, s19, (seq_nx e2).trans ((seq_nx e6).trans ((seq_nx e7).trans ((seq_nx e9).trans ((seq_nx e10).trans ((seq_nx e11).trans ((seq_nx e12).trans ((seq_nx e13).trans ((seq_nx e18).trans ((seq_nx e19).trans ((seq_nx e20).trans ((seq_nx e21).trans ((seq_nx e22).trans e23)))))))))))), ?_, g19⟩
  rfl
end K17
theorem PySem.Challenge.cw_maproom_k17_half_planes_cut_in_any_order_holds : PySem.Challenge.rw_maproom_k17_half_planes_cut_in_any_order.Holds :=
  K17.holds_of fun ns hl _ => K17.law_ok ns hl
end
