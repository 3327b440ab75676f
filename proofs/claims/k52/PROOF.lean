import PyProof.Rows.All
import Wide.All
import OpenK.AllK
import Wide.FinOn
import HandS.ForMost
import HandS.Exc
import HandS.TryOnly
import HandS.ExcOwn
import HandS.WordsExc
import HandS.AnyAll
import HandS.TupAny
import HandS.Lambda
import HandS.IsInst
import KE.DataCmp
import KE.SortData
import KE.DataMinMax
import HandS.TupMul
import HandS.Deep
import PyProof.DictRoadsH
import PyProof.TupleKey
import KE.KDictKeyed
import HandS.Wide
import HandS.TupLe
import HandS.Flow
import HandS.Style
import HandS.GenList
import KE.KStateDown
import HandS.Ends
import HandS.Words
import HandS.Defaults
import HandS.Head0
import HandS.Head1
import HandS.Head2
import HandS.HeadEnd
import HandS.HeadHook1
import HandS.HeadHook2
import HandS.EndTab
import HandS.Conv
import HandS.Rev
import HandS.RevTup
import PyProof.ListNew
import HandS.TryMany
import HandS.ExcIs
import HandS.DictComp
import HandS.Zip
import KE.KMinKey
import KE.SortKeyHeap
import HandS.ExcValue
import KE.KSuper
import KE.KExcSuper
import HandS.ExcInit
import KE.GoesMore
import PyProof.Draws
import PyProof.EnumMake
import HandS.More
import PyProof.TupleOfSeq
import HandS.RaiseMore
import HandS.SetBool
import HandS.TupSets
import HandS.DictEq
import KE.KDictWalk
import KE.KDictZip
import PyProof.NeKinds
import KE.KTupSum
import KE.DataFind
import HandS.Sort
import KE.KDictSum
import KE.KDictDisplayH
import KE.KRevSl
import PyProof.SeqIndex
import HandS.Comp
import KE.KIndexOf
import HandS.SortKw
import HandS.Text
import HandS.ExcField
import PyProof.StrBlock2
import KE.GoesRaise
import PySem.Challenge.RW_maproom_k52_refusals_apart
set_option Elab.async false
set_option linter.all false
section
set_option maxRecDepth 100000
set_option maxHeartbeats 1000000
namespace Mp
open PySem PySem.Spec PyProof.Rows L2
inductive PV where
  | non | bl (b : Bool) | int (i : Int) | str (s : Str) | tup (xs : List PV) | lst (xs : List PV) | ref (n : Nat) | fn (x : Str) | dct (ks : List (List Int)) (vs : List PV) | nti (ns : List Int)
inductive PO where
  | lst (xs : List PV) | dct (ks : List (List Int)) (vs : List PV) | dci (ks : List Int) (vs : List PV) | ins (c : Str) (fs : List (Str × PV))
inductive EV where
  | un | pv (v : PV) | own (o : PO)
abbrev Sto := List PO
abbrev MEnv := List EV
structure MExc where
  cls : Str
  arg : PV
inductive MRes (α : Type) where
  | ok (a : α) (s : Sto) | exc (x : MExc) (s : Sto) | bad
inductive MFlow where
  | nx (e : MEnv) (s : Sto) | rt (v : PV) (s : Sto) | bk (e : MEnv) (s : Sto) | ct (e : MEnv) (s : Sto) | ex (x : MExc) (s : Sto) | bad
abbrev EM := MEnv → Sto → MRes PV
abbrev TM := MEnv → Sto → MRes Bool
abbrev AM := MEnv → Sto → MRes (List PV)
abbrev SM := MEnv → Sto → MFlow
abbrev FM := List PV → Sto → MRes PV
def hTup (k : List Int) : Int := reduceHash (Builtin.Tuple.tupleHashOf (k.map hashInt))
def DctAt (p : Addr) (ks : List (List Int)) (as : List Addr) (ws : List V) (h : Heap) : Prop := (p == sysModules) = false ∧ ks.length ≤ sizeLine ∧ ks.Nodup ∧ ∃ xs : List (List Int × Addr × Value),
  xs.map (·.1) = ks ∧ xs.map (·.2.1) = as ∧ Vals ws (xs.map (·.2.2)) ∧ ∃ (o : Obj) (es : Array DictEntry) (ep : Nat), h.get? p = some o ∧ o.ExactDict ∧ o.data = .dict es ep ∧ es.toList = xs.map (fun x => (⟨hTup x.1, .ref x.2.1, x.2.2⟩ : DictEntry))
def dctO (p : Addr) (ks : List (List Int)) (as : List Addr) (ws : List V) : HO := .ext (DctAt p ks as ws)
theorem dctO_ok {P : Program} {w : World} {H : Hp} {h : Heap} {p : Addr} {ks : List (List Int)} {as : List Addr} {ws : List V} (x : DctAt p ks as ws h) : ObjOk P w H h p (dctO p ks as ws) :=
  ⟨x, let ⟨_, _, _, _, _, _, _, o, _, _, e, _⟩ := x; ⟨o, e⟩, fun h1 h2 ⟨a, b, c, xs, e1, e2, e3, o, es, ep, e4, e5⟩ k => ⟨a, b, c, xs, e1, e2, e3, o, es, ep, k o e4, e5⟩⟩
def dctP (p : Addr) (ks : List (List Int)) (as : List Addr) (ws : List V) (o : Obj) : HO := .ext fun h => DctAt p ks as ws h ∧ h.get? p = some o
section
variable (K : PySem.W.Frag) (M : Addr → Prop) (W : List Addr) (H : Hp)
def FzL (p : Addr) (ws : List V) : Prop := (Rd H p (.lst ws) ∧ ¬ M p) ∨
  ∃ (its : Array Value) (n : Nat), K.lookup p = some { cls := .type "list", data := .seq its n } ∧ its.size ≤ sizeLine ∧ Vals ws its.toList
def FzT (p : Addr) (ws : List V) : Prop := (Rd H p (.tup ws) ∧ ¬ M p) ∨
  ∃ (o : Obj) (its : Array Value) (n : Nat), K.lookup p = some o ∧ o.cls = .type "tuple" ∧ o.data = .seq its n ∧ its.size ≤ sizeLine ∧ Vals ws its.toList
def KsOk : List (List Int) → List Addr → Prop
  | [], as => as = []
  | k :: ks, as => ∃ a r, as = a :: r ∧ FzT K M H a (k.map V.int) ∧ KsOk ks r
mutual
def RF : PV → V → Prop
  | .non, w => w = .non
  | .bl b, w => w = .bl b
  | .int i, w => w = .int i
  | .str s, w => w = .str s
  | .tup xs, w => ∃ p ws, w = .ref p ∧ FzT K M H p ws ∧ RFs xs ws
  | .lst xs, w => ∃ p ws, w = .ref p ∧ FzL K M H p ws ∧ RFs xs ws
  | .ref n, w => ∃ p, w = .ref p ∧ W[n]? = some p
  | .fn x, w => ∃ f, w = .ref f ∧ PySem.W.nsIn K mainGlobals x = some (some (.ref f))
  | .dct ks vs, w => ∃ p as ws o, w = .ref p ∧ H p = some (dctP p ks as ws o) ∧ ¬ M p ∧ KsOk K M H ks as ∧ RFs vs ws
  | .nti ns, w => ∃ p o, w = .ref p ∧ H p = some (.frz o (.tup (ns.map V.int))) ∧ o.dict = none ∧ ¬ M p
def RFs : List PV → List V → Prop
  | [], ws => ws = []
  | x :: xs, ws => ∃ w r, ws = w :: r ∧ RF x w ∧ RFs xs r
end
def kz (ks : List Int) (ws : List V) : List (Key × V) := (ks.zip ws).map fun p => (Sum.inl p.1, p.2)
def clsA (K : PySem.W.Frag) (c : Str) : Addr := match PySem.W.nsIn K mainGlobals c with
  | some (some (.ref a)) => a
  | _ => 0
def RO : PO → Addr → Prop
  | .lst xs, p => ∃ ws, H p = some (.lst ws) ∧ RFs K M W H xs ws
  | .dct ks vs, p => ∃ as ws, H p = some (dctO p ks as ws) ∧ KsOk K M H ks as ∧ RFs K M W H vs ws
  | .dci ks vs, p => ∃ ws, H p = some (.dK (kz ks ws)) ∧ ks.length = ws.length ∧ RFs K M W H vs ws
  | .ins c fs, p => ∃ dx ws, H p = some (.ins (clsA K c) dx ((fs.map (·.1)).zip ws)) ∧ RFs K M W H (fs.map (·.2)) ws
def RV (v : PV) (w : V) : Prop := RF K M W H v w ∨ ∃ xs p ws, v = .lst xs ∧ w = .ref p ∧ H p = some (.lst ws) ∧ p ∉ W ∧ RFs K M W H xs ws
end
theorem FzL.sq {K M H p ws} (h : FzL K M H p ws) : SqL K H p ws := h.elim (fun h => .inl h.1) fun ⟨its, n, h1, h2, h3⟩ => .inr ⟨_, its, n, h1, rfl, rfl, rfl, h2, h3⟩
theorem FzT.sq {K M H p ws} (h : FzT K M H p ws) : SqT K H p ws := h.elim (fun h => .inl h.1) .inr
theorem RFs.len {K M W H} : ∀ {xs : List PV} {ws : List V}, RFs K M W H xs ws → ws.length = xs.length
  | [], _, h => by unfold RFs at h; subst h; rfl
  | x :: xs, _, h => by
    unfold RFs at h
    obtain ⟨w, r, rfl, _, h⟩ := h
    simp [RFs.len h]
theorem RFs.nil {K M W H} : RFs K M W H [] [] := by unfold RFs; rfl
theorem RFs.cons {K M W H x xs w ws} (a : RF K M W H x w) (b : RFs K M W H xs ws) : RFs K M W H (x :: xs) (w :: ws) := by
  unfold RFs; exact ⟨w, ws, rfl, a, b⟩
theorem RFs.inv {K M W H x xs ws} (h : RFs K M W H (x :: xs) ws) : ∃ w r, ws = w :: r ∧ RF K M W H x w ∧ RFs K M W H xs r := by
  unfold RFs at h; exact h
theorem RFs.nil_inv {K M W H ws} (h : RFs K M W H [] ws) : ws = [] := by unfold RFs at h; exact h
theorem RFs.append {K M W H} : ∀ {xs ys : List PV} {ws us : List V}, RFs K M W H xs ws → RFs K M W H ys us → RFs K M W H (xs ++ ys) (ws ++ us)
  | [], _, _, _, a, b => by rw [a.nil_inv]; exact b
  | x :: xs, _, _, _, a, b => by
    obtain ⟨w, r, rfl, h1, h2⟩ := a.inv
    exact RFs.cons h1 (RFs.append h2 b)
theorem RFs.get {K M W H} : ∀ {xs : List PV} {ws : List V} {i : Nat} {x : PV}, RFs K M W H xs ws → xs[i]? = some x → ∃ w, ws[i]? = some w ∧ RF K M W H x w
  | [], _, i, x, _, e => by simp at e
  | y :: xs, _, 0, x, a, e => by
    obtain ⟨w, r, rfl, h1, h2⟩ := a.inv
    simp at e; subst e; exact ⟨w, rfl, h1⟩
  | y :: xs, _, i + 1, x, a, e => by
    obtain ⟨w, r, rfl, h1, h2⟩ := a.inv
    obtain ⟨u, hu, hr⟩ := RFs.get (i := i) (x := x) h2 (by simpa using e)
    exact ⟨u, by simpa using hu, hr⟩
theorem RFs.getr {K M W H} {xs : List PV} {ws : List V} {i : Nat} {w : V} (a : RFs K M W H xs ws) (e : ws[i]? = some w) : ∃ x, xs[i]? = some x ∧ RF K M W H x w := by
  have hl := a.len
  obtain ⟨hi, _⟩ := List.getElem?_eq_some_iff.mp e
  have hx : xs[i]? = some (xs[i]'(by omega)) := List.getElem?_eq_getElem _
  obtain ⟨w', e', r⟩ := a.get hx
  rw [e] at e'; cases e'
  exact ⟨_, hx, r⟩
theorem RFs.take {K M W H} : ∀ {xs : List PV} {ws : List V} (n : Nat), RFs K M W H xs ws → RFs K M W H (xs.take n) (ws.take n)
  | [], _, n, a => by rw [a.nil_inv]; simp; exact RFs.nil
  | x :: xs, _, 0, a => by simp; exact RFs.nil
  | x :: xs, _, n + 1, a => by
    obtain ⟨w, r, rfl, h1, h2⟩ := a.inv
    exact RFs.cons h1 (RFs.take n h2)
theorem RFs.drop {K M W H} : ∀ {xs : List PV} {ws : List V} (n : Nat), RFs K M W H xs ws → RFs K M W H (xs.drop n) (ws.drop n)
  | [], _, n, a => by rw [a.nil_inv]; simp; exact RFs.nil
  | x :: xs, _, 0, a => a
  | x :: xs, _, n + 1, a => by
    obtain ⟨w, r, rfl, h1, h2⟩ := a.inv
    exact RFs.drop n h2
theorem RFs.set {K M W H x w} (hx : RF K M W H x w) : ∀ {xs : List PV} {ws : List V} (n : Nat), RFs K M W H xs ws → RFs K M W H (xs.set n x) (ws.set n w)
  | [], _, n, a => by rw [a.nil_inv]; simp; exact RFs.nil
  | y :: xs, _, 0, a => by
    obtain ⟨w, r, rfl, h1, h2⟩ := a.inv
    exact RFs.cons hx h2
  | y :: xs, _, n + 1, a => by
    obtain ⟨w, r, rfl, h1, h2⟩ := a.inv
    exact RFs.cons h1 (RFs.set hx n h2)
theorem RFs.reverse {K M W H} : ∀ {xs : List PV} {ws : List V}, RFs K M W H xs ws → RFs K M W H xs.reverse ws.reverse
  | [], _, a => by rw [a.nil_inv]; exact RFs.nil
  | x :: xs, _, a => by
    obtain ⟨w, r, rfl, h1, h2⟩ := a.inv
    rw [List.reverse_cons, List.reverse_cons]
    exact RFs.append (RFs.reverse h2) (RFs.cons h1 RFs.nil)
theorem RFs.ints {K M W H} : ∀ (ns : List Int), RFs K M W H (ns.map PV.int) (ns.map V.int)
  | [] => RFs.nil
  | n :: ns => RFs.cons (by unfold RF; rfl) (RFs.ints ns)
def NoTbl (o : HO) : Prop := ∀ ps, o ≠ .tbl ps
structure Grow (M M' : Addr → Prop) (W W' : List Addr) (H H' : Hp) : Prop where
  kp : ∀ b o, H b = some o → ¬ M b → NoTbl o → H' b = some o
  mm : ∀ b, H b ≠ none → ¬ M b → ¬ M' b
  pre : W <+: W'
theorem Grow.refl {M W H} : Grow M M W W H H := ⟨fun _ _ h _ _ => h, fun _ _ h => h, List.prefix_refl _⟩
theorem Grow.trans {M M1 M2 W W1 W2 H H1 H2} (a : Grow M M1 W W1 H H1) (b : Grow M1 M2 W1 W2 H1 H2) (nt : ∀ b o, H b = some o → ¬ M b → H1 b ≠ none) : Grow M M2 W W2 H H2 where
  kp := fun c o h n t => b.kp c o (a.kp c o h n t) (a.mm c (by rw [h]; simp) n) t
  mm := fun c h n => by
    cases q : H c with
    | none => exact absurd q h
    | some o => exact b.mm c (nt c o q n) (a.mm c h n)
  pre := a.pre.trans b.pre
theorem Rd.nt {H : Hp} {p : Addr} {u : HO} (nu : NoTbl u) (h : Rd H p u) : ∃ o, H p = some o ∧ NoTbl o := by
  rcases h with h | ⟨o, h⟩
  · exact ⟨u, h, nu⟩
  · exact ⟨_, h, fun ps e => nomatch e⟩
theorem Grow.rd {M M' W W' H H' p u} (g : Grow M M' W W' H H') (nu : NoTbl u) (h : Rd H p u) (n : ¬ M p) : Rd H' p u := by
  rcases h with h | ⟨o, h⟩
  · exact .inl (g.kp p _ h n nu)
  · exact .inr ⟨o, g.kp p _ h n fun ps e => nomatch e⟩
theorem Grow.fzL {K M M' W W' H H' p ws} (g : Grow M M' W W' H H') (h : FzL K M H p ws) : FzL K M' H' p ws := by
  rcases h with ⟨h, n⟩ | h
  · refine .inl ⟨g.rd (fun ps e => nomatch e) h n, g.mm p ?_ n⟩
    obtain ⟨o, e, _⟩ := Rd.nt (u := .lst ws) (fun ps e => nomatch e) h
    rw [e]; simp
  · exact .inr h
theorem Grow.fzT {K M M' W W' H H' p ws} (g : Grow M M' W W' H H') (h : FzT K M H p ws) : FzT K M' H' p ws := by
  rcases h with ⟨h, n⟩ | h
  · refine .inl ⟨g.rd (fun ps e => nomatch e) h n, g.mm p ?_ n⟩
    obtain ⟨o, e, _⟩ := Rd.nt (u := .tup ws) (fun ps e => nomatch e) h
    rw [e]; simp
  · exact .inr h
theorem pre_get {α : Type} {W W' : List α} {n : Nat} {p : α} (h : W <+: W') (e : W[n]? = some p) : W'[n]? = some p := by
  obtain ⟨r, rfl⟩ := h
  obtain ⟨hn, _⟩ := List.getElem?_eq_some_iff.mp e
  rw [List.getElem?_append_left hn]; exact e
theorem KsOk.grow {K M M' W W' H H'} (g : Grow M M' W W' H H') : ∀ {ks : List (List Int)} {as : List Addr}, KsOk K M H ks as → KsOk K M' H' ks as
  | [], _, h => h
  | _ :: _, _, ⟨a, r, e, h1, h2⟩ => ⟨a, r, e, g.fzT h1, KsOk.grow g h2⟩
mutual
theorem RF.grow {K M M' W W' H H'} (g : Grow M M' W W' H H') : ∀ (v : PV) {w : V}, RF K M W H v w → RF K M' W' H' v w
  | .non, _, h => by unfold RF at h ⊢; exact h
  | .bl b, _, h => by unfold RF at h ⊢; exact h
  | .int i, _, h => by unfold RF at h ⊢; exact h
  | .str s, _, h => by unfold RF at h ⊢; exact h
  | .tup xs, _, h => by
    unfold RF at h ⊢
    obtain ⟨p, ws, e, h1, h2⟩ := h
    exact ⟨p, ws, e, g.fzT h1, RFs.grow g xs h2⟩
  | .lst xs, _, h => by
    unfold RF at h ⊢
    obtain ⟨p, ws, e, h1, h2⟩ := h
    exact ⟨p, ws, e, g.fzL h1, RFs.grow g xs h2⟩
  | .ref n, _, h => by
    unfold RF at h ⊢
    obtain ⟨p, e, h1⟩ := h
    exact ⟨p, e, pre_get g.pre h1⟩
  | .fn x, _, h => by unfold RF at h ⊢; exact h
  | .dct ks vs, _, h => by
    unfold RF at h ⊢
    obtain ⟨p, as, ws, o, e, h1, h2, h3, h4⟩ := h
    exact ⟨p, as, ws, o, e, g.kp p _ h1 h2 (fun ps e => nomatch e), g.mm p (by rw [h1]; simp) h2, h3.grow g, RFs.grow g vs h4⟩
  | .nti ns, _, h => by
    unfold RF at h ⊢
    obtain ⟨p, o, e, h1, h2, h3⟩ := h
    exact ⟨p, o, e, g.kp p _ h1 h3 (fun ps e => nomatch e), h2, g.mm p (by rw [h1]; simp) h3⟩
theorem RFs.grow {K M M' W W' H H'} (g : Grow M M' W W' H H') : ∀ (xs : List PV) {ws : List V}, RFs K M W H xs ws → RFs K M' W' H' xs ws
  | [], _, h => by unfold RFs at h ⊢; exact h
  | x :: xs, _, h => by
    unfold RFs at h ⊢
    obtain ⟨w, r, e, h1, h2⟩ := h
    exact ⟨w, r, e, RF.grow g x h1, RFs.grow g xs h2⟩
end
theorem Grow.less {M M' W H} (h : ∀ b, M' b → M b) : Grow M M' W W H H := ⟨fun _ _ h _ _ => h, fun b _ n z => n (h b z), List.prefix_refl _⟩
end Mp
end
section
set_option maxRecDepth 100000
set_option maxHeartbeats 1000000
namespace Mp
open PySem PySem.Spec PyProof.Rows L2
def Om (env : MEnv) (σ : L2.St) (p : Addr) : Prop := ∃ (i : Nat) (o : PO), env[i]? = some (EV.own o) ∧ σ[i]? = some (some (V.ref p))
def Mt (Mx : Addr → Prop) (W : List Addr) (env : MEnv) (σ : L2.St) (p : Addr) : Prop := p ∈ W ∨ Mx p ∨ Om env σ p
structure Tbs where
  ps : List Addr
  tg : Addr → Option Str
def TabLike (o : HO) : Prop := (∃ ps, o = .tbl ps) ∨ ∃ c q, o = LamX.CodeO c q
theorem dctO_code {p : Addr} {ks : List (List Int)} {as : List Addr} {ws : List V} {c : Addr} {q : Str} (e : dctO p ks as ws = LamX.CodeO c q) : False := by
  have e' : DctAt p ks as ws = fun h => ∃ (oc : Obj) (vs : Array Value) (t : Tok), h.get? c = some oc ∧ oc.data = .fields vs ∧ vs[1]? = some (.str q t) := HO.ext.inj e
  have hp : ∀ b : Nat, b < max c p + 1 → ({ objs := Array.replicate (max c p + 1) { cls := .none, data := .fields #[.none, .str q 0] } } : Heap).get? b = some { cls := .none, data := .fields #[.none, .str q 0] } := fun b hb => by
    unfold Heap.get?; simp [hb]
  have y : DctAt p ks as ws ({ objs := Array.replicate (max c p + 1) { cls := .none, data := .fields #[.none, .str q 0] } } : Heap) := by
    rw [e']; exact ⟨_, _, 0, hp c (by omega), rfl, rfl⟩
  obtain ⟨_, _, _, xs, _, _, _, o, es, ep, h1, h2, _⟩ := y
  rw [hp p (by omega)] at h1
  cases h1
  exact nomatch h2.1
def TabOk (tg : Addr → Option Str) (H : Hp) (P : Addr) : Prop := ∃ ps : Array Value, H P = some (.tbl ps) ∧ TriplesOk ps.toList ∧ ∀ q, tg P = some q → ∀ (pos : Pos) (cv : Value), codeAmong pos ps.toList = some cv → ∃ c, cv = .ref c ∧ H c = some (LamX.CodeO c q)
theorem TabOk.keep {tg : Addr → Option Str} {H H' : Hp} {P : Addr} (h : TabOk tg H P) (k : ∀ b o, H b = some o → TabLike o → H' b = some o) : TabOk tg H' P := by
  obtain ⟨ps, h1, h2, h3⟩ := h
  refine ⟨ps, k _ _ h1 (.inl ⟨_, rfl⟩), h2, fun q e pos cv hc => ?_⟩
  obtain ⟨c, e1, e2⟩ := h3 q e pos cv hc
  exact ⟨c, e1, k _ _ e2 (.inr ⟨_, _, rfl⟩)⟩
theorem TabOk.g {tg : Addr → Option Str} {H : Hp} {P : Addr} (h : TabOk tg H P) : GxR.TabG H P := let ⟨ps, h1, h2, _⟩ := h; ⟨ps, h1, h2⟩
theorem TabOk.s {tg : Addr → Option Str} {H : Hp} {P : Addr} {q : Str} (h : TabOk tg H P) (e : tg P = some q) : LamX.TabS H P q := let ⟨ps, h1, h2, h3⟩ := h; ⟨ps, h1, h2, h3 q e⟩
structure Rel (K : PySem.W.Frag) (tb : Tbs) (Mx : Addr → Prop) (W : List Addr) (σ : L2.St) (H : Hp) (env : MEnv) (st : Sto) : Prop where
  tab : ∀ P ∈ tb.ps, TabOk tb.tg H P
  mx : ∀ p, Mx p → H p ≠ none
  nd : W.Nodup
  wo : ∀ p ∈ W, ¬ Mx p ∧ ¬ Om env σ p
  om : ∀ p, Om env σ p → ¬ Mx p
  inj : ∀ (i j : Nat) (o o' : PO) (p : Addr), env[i]? = some (EV.own o) → σ[i]? = some (some (V.ref p)) → env[j]? = some (EV.own o') → σ[j]? = some (some (V.ref p)) → i = j
  el : env.length = σ.length
  len : W.length = st.length
  sto : ∀ (i : Nat) (p : Addr) (o : PO), W[i]? = some p → st[i]? = some o → RO K (Mt Mx W env σ) W H o p
  pv : ∀ (i : Nat) (v : PV), env[i]? = some (EV.pv v) → ∃ w, σ[i]? = some (some w) ∧ RF K (Mt Mx W env σ) W H v w
  own : ∀ (i : Nat) (o : PO), env[i]? = some (EV.own o) → ∃ p, σ[i]? = some (some (V.ref p)) ∧ RO K (Mt Mx W env σ) W H o p
structure Stp (K : PySem.W.Frag) (tb : Tbs) (Mx : Addr → Prop) (env : MEnv) (σ : L2.St) (W : List Addr) (H : Hp) (W' : List Addr) (H' : Hp) (st' : Sto) : Prop where
  rel : Rel K tb Mx W' σ H' env st'
  kp : ∀ b o, H b = some o → b ∉ W → NoTbl o → H' b = some o
  nt : ∀ b, H b ≠ none → H' b ≠ none
  pre : W <+: W'
  fr : ∀ b ∈ W', b ∈ W ∨ H b = none
section
variable {K : PySem.W.Frag} {tb : Tbs} {Mx : Addr → Prop} {W W' W1 W2 : List Addr} {σ : L2.St} {H H' H1 H2 : Hp} {env : MEnv} {st st' st1 st2 : Sto}
theorem RO.grow {M M' : Addr → Prop} {o : PO} {p : Addr} (g : Grow M M' W W' H H') (e : ∀ u, H p = some u → NoTbl u → H' p = some u) (h : RO K M W H o p) : RO K M' W' H' o p := by
  cases o with
  | lst xs =>
    obtain ⟨ws, e1, r⟩ := h
    exact ⟨ws, e _ e1 (fun ps z => nomatch z), RFs.grow g _ r⟩
  | dct ks vs =>
    obtain ⟨as, ws, e1, k, r⟩ := h
    exact ⟨as, ws, e _ e1 (fun ps z => nomatch z), KsOk.grow g k, RFs.grow g _ r⟩
  | dci ks vs =>
    obtain ⟨ws, e1, k, r⟩ := h
    exact ⟨ws, e _ e1 (fun ps z => nomatch z), k, RFs.grow g _ r⟩
  | ins c fs =>
    obtain ⟨dx, ws, e1, r⟩ := h
    exact ⟨dx, ws, e _ e1 (fun ps z => nomatch z), RFs.grow g _ r⟩
theorem RO.some {M : Addr → Prop} {o : PO} {p : Addr} (h : RO K M W H o p) : ∃ u, H p = some u ∧ NoTbl u := by
  cases o with
  | lst xs => obtain ⟨ws, e, _⟩ := h; exact ⟨_, e, fun ps z => nomatch z⟩
  | dct ks vs => obtain ⟨as, ws, e, _⟩ := h; exact ⟨_, e, fun ps z => nomatch z⟩
  | dci ks vs => obtain ⟨ws, e, _⟩ := h; exact ⟨_, e, fun ps z => nomatch z⟩
  | ins c fs => obtain ⟨dx, ws, e, _⟩ := h; exact ⟨_, e, fun ps z => nomatch z⟩
theorem RO.nl {M : Addr → Prop} {o : PO} {p : Addr} (h : RO K M W H o p) : ∀ u, H p = Option.some u → ¬ TabLike u := by
  cases o with
  | lst xs =>
    obtain ⟨ws, e, _⟩ := h
    intro u hu z
    rw [e] at hu; cases hu
    rcases z with ⟨_, z⟩ | ⟨_, _, z⟩
    · cases z
    · unfold LamX.CodeO at z; cases z
  | dct ks vs =>
    obtain ⟨as, ws, e, _⟩ := h
    intro u hu z
    rw [e] at hu; cases hu
    rcases z with ⟨_, z⟩ | ⟨_, _, z⟩
    · unfold dctO at z; cases z
    · exact dctO_code z
  | dci ks vs =>
    obtain ⟨ws, e, _⟩ := h
    intro u hu z
    rw [e] at hu; cases hu
    rcases z with ⟨_, z⟩ | ⟨_, _, z⟩
    · cases z
    · unfold LamX.CodeO at z; cases z
  | ins c fs =>
    obtain ⟨dx, ws, e, _⟩ := h
    intro u hu z
    rw [e] at hu; cases hu
    rcases z with ⟨_, z⟩ | ⟨_, _, z⟩
    · cases z
    · unfold LamX.CodeO at z; cases z
theorem Rel.omS (r : Rel K tb Mx W σ H env st) {p : Addr} (h : Om env σ p) : ∃ u, H p = some u ∧ NoTbl u := by
  obtain ⟨i, o, e1, e2⟩ := h
  obtain ⟨q, e3, ro⟩ := r.own i o e1
  rw [e2] at e3; cases e3
  exact ro.some
theorem Rel.wS (r : Rel K tb Mx W σ H env st) {p : Addr} (h : p ∈ W) : ∃ u, H p = some u ∧ NoTbl u := by
  obtain ⟨i, hi, e⟩ := List.getElem_of_mem h
  have hs : i < st.length := by rw [← r.len]; exact hi
  exact (r.sto i p st[i] (by rw [List.getElem?_eq_getElem hi, e]) (List.getElem?_eq_getElem hs)).some
theorem Rel.omL (r : Rel K tb Mx W σ H env st) {p : Addr} (h : Om env σ p) : ∀ u, H p = some u → ¬ TabLike u := by
  obtain ⟨i, o, e1, e2⟩ := h
  obtain ⟨q, e3, ro⟩ := r.own i o e1
  rw [e2] at e3; cases e3
  exact ro.nl
theorem Rel.wL (r : Rel K tb Mx W σ H env st) {p : Addr} (h : p ∈ W) : ∀ u, H p = some u → ¬ TabLike u := by
  obtain ⟨i, hi, e⟩ := List.getElem_of_mem h
  have hs : i < st.length := by rw [← r.len]; exact hi
  exact (r.sto i p st[i] (by rw [List.getElem?_eq_getElem hi, e]) (List.getElem?_eq_getElem hs)).nl
theorem Rel.mtS (r : Rel K tb Mx W σ H env st) {p : Addr} (h : Mt Mx W env σ p) : H p ≠ none := by
  rcases h with h | h | h
  · obtain ⟨u, e, _⟩ := r.wS h; rw [e]; simp
  · exact r.mx p h
  · obtain ⟨u, e, _⟩ := r.omS h; rw [e]; simp
theorem Stp.refl (r : Rel K tb Mx W σ H env st) : Stp K tb Mx env σ W H W H st := ⟨r, fun _ _ h _ _ => h, fun _ h => h, List.prefix_refl _, fun _ h => .inl h⟩
theorem Stp.trans (a : Stp K tb Mx env σ W H W1 H1 st1) (b : Stp K tb Mx env σ W1 H1 W2 H2 st2) : Stp K tb Mx env σ W H W2 H2 st2 where
  rel := b.rel
  kp := fun c o h n t => b.kp c o (a.kp c o h n t) (fun z => (a.fr c z).elim n fun q => by rw [h] at q; cases q) t
  nt := fun c h => b.nt c (a.nt c h)
  pre := a.pre.trans b.pre
  fr := fun c h => by
    rcases b.fr c h with z | z
    · exact a.fr c z
    · right
      cases q : H c with
      | none => rfl
      | some u => exact absurd z (a.nt c (by rw [q]; simp))
theorem Stp.grow (a : Stp K tb Mx env σ W H W' H' st') : Grow (Mt Mx W env σ) (Mt Mx W' env σ) W W' H H' where
  kp := fun b o h n t => a.kp b o h (fun z => n (.inl z)) t
  mm := fun b h n z => by
    rcases z with z | z
    · rcases a.fr b z with y | y
      · exact n (.inl y)
      · exact h y
    · exact n (.inr z)
  pre := a.pre
theorem Rel.new {p : Addr} {o : HO} (r : Rel K tb Mx W σ H env st) (hp : H p = none) (no : NoTbl o) : Rel K tb (fun b => Mx b ∨ b = p) W σ (upd H p o) env st := by
  have ne : ∀ b, H b ≠ none → b ≠ p := fun b h z => h (z ▸ hp)
  have e : ∀ b, H b ≠ none → upd H p o b = H b := fun b h => upd_ne (ne b h)
  have g : Grow (Mt Mx W env σ) (Mt (fun b => Mx b ∨ b = p) W env σ) W W H (upd H p o) := ⟨fun b u h _ _ => by rw [e b (by rw [h]; simp)]; exact h,
    fun b h n z => by
      rcases z with z | (z | z) | z
      · exact n (.inl z)
      · exact n (.inr (.inl z))
      · exact ne b h z
      · exact n (.inr (.inr z)), List.prefix_refl _⟩
  have ge : ∀ b u, H b = some u → NoTbl u → upd H p o b = some u := fun b u h _ => by rw [e b (by rw [h]; simp)]; exact h
  refine ⟨fun P hP => ?_, fun b h => ?_, r.nd, fun b h => ⟨fun z => ?_, (r.wo b h).2⟩, fun b h z => ?_, r.inj, r.el, r.len, fun i q u h1 h2 => (r.sto i q u h1 h2).grow g (ge q), fun i v h => ?_, fun i u h => ?_⟩
  · exact (r.tab P hP).keep fun b o h _ => by rw [e b (by rw [h]; simp)]; exact h
  · rcases h with h | h
    · rw [e b (r.mx b h)]; exact r.mx b h
    · rw [h, upd_same]; simp
  · rcases z with z | z
    · exact (r.wo b h).1 z
    · exact ne b (r.mtS (.inl h)) z
  · rcases z with z | z
    · exact r.om b h z
    · exact ne b (r.mtS (.inr (.inr h))) z
  · obtain ⟨w, e1, e2⟩ := r.pv i v h
    exact ⟨w, e1, RF.grow g _ e2⟩
  · obtain ⟨q, e1, e2⟩ := r.own i u h
    exact ⟨q, e1, e2.grow g (ge q)⟩
theorem Rel.less {Mx' : Addr → Prop} (r : Rel K tb Mx W σ H env st) (h : ∀ b, Mx' b → Mx b) : Rel K tb Mx' W σ H env st := by
  have g : Grow (Mt Mx W env σ) (Mt Mx' W env σ) W W H H := Grow.less fun b z => by
    rcases z with z | z | z
    · exact .inl z
    · exact .inr (.inl (h b z))
    · exact .inr (.inr z)
  refine ⟨r.tab, fun b z => r.mx b (h b z), r.nd, fun b z => ⟨fun q => (r.wo b z).1 (h b q), (r.wo b z).2⟩, fun b z q => r.om b z (h b q), r.inj, r.el, r.len, fun i q u h1 h2 => (r.sto i q u h1 h2).grow g (fun _ e _ => e), fun i v z => ?_, fun i u z => ?_⟩
  · obtain ⟨w, e1, e2⟩ := r.pv i v z
    exact ⟨w, e1, RF.grow g _ e2⟩
  · obtain ⟨q, e1, e2⟩ := r.own i u z
    exact ⟨q, e1, e2.grow g (fun _ e _ => e)⟩
theorem Stp.new {p : Addr} {o : HO} (r : Rel K tb Mx W σ H env st) (hp : H p = none) (no : NoTbl o) : Stp K tb Mx env σ W H W (upd H p o) st where
  rel := (r.new hp no).less fun _ h => .inl h
  kp := fun b u h _ _ => by rw [upd_ne (fun z => by rw [z, hp] at h; cases h)]; exact h
  nt := fun b h => by
    by_cases e : b = p
    · rw [e, upd_same]; simp
    · rw [upd_ne e]; exact h
  pre := List.prefix_refl _
  fr := fun _ h => .inl h
theorem Mt.fresh {p : Addr} (r : Rel K tb Mx W σ H env st) (hp : H p = none) : ¬ Mt Mx W env σ p := fun h => r.mtS h hp
theorem Rel.toCall (r : Rel K tb Mx W σ H env st) : Rel K tb (fun b => Mx b ∨ Om env σ b) W [] H [] st := by
  have g : Grow (Mt Mx W env σ) (Mt (fun b => Mx b ∨ Om env σ b) W [] []) W W H H := Grow.less fun b z => by
    rcases z with z | (z | z) | ⟨i, o, z, _⟩
    · exact .inl z
    · exact .inr (.inl z)
    · exact .inr (.inr z)
    · simp at z
  refine ⟨r.tab, fun b h => ?_, r.nd, fun b h => ⟨fun z => ?_, fun ⟨i, o, z, _⟩ => by simp at z⟩, fun b ⟨i, o, z, _⟩ => by simp at z, fun i j o o' p z => by simp at z, rfl, r.len, fun i q u h1 h2 => (r.sto i q u h1 h2).grow g (fun _ e _ => e), fun i v z => by simp at z, fun i u z => by simp at z⟩
  · rcases h with h | h
    · exact r.mx b h
    · exact r.mtS (.inr (.inr h))
  · rcases z with z | z
    · exact (r.wo b h).1 z
    · exact (r.wo b h).2 z
theorem Mt.call {b : Addr} : Mt (fun b => Mx b ∨ Om env σ b) W [] [] b ↔ Mt Mx W env σ b := by
  constructor
  · intro z
    rcases z with z | (z | z) | ⟨i, o, z, _⟩
    · exact .inl z
    · exact .inr (.inl z)
    · exact .inr (.inr z)
    · simp at z
  · intro z
    rcases z with z | z | z
    · exact .inl z
    · exact .inr (.inl (.inl z))
    · exact .inr (.inl (.inr z))
structure KB (W0 : List Addr) (H0 : Hp) (O0 : Addr → Prop) (W : List Addr) (H : Hp) (O : Addr → Prop) : Prop where
  kp : ∀ b o, H0 b = some o → b ∉ W0 → ¬ O0 b → NoTbl o → H b = some o
  nt : ∀ b, H0 b ≠ none → H b ≠ none
  pre : W0 <+: W
  fr : ∀ b ∈ W, b ∈ W0 ∨ H0 b = none
  om : ∀ b, O b → O0 b ∨ H0 b = none
abbrev No : Addr → Prop := fun _ => False
theorem KB.refl {O : Addr → Prop} : KB W H O W H O := ⟨fun _ _ h _ _ _ => h, fun _ h => h, List.prefix_refl _, fun _ h => .inl h, fun _ h => .inl h⟩
theorem Stp.kb {O : Addr → Prop} (a : Stp K tb Mx env σ W H W' H' st') : KB W H O W' H' O := ⟨fun b o h n _ t => a.kp b o h n t, a.nt, a.pre, a.fr, fun _ h => .inl h⟩
theorem KB.trans {W0 : List Addr} {H0 : Hp} {O0 O O' : Addr → Prop} (a : KB W0 H0 O0 W H O) (b : KB W H O W' H' O') : KB W0 H0 O0 W' H' O' where
  kp := fun c o h n m t => b.kp c o (a.kp c o h n m t) (fun z => (a.fr c z).elim n fun q => by rw [h] at q; cases q) (fun z => (a.om c z).elim m fun q => by rw [h] at q; cases q) t
  nt := fun c h => b.nt c (a.nt c h)
  pre := a.pre.trans b.pre
  fr := fun c h => by
    rcases b.fr c h with z | z
    · exact a.fr c z
    · right
      cases q : H0 c with
      | none => rfl
      | some u => exact absurd z (a.nt c (by rw [q]; simp))
  om := fun c h => by
    rcases b.om c h with z | z
    · exact a.om c z
    · right
      cases q : H0 c with
      | none => rfl
      | some u => exact absurd z (a.nt c (by rw [q]; simp))
theorem KB.less {W0 : List Addr} {H0 : Hp} {O0 O O' : Addr → Prop} (a : KB W0 H0 O0 W H O) (h : ∀ b, O' b → O b) : KB W0 H0 O0 W H O' := ⟨a.kp, a.nt, a.pre, a.fr, fun b z => a.om b (h b z)⟩
theorem KB.none {W0 : List Addr} {H0 : Hp} {O0 O : Addr → Prop} (a : KB W0 H0 O0 W H O) : KB W0 H0 O0 W H No := a.less fun _ z => z.elim
theorem KB.grow {env' : MEnv} {σ' : L2.St} (a : KB W H (Om env σ) W' H' (Om env' σ')) : Grow (Mt Mx W env σ) (Mt Mx W' env' σ') W W' H H' where
  kp := fun b o h n t => a.kp b o h (fun z => n (.inl z)) (fun z => n (.inr (.inr z))) t
  mm := fun b h n z => by
    rcases z with z | z | z
    · rcases a.fr b z with y | y
      · exact n (.inl y)
      · exact h y
    · exact n (.inr (.inl z))
    · rcases a.om b z with y | y
      · exact n (.inr (.inr y))
      · exact h y
  pre := a.pre
theorem Rel.back (r : Rel K tb Mx W σ H env st) (r' : Rel K tb (fun b => Mx b ∨ Om env σ b) W' [] H' [] st') (k : KB W H No W' H' No) : Stp K tb Mx env σ W H W' H' st' := by
  have g : Grow (Mt Mx W env σ) (Mt Mx W' env σ) W W' H H' := (KB.mk (fun b o h n _ t => k.kp b o h n (fun z => z) t) k.nt k.pre k.fr (fun _ h => .inl h) : KB W H (Om env σ) W' H' (Om env σ)).grow
  have g2 : Grow (Mt (fun b => Mx b ∨ Om env σ b) W' [] []) (Mt Mx W' env σ) W' W' H' H' := Grow.less fun b z => Mt.call.mpr z
  refine ⟨⟨r'.tab, fun b h => k.nt b (r.mx b h), r'.nd, fun b h => ⟨fun z => (r'.wo b h).1 (.inl z), fun z => (r'.wo b h).1 (.inr z)⟩, r.om, r.inj, r.el, r'.len, fun i q u h1 h2 => (r'.sto i q u h1 h2).grow g2 (fun _ e _ => e), fun i v h => ?_, fun i u h => ?_⟩, fun b o h n t => k.kp b o h n (fun z => z) t, k.nt, k.pre, k.fr⟩
  · obtain ⟨w, e1, e2⟩ := r.pv i v h
    exact ⟨w, e1, RF.grow g _ e2⟩
  · obtain ⟨q, e1, e2⟩ := r.own i u h
    have no : q ∉ W := fun z => (r.wo q z).2 ⟨i, u, h, e1⟩
    exact ⟨q, e1, e2.grow g fun x hx nx => k.kp q x hx no (fun z => z) nx⟩
end
inductive Md where | R | F | N
def RX (mg : Str → Option Value) (H : Hp) (x : MExc) (cls : Value) (d : Option Addr) : Prop := mg x.cls = some cls ∧ ((x.arg = .non ∧ d = none) ∨ x.arg = .bl true ∨ ∃ (fld : Str) (i : Int) (p : Addr), x.arg = .tup [.str fld, .int i] ∧ d = some p ∧ H p = some (.xd [(fld, .int i)]))
section
variable (K : PySem.W.Frag) (mg : Str → Option Value) (tb : Tbs) (Mx : Addr → Prop) (W : List Addr) (σ : L2.St) (H : Hp) (env : MEnv)
def RM (md : Md) (W' : List Addr) (H' : Hp) (st' : Sto) (v : PV) (w : V) : Prop := match md with
  | .R => RV K (Mt Mx W' env σ) W' H' v w
  | .F => RF K (Mt Mx W' env σ) W' H' v w
  | .N => ∃ xs p ws, v = .lst xs ∧ w = .ref p ∧ H p = none ∧ ¬ Mx p ∧ H' p = some (.lst ws) ∧ Rel K tb (fun b => Mx b ∨ b = p) W' σ H' env st' ∧ RFs K (Mt (fun b => Mx b ∨ b = p) W' env σ) W' H' xs ws
def EPost (Wx : WX) (md : Md) (r : MRes PV) (Q : VK) : Prop := match r with
  | .ok v st' => ∀ W' H' w, Stp K tb Mx env σ W H W' H' st' → RM K tb Mx σ H env md W' H' st' v w → Q w H'
  | .exc x st' => ∀ W' H' cls d, Stp K tb Mx env σ W H W' H' st' → RX mg H' x cls d → Wx cls d σ H'
  | .bad => False
def TPost (Wx : WX) (r : MRes Bool) (Q : Bool → Hp → Prop) : Prop := match r with
  | .ok v st' => ∀ W' H', Stp K tb Mx env σ W H W' H' st' → Q v H'
  | .exc x st' => ∀ W' H' cls d, Stp K tb Mx env σ W H W' H' st' → RX mg H' x cls d → Wx cls d σ H'
  | .bad => False
def RVs (M : Addr → Prop) (xs : List PV) (ws : List V) : Prop := Paired (RV K M W H) xs ws
def RMs (fz : Bool) (M : Addr → Prop) (xs : List PV) (ws : List V) : Prop := if fz then RFs K M W H xs ws else RVs K W H M xs ws
def APost (Wx : WX) (fz : Bool) (r : MRes (List PV)) (Q : List V → Hp → Prop) : Prop := match r with
  | .ok vs st' => ∀ W' H' ws, Stp K tb Mx env σ W H W' H' st' → RMs K W' H' fz (Mt Mx W' env σ) vs ws → Q ws H'
  | .exc x st' => ∀ W' H' cls d, Stp K tb Mx env σ W H W' H' st' → RX mg H' x cls d → Wx cls d σ H'
  | .bad => False
end
def tM (K : PySem.W.Frag) (mg : Str → Option Value) (tb : Tbs) (Wx : WX) (md : Md) (m : EM) : TE := fun σ H Q =>
  ∃ Mx W env st, Rel K tb Mx W σ H env st ∧ EPost K mg tb Mx W σ H env Wx md (m env st) Q
def tMT (K : PySem.W.Frag) (mg : Str → Option Value) (tb : Tbs) (Wx : WX) (m : TM) : TT := fun σ H Q =>
  ∃ Mx W env st, Rel K tb Mx W σ H env st ∧ TPost K mg tb Mx W σ H env Wx (m env st) Q
def tMA (K : PySem.W.Frag) (mg : Str → Option Value) (tb : Tbs) (Wx : WX) (fz : Bool) (m : AM) : TA := fun σ H Q =>
  ∃ Mx W env st, Rel K tb Mx W σ H env st ∧ APost K mg tb Mx W σ H env Wx fz (m env st) Q
def SPost (K : PySem.W.Frag) (mg : Str → Option Value) (tb : Tbs) (Mx : Addr → Prop) (W0 : List Addr) (H0 : Hp) (O0 : Addr → Prop) (Wx : WX) (r : MFlow) (D : Ends) : Prop := match r with
  | .nx env' st' => ∀ σ' W' H', Rel K tb Mx W' σ' H' env' st' → KB W0 H0 O0 W' H' (Om env' σ') → D.nx σ' H'
  | .bk env' st' => ∀ σ' W' H', Rel K tb Mx W' σ' H' env' st' → KB W0 H0 O0 W' H' (Om env' σ') → D.bk σ' H'
  | .ct env' st' => ∀ σ' W' H', Rel K tb Mx W' σ' H' env' st' → KB W0 H0 O0 W' H' (Om env' σ') → D.ct σ' H'
  | .rt v st' => ∀ W' H' w, Rel K tb Mx W' [] H' [] st' → KB W0 H0 O0 W' H' No → RF K (Mt Mx W' [] []) W' H' v w → D.rt w H'
  | .ex x st' => ∀ σ' W' H' cls d, Rel K tb Mx W' [] H' [] st' → KB W0 H0 O0 W' H' No → RX mg H' x cls d → Wx cls d σ' H'
  | .bad => False
def tS (K : PySem.W.Frag) (mg : Str → Option Value) (tb : Tbs) (Wx : WX) (m : SM) : TS := fun D σ H =>
  ∃ Mx W0 H0 O0 W env st, Rel K tb Mx W σ H env st ∧ KB W0 H0 O0 W H (Om env σ) ∧ SPost K mg tb Mx W0 H0 O0 Wx (m env st) D
abbrev EOk (X : Cx) (tb : Tbs) (Wx : WX) (md : Md) (e : Expr) (m : EM) : Prop := PE X e (tM X.K X.mg tb Wx md m)
abbrev TOk (X : Cx) (tb : Tbs) (Wx : WX) (e : Expr) (m : TM) : Prop := PT X e (tMT X.K X.mg tb Wx m)
abbrev AOk (X : Cx) (tb : Tbs) (Wx : WX) (fz : Bool) (es : List Expr) (m : AM) : Prop := PA X es (tMA X.K X.mg tb Wx fz m)
abbrev SOk (X : Cx) (tb : Tbs) (Wx : WX) (s : Stmt) (m : SM) : Prop := PS X s (tS X.K X.mg tb Wx m)
abbrev BOk (X : Cx) (tb : Tbs) (Wx : WX) (s : List Stmt) (m : SM) : Prop := PSs X s (tS X.K X.mg tb Wx m)
theorem PE_mono {X : Cx} {e : Expr} {t t' : TE} (h : PE X e t) (i : ∀ σ H Q, t' σ H Q → t σ H Q) : PE X e t' := ⟨fun pins s σ H Q I q => h.run pins s σ H Q I (i σ H Q q)⟩
theorem PT_mono {X : Cx} {e : Expr} {t t' : TT} (h : PT X e t) (i : ∀ σ H Q, t' σ H Q → t σ H Q) : PT X e t' := ⟨fun pins s σ H Q I q => h.run pins s σ H Q I (i σ H Q q)⟩
theorem PW_mono {X : Cx} {e : Expr} {t t' : TT} (h : PW X e t) (i : ∀ σ H Q, t' σ H Q → t σ H Q) : PW X e t' := ⟨fun wh pins s σ H Q I q => h.run wh pins s σ H Q I (i σ H Q q)⟩
theorem PA_mono {X : Cx} {e : List Expr} {t t' : TA} (h : PA X e t) (i : ∀ σ H Q, t' σ H Q → t σ H Q) : PA X e t' := ⟨fun pos pins s σ H Q I q => h.run pos pins s σ H Q I (i σ H Q q)⟩
theorem PS_mono {X : Cx} {e : Stmt} {t t' : TS} (h : PS X e t) (i : ∀ D σ H, t' D σ H → t D σ H) : PS X e t' := ⟨fun pins s σ H D I q => h.run pins s σ H D I (i D σ H q)⟩
theorem PSs_mono {X : Cx} {e : List Stmt} {t t' : TS} (h : PSs X e t) (i : ∀ D σ H, t' D σ H → t D σ H) : PSs X e t' := ⟨fun pins s σ H D I q => h.run pins s σ H D I (i D σ H q)⟩
def bindR {α β : Type} (r : MRes α) (f : α → Sto → MRes β) : MRes β := match r with
  | .ok a s => f a s
  | .exc x s => .exc x s
  | .bad => .bad
def bindF {α : Type} (r : MRes α) (f : α → Sto → MFlow) : MFlow := match r with
  | .ok a s => f a s
  | .exc x s => .ex x s
  | .bad => .bad
section
variable {K : PySem.W.Frag} {mg : Str → Option Value} {tb : Tbs} {Mx : Addr → Prop} {W W1 W0 : List Addr} {σ : L2.St} {H H1 H0 : Hp} {env : MEnv} {st st1 : Sto} {Wx : WX} {md md1 : Md} {fz : Bool} {O0 : Addr → Prop}
theorem EPost.from {r : MRes PV} {Q : VK} (a : Stp K tb Mx env σ W H W1 H1 st1) (h : EPost K mg tb Mx W σ H env Wx md r Q) : EPost K mg tb Mx W1 σ H1 env Wx md r Q := by
  cases r with
  | bad => exact h
  | exc x s => exact fun W' H' cls d b => h W' H' cls d (a.trans b)
  | ok v s =>
    intro W' H' w b rm
    refine h W' H' w (a.trans b) ?_
    cases md with
    | R => exact rm
    | F => exact rm
    | N =>
      obtain ⟨xs, p, ws, e1, e2, e3, e4, e5⟩ := rm
      refine ⟨xs, p, ws, e1, e2, ?_, e4, e5⟩
      cases q : H p with
      | none => rfl
      | some u => exact absurd e3 (a.nt p (by rw [q]; simp))
theorem TPost.from {r : MRes Bool} {Q : Bool → Hp → Prop} (a : Stp K tb Mx env σ W H W1 H1 st1) (h : TPost K mg tb Mx W σ H env Wx r Q) : TPost K mg tb Mx W1 σ H1 env Wx r Q := by
  cases r with
  | bad => exact h
  | exc x s => exact fun W' H' cls d b => h W' H' cls d (a.trans b)
  | ok v s => exact fun W' H' b => h W' H' (a.trans b)
theorem APost.from {r : MRes (List PV)} {Q : List V → Hp → Prop} (a : Stp K tb Mx env σ W H W1 H1 st1) (h : APost K mg tb Mx W σ H env Wx fz r Q) : APost K mg tb Mx W1 σ H1 env Wx fz r Q := by
  cases r with
  | bad => exact h
  | exc x s => exact fun W' H' cls d b => h W' H' cls d (a.trans b)
  | ok v s => exact fun W' H' w b => h W' H' w (a.trans b)
theorem ebindE {ma : EM} {f : PV → Sto → MRes PV} {Q : VK} {Q1 : VK} (rel : Rel K tb Mx W σ H env st) (post : EPost K mg tb Mx W σ H env Wx md (bindR (ma env st) f) Q)
    (k : ∀ v s W1 H1 w, Stp K tb Mx env σ W H W1 H1 s → RM K tb Mx σ H env md1 W1 H1 s v w → EPost K mg tb Mx W1 σ H1 env Wx md (f v s) Q → Q1 w H1) : tM K mg tb Wx md1 ma σ H Q1 := by
  refine ⟨Mx, W, env, st, rel, ?_⟩
  cases e : ma env st with
  | bad => rw [e] at post; exact post
  | exc x s => rw [e] at post; exact post
  | ok v s =>
    rw [e] at post
    exact fun W1 H1 w a rm => k v s W1 H1 w a rm (EPost.from a post)
theorem ebindT {ma : EM} {f : PV → Sto → MRes Bool} {Q : Bool → Hp → Prop} {Q1 : VK} (rel : Rel K tb Mx W σ H env st) (post : TPost K mg tb Mx W σ H env Wx (bindR (ma env st) f) Q)
    (k : ∀ v s W1 H1 w, Stp K tb Mx env σ W H W1 H1 s → RM K tb Mx σ H env md1 W1 H1 s v w → TPost K mg tb Mx W1 σ H1 env Wx (f v s) Q → Q1 w H1) : tM K mg tb Wx md1 ma σ H Q1 := by
  refine ⟨Mx, W, env, st, rel, ?_⟩
  cases e : ma env st with
  | bad => rw [e] at post; exact post
  | exc x s => rw [e] at post; exact post
  | ok v s =>
    rw [e] at post
    exact fun W1 H1 w a rm => k v s W1 H1 w a rm (TPost.from a post)
theorem ebindA {ma : EM} {f : PV → Sto → MRes (List PV)} {Q : List V → Hp → Prop} {Q1 : VK} (rel : Rel K tb Mx W σ H env st) (post : APost K mg tb Mx W σ H env Wx fz (bindR (ma env st) f) Q)
    (k : ∀ v s W1 H1 w, Stp K tb Mx env σ W H W1 H1 s → RM K tb Mx σ H env md1 W1 H1 s v w → APost K mg tb Mx W1 σ H1 env Wx fz (f v s) Q → Q1 w H1) : tM K mg tb Wx md1 ma σ H Q1 := by
  refine ⟨Mx, W, env, st, rel, ?_⟩
  cases e : ma env st with
  | bad => rw [e] at post; exact post
  | exc x s => rw [e] at post; exact post
  | ok v s =>
    rw [e] at post
    exact fun W1 H1 w a rm => k v s W1 H1 w a rm (APost.from a post)
theorem tbindE {ma : TM} {f : Bool → Sto → MRes PV} {Q : VK} {Q1 : Bool → Hp → Prop} (rel : Rel K tb Mx W σ H env st) (post : EPost K mg tb Mx W σ H env Wx md (bindR (ma env st) f) Q)
    (k : ∀ v s W1 H1, Stp K tb Mx env σ W H W1 H1 s → EPost K mg tb Mx W1 σ H1 env Wx md (f v s) Q → Q1 v H1) : tMT K mg tb Wx ma σ H Q1 := by
  refine ⟨Mx, W, env, st, rel, ?_⟩
  cases e : ma env st with
  | bad => rw [e] at post; exact post
  | exc x s => rw [e] at post; exact post
  | ok v s =>
    rw [e] at post
    exact fun W1 H1 a => k v s W1 H1 a (EPost.from a post)
theorem tbindT {ma : TM} {f : Bool → Sto → MRes Bool} {Q : Bool → Hp → Prop} {Q1 : Bool → Hp → Prop} (rel : Rel K tb Mx W σ H env st) (post : TPost K mg tb Mx W σ H env Wx (bindR (ma env st) f) Q)
    (k : ∀ v s W1 H1, Stp K tb Mx env σ W H W1 H1 s → TPost K mg tb Mx W1 σ H1 env Wx (f v s) Q → Q1 v H1) : tMT K mg tb Wx ma σ H Q1 := by
  refine ⟨Mx, W, env, st, rel, ?_⟩
  cases e : ma env st with
  | bad => rw [e] at post; exact post
  | exc x s => rw [e] at post; exact post
  | ok v s =>
    rw [e] at post
    exact fun W1 H1 a => k v s W1 H1 a (TPost.from a post)
theorem abindE {ma : AM} {f : List PV → Sto → MRes PV} {Q : VK} {Q1 : List V → Hp → Prop} (rel : Rel K tb Mx W σ H env st) (post : EPost K mg tb Mx W σ H env Wx md (bindR (ma env st) f) Q)
    (k : ∀ vs s W1 H1 ws, Stp K tb Mx env σ W H W1 H1 s → RMs K W1 H1 fz (Mt Mx W1 env σ) vs ws → EPost K mg tb Mx W1 σ H1 env Wx md (f vs s) Q → Q1 ws H1) : tMA K mg tb Wx fz ma σ H Q1 := by
  refine ⟨Mx, W, env, st, rel, ?_⟩
  cases e : ma env st with
  | bad => rw [e] at post; exact post
  | exc x s => rw [e] at post; exact post
  | ok v s =>
    rw [e] at post
    exact fun W1 H1 w a rm => k v s W1 H1 w a rm (EPost.from a post)
theorem abindA {ma : AM} {f : List PV → Sto → MRes (List PV)} {Q : List V → Hp → Prop} {Q1 : List V → Hp → Prop} (rel : Rel K tb Mx W σ H env st) (post : APost K mg tb Mx W σ H env Wx fz (bindR (ma env st) f) Q)
    (k : ∀ vs s W1 H1 ws, Stp K tb Mx env σ W H W1 H1 s → RMs K W1 H1 fz (Mt Mx W1 env σ) vs ws → APost K mg tb Mx W1 σ H1 env Wx fz (f vs s) Q → Q1 ws H1) : tMA K mg tb Wx fz ma σ H Q1 := by
  refine ⟨Mx, W, env, st, rel, ?_⟩
  cases e : ma env st with
  | bad => rw [e] at post; exact post
  | exc x s => rw [e] at post; exact post
  | ok v s =>
    rw [e] at post
    exact fun W1 H1 w a rm => k v s W1 H1 w a rm (APost.from a post)
theorem Rel.bare (r : Rel K tb Mx W σ H env st) : Rel K tb Mx W [] H [] st := r.toCall.less fun _ h => .inl h
theorem Mt.bare {b : Addr} (h : Mt Mx W [] [] b) : Mt Mx W env σ b := by
  rcases h with h | h | ⟨i, o, z, _⟩
  · exact .inl h
  · exact .inr (.inl h)
  · simp at z
theorem ebindS {ma : EM} {f : PV → Sto → MFlow} {D : Ends} {Q1 : VK} (rel : Rel K tb Mx W σ H env st) (kb : KB W0 H0 O0 W H (Om env σ)) (post : SPost K mg tb Mx W0 H0 O0 Wx (bindF (ma env st) f) D)
    (k : ∀ v s W1 H1 w, Stp K tb Mx env σ W H W1 H1 s → KB W0 H0 O0 W1 H1 (Om env σ) → RM K tb Mx σ H env md1 W1 H1 s v w → SPost K mg tb Mx W0 H0 O0 Wx (f v s) D → Q1 w H1) : tM K mg tb Wx md1 ma σ H Q1 := by
  refine ⟨Mx, W, env, st, rel, ?_⟩
  cases e : ma env st with
  | bad => rw [e] at post; exact post
  | exc x s => rw [e] at post; exact fun W1 H1 cls d a rx => post σ W1 H1 cls d a.rel.bare (kb.trans a.kb).none rx
  | ok v s =>
    rw [e] at post
    exact fun W1 H1 w a rm => k v s W1 H1 w a (kb.trans a.kb) rm post
theorem tbindS {ma : TM} {f : Bool → Sto → MFlow} {D : Ends} {Q1 : Bool → Hp → Prop} (rel : Rel K tb Mx W σ H env st) (kb : KB W0 H0 O0 W H (Om env σ)) (post : SPost K mg tb Mx W0 H0 O0 Wx (bindF (ma env st) f) D)
    (k : ∀ v s W1 H1, Stp K tb Mx env σ W H W1 H1 s → KB W0 H0 O0 W1 H1 (Om env σ) → SPost K mg tb Mx W0 H0 O0 Wx (f v s) D → Q1 v H1) : tMT K mg tb Wx ma σ H Q1 := by
  refine ⟨Mx, W, env, st, rel, ?_⟩
  cases e : ma env st with
  | bad => rw [e] at post; exact post
  | exc x s => rw [e] at post; exact fun W1 H1 cls d a rx => post σ W1 H1 cls d a.rel.bare (kb.trans a.kb).none rx
  | ok v s =>
    rw [e] at post
    exact fun W1 H1 a => k v s W1 H1 a (kb.trans a.kb) post
theorem RM.toF {W1 : List Addr} {H1 : Hp} {s : Sto} {v : PV} {w : V} (h : RM K tb Mx σ H env .N W1 H1 s v w) : RM K tb Mx σ H env .F W1 H1 s v w := by
  obtain ⟨xs, p, ws, rfl, rfl, e3, nm, e4, r, rs⟩ := h
  show RF _ _ _ _ (.lst xs) (.ref p)
  unfold RF
  refine ⟨p, ws, rfl, .inl ⟨.inl e4, fun z => ?_⟩, RFs.grow (Grow.less fun b z => ?_) _ rs⟩
  · rcases z with z | z | z
    · exact (r.wo p z).1 (.inr rfl)
    · exact nm z
    · exact r.om p z (.inr rfl)
  · rcases z with z | z | z
    · exact .inl z
    · exact .inr (.inl (.inl z))
    · exact .inr (.inr z)
theorem RM.toR {W1 : List Addr} {H1 : Hp} {s : Sto} {v : PV} {w : V} (h : RM K tb Mx σ H env .F W1 H1 s v w) : RM K tb Mx σ H env .R W1 H1 s v w := Or.inl h
end
theorem e_toF {X : Cx} {tb : Tbs} {Wx : WX} {e : Expr} {m : EM} (h : EOk X tb Wx .N e m) : EOk X tb Wx .F e m := PE_mono h fun σ H Q ⟨Mx, W, env, st, rel, post⟩ => ⟨Mx, W, env, st, rel, by
  cases q : m env st with
  | bad => rw [q] at post; exact post
  | exc x s => rw [q] at post; exact post
  | ok v s => rw [q] at post; exact fun W' H' w a rm => post W' H' w a rm.toF⟩
theorem e_toR {X : Cx} {tb : Tbs} {Wx : WX} {e : Expr} {m : EM} (h : EOk X tb Wx .F e m) : EOk X tb Wx .R e m := PE_mono h fun σ H Q ⟨Mx, W, env, st, rel, post⟩ => ⟨Mx, W, env, st, rel, by
  cases q : m env st with
  | bad => rw [q] at post; exact post
  | exc x s => rw [q] at post; exact post
  | ok v s => rw [q] at post; exact fun W' H' w a rm => post W' H' w a rm.toR⟩
end Mp
end
section
set_option maxRecDepth 100000
set_option maxHeartbeats 1000000
namespace Mp
open PySem PySem.Spec PyProof.Rows L2
mutual
def pd : Nat → PV → Bool
  | _, .non => true
  | _, .bl _ => true
  | _, .int _ => true
  | _, .str s => PyData.canLay0 (.str s)
  | 0, .tup _ => false
  | 0, .lst _ => false
  | n + 1, .tup xs => pds n xs
  | n + 1, .lst xs => pds n xs
  | _, .ref _ => false
  | _, .fn _ => false
  | _, .dct _ _ => false
  | _, .nti _ => false
def pds : Nat → List PV → Bool
  | _, [] => true
  | n, x :: xs => pd n x && pds n xs
end
mutual
def pvEq : PV → PV → Bool
  | .non, .non => true
  | .bl a, .bl b => a == b
  | .bl a, .int j => (if a then 1 else 0) == j
  | .int i, .bl b => i == (if b then 1 else 0)
  | .int i, .int j => i == j
  | .str x, .str y => x == y
  | .lst xs, .lst ys => pvEqs xs ys
  | .tup xs, .tup ys => pvEqs xs ys
  | _, _ => false
def pvEqs : List PV → List PV → Bool
  | [], [] => true
  | x :: xs, y :: ys => pvEq x y && pvEqs xs ys
  | _, _ => false
end
mutual
def toD : PV → PyData
  | .non => .none
  | .bl b => .bool b
  | .int i => .int i
  | .str s => .str s
  | .tup xs => .tuple (toDs xs)
  | .lst xs => .list (toDs xs)
  | .ref _ => .none
  | .fn _ => .none
  | .dct _ _ => .none
  | .nti _ => .none
def toDs : List PV → List PyData
  | [] => []
  | x :: xs => toD x :: toDs xs
end
mutual
theorem pvEq_toD : ∀ (n m : Nat) (a b : PV), pd n a = true → pd m b = true → PyData.eqv (toD a) (toD b) = pvEq a b
  | n, m, .ref _, b, h, _ => by unfold pd at h; cases h
  | n, m, a, .ref _, _, h => by unfold pd at h; cases h
  | n, m, .fn _, b, h, _ => by unfold pd at h; cases h
  | n, m, .dct _ _, b, h, _ => by unfold pd at h; cases h
  | n, m, .nti _, b, h, _ => by unfold pd at h; cases h
  | n, m, a, .fn _, _, h => by unfold pd at h; cases h
  | n, m, a, .dct _ _, _, h => by unfold pd at h; cases h
  | n, m, a, .nti _, _, h => by unfold pd at h; cases h
  | n, m, .non, b, _, hb => by cases b <;> first | rfl | (simp [toD, pvEq, PyData.eqv]; done) | (unfold pd at hb; cases hb)
  | n, m, .bl x, b, _, _ => by cases b <;> first | rfl | (simp [toD, pvEq, PyData.eqv])
  | n, m, .int x, b, _, _ => by cases b <;> first | rfl | (simp [toD, pvEq, PyData.eqv])
  | n, m, .str x, b, _, _ => by cases b <;> first | rfl | (simp [toD, pvEq, PyData.eqv])
  | 0, _, .tup xs, b, h, _ => by unfold pd at h; cases h
  | n + 1, m, .tup xs, .tup ys, h, h' => by
    cases m with
    | zero => unfold pd at h'; cases h'
    | succ m =>
      unfold pd at h h'
      simp only [toD, pvEq, PyData.eqv]
      exact pvEqs_toDs n m xs ys h h'
  | n + 1, m, .tup xs, .non, _, _ => by simp [toD, pvEq, PyData.eqv]
  | n + 1, m, .tup xs, .bl _, _, _ => by simp [toD, pvEq, PyData.eqv]
  | n + 1, m, .tup xs, .int _, _, _ => by simp [toD, pvEq, PyData.eqv]
  | n + 1, m, .tup xs, .str _, _, _ => by simp [toD, pvEq, PyData.eqv]
  | n + 1, m, .tup xs, .lst _, _, _ => by simp [toD, pvEq, PyData.eqv]
  | 0, _, .lst xs, b, h, _ => by unfold pd at h; cases h
  | n + 1, m, .lst xs, .lst ys, h, h' => by
    cases m with
    | zero => unfold pd at h'; cases h'
    | succ m =>
      unfold pd at h h'
      simp only [toD, pvEq, PyData.eqv]
      exact pvEqs_toDs n m xs ys h h'
  | n + 1, m, .lst xs, .non, _, _ => by simp [toD, pvEq, PyData.eqv]
  | n + 1, m, .lst xs, .bl _, _, _ => by simp [toD, pvEq, PyData.eqv]
  | n + 1, m, .lst xs, .int _, _, _ => by simp [toD, pvEq, PyData.eqv]
  | n + 1, m, .lst xs, .str _, _, _ => by simp [toD, pvEq, PyData.eqv]
  | n + 1, m, .lst xs, .tup _, _, _ => by simp [toD, pvEq, PyData.eqv]
theorem pvEqs_toDs : ∀ (n m : Nat) (a b : List PV), pds n a = true → pds m b = true → PyData.eqvAll (toDs a) (toDs b) = pvEqs a b
  | n, m, [], [], _, _ => by simp [toDs, pvEqs, PyData.eqvAll]
  | n, m, [], y :: ys, _, _ => by simp [toDs, pvEqs, PyData.eqvAll]
  | n, m, x :: xs, [], _, _ => by simp [toDs, pvEqs, PyData.eqvAll]
  | n, m, x :: xs, y :: ys, h, h' => by
    unfold pds at h h'
    rw [Bool.and_eq_true] at h h'
    simp only [toDs, pvEqs, PyData.eqvAll]
    rw [pvEq_toD n m x y h.1 h'.1, pvEqs_toDs n m xs ys h.2 h'.2]
end
mutual
theorem pd_lay : ∀ (n : Nat) (a : PV), pd n a = true → PyData.canLay0 (toD a) = true ∧ (toD a).depth ≤ n + 1
  | n, .non, _ => ⟨rfl, by simp [toD, PyData.depth]⟩
  | n, .bl _, _ => ⟨rfl, by simp [toD, PyData.depth]⟩
  | n, .int _, _ => ⟨rfl, by simp [toD, PyData.depth]⟩
  | n, .str s, h => by
    have h' : PyData.canLay0 (.str s) = true := by
      cases n <;> (unfold pd at h; exact h)
    exact ⟨h', by simp [toD, PyData.depth]⟩
  | 0, .tup _, h => by unfold pd at h; cases h
  | 0, .lst _, h => by unfold pd at h; cases h
  | n + 1, .tup xs, h => by
    unfold pd at h
    obtain ⟨h1, h2⟩ := pds_lay n xs h
    refine ⟨by simp only [toD]; unfold PyData.canLay0; exact h1, ?_⟩
    simp only [toD, PyData.depth]; omega
  | n + 1, .lst xs, h => by
    unfold pd at h
    obtain ⟨h1, h2⟩ := pds_lay n xs h
    refine ⟨by simp only [toD]; unfold PyData.canLay0; exact h1, ?_⟩
    simp only [toD, PyData.depth]; omega
  | n, .ref _, h => by unfold pd at h; cases h
  | n, .fn _, h => by unfold pd at h; cases h
  | n, .dct _ _, h => by unfold pd at h; cases h
  | n, .nti _, h => by unfold pd at h; cases h
theorem pds_lay : ∀ (n : Nat) (a : List PV), pds n a = true → PyData.canLayAll0 (toDs a) = true ∧ PyData.depthAll (toDs a) ≤ n + 1
  | n, [], _ => ⟨rfl, by simp [toDs, PyData.depthAll]⟩
  | n, x :: xs, h => by
    unfold pds at h
    rw [Bool.and_eq_true] at h
    obtain ⟨h1, h2⟩ := pd_lay n x h.1
    obtain ⟨h3, h4⟩ := pds_lay n xs h.2
    refine ⟨by simp only [toDs]; unfold PyData.canLayAll0; rw [h1, h3]; rfl, ?_⟩
    simp only [toDs, PyData.depthAll]; omega
end
end Mp
end
section
set_option maxRecDepth 100000
set_option maxHeartbeats 1000000
namespace Mp
open PySem PySem.Spec PyProof.Rows L2
section
variable {K : PySem.W.Frag} {mg : Str → Option Value} {tb : Tbs} {Mx M : Addr → Prop} {W W' W1 W0 : List Addr} {σ : L2.St} {H H' H1 H0 : Hp} {env : MEnv} {st st' st1 : Sto} {Wx : WX} {md md1 : Md} {fz : Bool}
theorem RV.stp {v : PV} {w : V} (a : Stp K tb Mx env σ W H W' H' st') (h : RV K (Mt Mx W env σ) W H v w) : RV K (Mt Mx W' env σ) W' H' v w := by
  rcases h with h | ⟨xs, p, ws, e1, e2, e3, e4, e5⟩
  · exact .inl (RF.grow a.grow _ h)
  · refine .inr ⟨xs, p, ws, e1, e2, a.kp p _ e3 e4 (fun ps z => nomatch z), fun z => ?_, RFs.grow a.grow _ e5⟩
    rcases a.fr p z with y | y
    · exact e4 y
    · rw [e3] at y; cases y
theorem RV.lst {xs : List PV} {w : V} (h : RV K M W H (.lst xs) w) : ∃ p ws, w = .ref p ∧ SqL K H p ws ∧ RFs K M W H xs ws := by
  rcases h with h | ⟨ys, p, ws, e1, e2, e3, e4, e5⟩
  · unfold RF at h
    obtain ⟨p, ws, e, h1, h2⟩ := h
    exact ⟨p, ws, e, h1.sq, h2⟩
  · cases e1
    exact ⟨p, ws, e2, .of e3, e5⟩
def LsL (K : PySem.W.Frag) (H : Hp) (p : Addr) (ws : List V) : Prop := Rd H p (.lst ws) ∨ ∃ (its : Array Value) (n : Nat), K.lookup p = some { cls := .type "list", data := .seq its n } ∧ its.size ≤ sizeLine ∧ Vals ws its.toList
theorem RV.lstL {xs : List PV} {w : V} (h : RV K M W H (.lst xs) w) : ∃ p ws, w = .ref p ∧ LsL K H p ws ∧ RFs K M W H xs ws := by
  rcases h with h | ⟨ys, p, ws, e1, e2, e3, e4, e5⟩
  · unfold RF at h
    obtain ⟨p, ws, e, h1, h2⟩ := h
    exact ⟨p, ws, e, h1.elim (fun h => .inl h.1) .inr, h2⟩
  · cases e1
    exact ⟨p, ws, e2, .inl (.inl e3), e5⟩
theorem LsL.isL {X : Cx} {pins : List (Addr × Obj)} {s : Shared} {p : Addr} {ws : List V} (I : Inv X pins σ H s) (h : LsL X.K H p ws) : ∃ (its : List Value) (n : Nat), Vals ws its ∧ s.heap.get? p = some { cls := .type "list", data := .seq its.toArray n } ∧ ws.length ≤ sizeLine := by
  rcases h with h | ⟨its, n, h1, h2, h3⟩
  · obtain ⟨z, its, n, r, e⟩ := h.ok I.hok
    exact ⟨its, n, r, e, z⟩
  · refine ⟨its.toList, n, h3, by simpa using I.kIn p _ h1, ?_⟩
    have e := h3.length
    simp only [Array.length_toList] at e
    omega
theorem RV.tup {xs : List PV} {w : V} (h : RV K M W H (.tup xs) w) : ∃ p ws, w = .ref p ∧ SqT K H p ws ∧ RFs K M W H xs ws := by
  rcases h with h | ⟨ys, p, ws, e1, e2, e3, e4, e5⟩
  · unfold RF at h
    obtain ⟨p, ws, e, h1, h2⟩ := h
    exact ⟨p, ws, e, h1.sq, h2⟩
  · cases e1
theorem RV.int {i : Int} {w : V} (h : RV K M W H (.int i) w) : w = .int i := by
  rcases h with h | ⟨ys, p, ws, e1, e2, e3, e4, e5⟩
  · unfold RF at h; exact h
  · cases e1
theorem RV.bl {i : Bool} {w : V} (h : RV K M W H (.bl i) w) : w = .bl i := by
  rcases h with h | ⟨ys, p, ws, e1, e2, e3, e4, e5⟩
  · unfold RF at h; exact h
  · cases e1
theorem RV.str {i : Str} {w : V} (h : RV K M W H (.str i) w) : w = .str i := by
  rcases h with h | ⟨ys, p, ws, e1, e2, e3, e4, e5⟩
  · unfold RF at h; exact h
  · cases e1
theorem RV.non {w : V} (h : RV K M W H .non w) : w = .non := by
  rcases h with h | ⟨ys, p, ws, e1, e2, e3, e4, e5⟩
  · unfold RF at h; exact h
  · cases e1
theorem RV.ref {n : Nat} {w : V} (h : RV K M W H (.ref n) w) : ∃ p, w = .ref p ∧ W[n]? = some p := by
  rcases h with h | ⟨ys, p, ws, e1, e2, e3, e4, e5⟩
  · unfold RF at h; exact h
  · cases e1
theorem RV.fn {x : Str} {w : V} (h : RV K M W H (.fn x) w) : ∃ f, w = .ref f ∧ PySem.W.nsIn K mainGlobals x = some (some (.ref f)) := by
  rcases h with h | ⟨ys, p, ws, e1, e2, e3, e4, e5⟩
  · unfold RF at h; exact h
  · cases e1
theorem RV.dct {ks : List (List Int)} {vs : List PV} {w : V} (h : RV K M W H (.dct ks vs) w) : ∃ p as ws o, w = .ref p ∧ H p = some (dctP p ks as ws o) ∧ ¬ M p ∧ KsOk K M H ks as ∧ RFs K M W H vs ws := by
  rcases h with h | ⟨xs, p, ws, e, _⟩
  · unfold RF at h; exact h
  · cases e
theorem RV.nti {ns : List Int} {w : V} (h : RV K M W H (.nti ns) w) : ∃ p o, w = .ref p ∧ H p = some (.frz o (.tup (ns.map V.int))) ∧ o.dict = none ∧ ¬ M p := by
  rcases h with h | ⟨xs, p, ws, e, _⟩
  · unfold RF at h; exact h
  · cases e
theorem rf_int {i : Int} : RF K M W H (.int i) (.int i) := by unfold RF; rfl
theorem rf_bl {i : Bool} : RF K M W H (.bl i) (.bl i) := by unfold RF; rfl
theorem rf_str {i : Str} : RF K M W H (.str i) (.str i) := by unfold RF; rfl
theorem rf_non : RF K M W H .non .non := by unfold RF; rfl
theorem rm_int {i : Int} : RM K tb Mx σ H env .F W' H' st' (.int i) (.int i) := by show RF K (Mt Mx W' env σ) W' H' _ _; exact rf_int
theorem rm_bl {i : Bool} : RM K tb Mx σ H env .F W' H' st' (.bl i) (.bl i) := by show RF K (Mt Mx W' env σ) W' H' _ _; exact rf_bl
theorem rm_str {i : Str} : RM K tb Mx σ H env .F W' H' st' (.str i) (.str i) := by show RF K (Mt Mx W' env σ) W' H' _ _; exact rf_str
theorem rf_tup {xs : List PV} {p : Addr} {ws : List V} (h : FzT K M H p ws) (r : RFs K M W H xs ws) : RF K M W H (.tup xs) (.ref p) := by unfold RF; exact ⟨p, ws, rfl, h, r⟩
theorem rf_lst {xs : List PV} {p : Addr} {ws : List V} (h : FzL K M H p ws) (r : RFs K M W H xs ws) : RF K M W H (.lst xs) (.ref p) := by unfold RF; exact ⟨p, ws, rfl, h, r⟩
mutual
theorem RF.dp : ∀ (n : Nat) (v : PV) {w : V}, pd n v = true → RF K M W H v w → Dp K H w (toD v)
  | _, .non, _, _, h => by unfold RF at h; subst h; exact .non
  | _, .bl b, _, _, h => by unfold RF at h; subst h; exact .bl b
  | _, .int i, _, _, h => by unfold RF at h; subst h; exact .int i
  | _, .str s, _, _, h => by unfold RF at h; subst h; exact .str s
  | 0, .tup xs, _, hd, h => by unfold pd at hd; cases hd
  | 0, .lst xs, _, hd, h => by unfold pd at hd; cases hd
  | n + 1, .tup xs, _, hd, h => by
    unfold RF at h
    obtain ⟨p, ws, rfl, h1, h2⟩ := h
    simp only [toD]
    unfold pd at hd
    exact .tup h1.sq (RFs.dp n xs hd h2)
  | n + 1, .lst xs, _, hd, h => by
    unfold RF at h
    obtain ⟨p, ws, rfl, h1, h2⟩ := h
    simp only [toD]
    unfold pd at hd
    exact .lst h1.sq (RFs.dp n xs hd h2)
  | _, .ref _, _, hd, _ => by unfold pd at hd; cases hd
  | _, .fn _, _, hd, _ => by unfold pd at hd; cases hd
  | _, .dct _ _, _, hd, _ => by unfold pd at hd; cases hd
  | _, .nti _, _, hd, _ => by unfold pd at hd; cases hd
theorem RFs.dp : ∀ (n : Nat) (v : List PV) {w : List V}, pds n v = true → RFs K M W H v w → DpAll K H w (toDs v)
  | _, [], _, _, h => by rw [h.nil_inv]; simp only [toDs]; exact .nil
  | n, x :: xs, _, hd, h => by
    obtain ⟨w, r, rfl, h1, h2⟩ := h.inv
    unfold pds at hd
    rw [Bool.and_eq_true] at hd
    simp only [toDs]
    exact .cons (RF.dp n x hd.1 h1) (RFs.dp n xs hd.2 h2)
end
theorem RV.dp {n : Nat} {v : PV} {w : V} (hd : pd n v = true) (h : RV K M W H v w) : Dp K H w (toD v) := by
  rcases h with h | ⟨ys, p, ws, rfl, rfl, e3, e4, e5⟩
  · exact RF.dp n v hd h
  · cases n with
    | zero => unfold pd at hd; cases hd
    | succ n =>
      unfold pd at hd
      simp only [toD]
      exact .lst (.of e3) (RFs.dp n ys hd e5)
theorem pd_shaped {n : Nat} {v : PV} (hd : pd n v = true) (hn : n + 1 ≤ 64) : SeqAt.shaped (toD v) = true := by
  obtain ⟨h1, h2⟩ := pd_lay n v hd
  unfold SeqAt.shaped
  rw [h1, decide_eq_true (by omega)]
  rfl
def Al (H H' : Hp) : Prop := H' = H ∨ ∃ p o, H p = none ∧ NoTbl o ∧ H' = upd H p o
theorem Al.stp (r : Rel K tb Mx W σ H env st) (a : Al H H') : Stp K tb Mx env σ W H W H' st := by
  rcases a with rfl | ⟨p, o, hp, no, rfl⟩
  · exact .refl r
  · exact .new r hp no
theorem rf_newT {xs : List PV} {p : Addr} {ws : List V} (hm : ∀ p, M p → H p ≠ none) (hp : H p = none) (r : RFs K M W H xs ws) : RF K M W (upd H p (.tup ws)) (.tup xs) (.ref p) := by
  have g : Grow M M W W H (upd H p (.tup ws)) := ⟨fun b o h _ _ => by rw [upd_ne (fun z => by rw [z, hp] at h; cases h)]; exact h, fun _ _ h => h, List.prefix_refl _⟩
  exact rf_tup (.inl ⟨.inl upd_same, fun z => hm p z hp⟩) (RFs.grow g _ r)
theorem rf_newL {xs : List PV} {p : Addr} {ws : List V} (hm : ∀ p, M p → H p ≠ none) (hp : H p = none) (r : RFs K M W H xs ws) : RF K M W (upd H p (.lst ws)) (.lst xs) (.ref p) := by
  have g : Grow M M W W H (upd H p (.lst ws)) := ⟨fun b o h _ _ => by rw [upd_ne (fun z => by rw [z, hp] at h; cases h)]; exact h, fun _ _ h => h, List.prefix_refl _⟩
  exact rf_lst (.inl ⟨.inl upd_same, fun z => hm p z hp⟩) (RFs.grow g _ r)
theorem rm_newL {xs : List PV} {p : Addr} {ws : List V} (r : Rel K tb Mx W σ H env st) (hp : H p = none) (rs : RFs K (Mt Mx W env σ) W H xs ws) : RM K tb Mx σ H env .N W (upd H p (.lst ws)) st (.lst xs) (.ref p) := by
  have g : Grow (Mt Mx W env σ) (Mt (fun b => Mx b ∨ b = p) W env σ) W W H (upd H p (.lst ws)) := ⟨fun b o h _ _ => by rw [upd_ne (fun z => by rw [z, hp] at h; cases h)]; exact h,
    fun b h n z => by
      rcases z with z | (z | z) | z
      · exact n (.inl z)
      · exact n (.inr (.inl z))
      · exact h (z ▸ hp)
      · exact n (.inr (.inr z)), List.prefix_refl _⟩
  exact ⟨xs, p, ws, rfl, rfl, hp, fun z => r.mx p z hp, upd_same, r.new hp (fun ps z => nomatch z), RFs.grow g _ rs⟩
end
def OpV (X : Cx) (f : Value → Value → Sem Value) (g : PV → PV → Option PV) : Prop := OpR X f fun x y H Q => ∃ (M : Addr → Prop) (W : List Addr) (a b v : PV),
  (∀ p, M p → H p ≠ none) ∧ RV X.K M W H a x ∧ RV X.K M W H b y ∧ g a b = some v ∧ ∀ H' w, Al H H' → RF X.K M W H' v w → Q w H'
def optR (o : Option PV) (s : Sto) : MRes PV := match o with
  | some v => .ok v s
  | none => .bad
def optB (o : Option Bool) (s : Sto) : MRes Bool := match o with
  | some v => .ok v s
  | none => .bad
def mBin (g : PV → PV → Option PV) (ma mb : EM) : EM := fun env st => bindR (ma env st) fun a s => bindR (mb env s) fun b s' => optR (g a b) s'
def mVar (i : Nat) : EM := fun env st => match env[i]? with | some (.pv v) => .ok v st | _ => .bad
def mOwn (i : Nat) : EM := fun env st => match env[i]? with | some (.own (.lst xs)) => .ok (.lst xs) st | _ => .bad
def mC (v : PV) : EM := fun _ st => .ok v st
def aNil : AM := fun _ st => .ok [] st
def aCons (m : EM) (ms : AM) : AM := fun env st => bindR (m env st) fun v s => bindR (ms env s) fun vs s' => .ok (v :: vs) s'
def mTup (ms : AM) : EM := fun env st => bindR (ms env st) fun vs s => if vs.length ≤ 1000 then .ok (.tup vs) s else .bad
def mLst (ms : AM) : EM := fun env st => bindR (ms env st) fun vs s => if vs.length ≤ 1000 then .ok (.lst vs) s else .bad
section
variable {X : Cx} {tb : Tbs} {Wx : WX} {a b c e : Expr} {es : List Expr} {ma mb mc m : EM} {ms : AM} {pos : Pos} {md : Md}
theorem e_var (i : Nat) {x : Str} (hN : X.N[i]? = some x := by rfl) (hv : Vis X.env.scope x := by first | exact Or.inl rfl | exact Or.inr (Or.inl rfl) | exact Or.inr (Or.inr rfl)) (hd : (x == ("__debug__" : Str)) = false := by decide)
    (hcd : (x == ("__classdict__" : Str)) = false := by decide) : EOk X tb Wx .F (.Name x pos) (mVar i) := PE_mono (pe_var hN hv hd hcd) fun σ H Q ⟨Mx, W, env, st, rel, post⟩ => by
  unfold mVar at post
  split at post
  · rename_i v q
    obtain ⟨w, e1, e2⟩ := rel.pv i v q
    exact ⟨w, e1, post W H w (.refl rel) e2⟩
  · exact post.elim
theorem e_own (i : Nat) {x : Str} (hN : X.N[i]? = some x := by rfl) (hv : Vis X.env.scope x := by first | exact Or.inl rfl | exact Or.inr (Or.inl rfl) | exact Or.inr (Or.inr rfl)) (hd : (x == ("__debug__" : Str)) = false := by decide)
    (hcd : (x == ("__classdict__" : Str)) = false := by decide) : EOk X tb Wx .R (.Name x pos) (mOwn i) := PE_mono (pe_var hN hv hd hcd) fun σ H Q ⟨Mx, W, env, st, rel, post⟩ => by
  unfold mOwn at post
  split at post
  · rename_i v q
    obtain ⟨p, e1, ws, e2, e3⟩ := rel.own i _ q
    exact ⟨.ref p, e1, post W H _ (.refl rel) (.inr ⟨_, p, ws, rfl, rfl, e2, fun z => (rel.wo p z).2 ⟨i, _, q, e1⟩, e3⟩)⟩
  · exact post.elim
theorem e_c {v : PV} {w : V} (h : PE X e (tC w)) (r : ∀ K M W H, RF K M W H v w) : EOk X tb Wx .F e (mC v) := PE_mono h fun σ H Q ⟨Mx, W, env, st, rel, post⟩ => post W H w (.refl rel) (r _ _ _ _)
theorem e_int {i : Int} {j : Nat} : EOk X tb Wx .F (.Constant (.int i) j pos) (mC (.int i)) := e_c pe_int fun _ _ _ _ => rf_int
theorem e_bl {i : Bool} {j : Nat} : EOk X tb Wx .F (.Constant (.bool i) j pos) (mC (.bl i)) := e_c pe_bl fun _ _ _ _ => rf_bl
theorem e_str {i : Str} {j : Nat} : EOk X tb Wx .F (.Constant (.str i) j pos) (mC (.str i)) := e_c pe_str fun _ _ _ _ => rf_str
theorem e_non {j : Nat} : EOk X tb Wx .F (.Constant .none j pos) (mC .non) := e_c pe_non fun _ _ _ _ => rf_non
theorem e_bin {op : Operator} {g : PV → PV → Option PV} (ho : OpV X (binaryOp op) g) (ha : EOk X tb Wx .R a ma) (hb : EOk X tb Wx .R b mb) : EOk X tb Wx .F (.BinOp a op b pos) (mBin g ma mb) :=
  PE_mono (pe_op ho ha hb) fun σ H Q ⟨Mx, W, env, st, rel, post⟩ => by
    refine ebindE rel post fun v1 s1 W1 H1 w1 a1 r1 post => ebindE a1.rel post fun v2 s2 W2 H2 w2 a2 r2 post => ?_
    cases q : g v1 v2 with
    | none => rw [q] at post; exact post.elim
    | some v =>
      rw [q] at post
      exact ⟨Mt Mx W2 env σ, W2, v1, v2, v, fun p z => a2.rel.mtS z, RV.stp a2 r1, r2, q, fun H' w al rf => post W2 H' w (al.stp a2.rel) rf⟩
theorem a_nil {fz : Bool} : AOk X tb Wx fz [] aNil := PA_mono pa_nil fun σ H Q ⟨Mx, W, env, st, rel, post⟩ => post W H [] (.refl rel) (by
  unfold RMs
  split
  · exact RFs.nil
  · exact .nil)
theorem a_consF (ha : EOk X tb Wx .F e m) (hr : AOk X tb Wx true es ms) (hs : starEach (e :: es) X.env = (false, eval e X.env) :: starEach es X.env := by rfl) : AOk X tb Wx true (e :: es) (aCons m ms) :=
  PA_mono (pa_cons ha hr hs) fun σ H Q ⟨Mx, W, env, st, rel, post⟩ => by
    refine ebindA rel post fun v1 s1 W1 H1 w1 a1 r1 post => abindA a1.rel post fun v2 s2 W2 H2 w2 a2 r2 post => ?_
    exact post W2 H2 _ (.refl a2.rel) (RFs.cons (RF.grow a2.grow _ r1) r2)
theorem a_consR (ha : EOk X tb Wx .R e m) (hr : AOk X tb Wx false es ms) (hs : starEach (e :: es) X.env = (false, eval e X.env) :: starEach es X.env := by rfl) : AOk X tb Wx false (e :: es) (aCons m ms) :=
  PA_mono (pa_cons ha hr hs) fun σ H Q ⟨Mx, W, env, st, rel, post⟩ => by
    refine ebindA rel post fun v1 s1 W1 H1 w1 a1 r1 post => abindA a1.rel post fun v2 s2 W2 H2 w2 a2 r2 post => ?_
    exact post W2 H2 _ (.refl a2.rel) (.cons (RV.stp a2 r1) r2)
theorem small1000' {n : Nat} (h : n ≤ 1000) : n ≤ sizeLine := Nat.le_of_lt (small1000 h)
theorem e_tup {x1 : Nat} (h : AOk X tb Wx true es ms) : EOk X tb Wx .F (.Tuple es x1 pos) (mTup ms) := PE_mono (pe_tup h) fun σ H Q ⟨Mx, W, env, st, rel, post⟩ => by
  refine abindE rel post fun vs s W1 H1 ws a1 r1 post => ?_
  split at post
  · rename_i hl
    have e := RFs.len r1
    exact ⟨by rw [e]; exact small1000' hl, fun p hp => post W1 _ _ (.new a1.rel hp fun ps z => nomatch z) (rf_newT (fun p z => a1.rel.mtS z) hp r1)⟩
  · exact post.elim
theorem e_lst (h : AOk X tb Wx true es ms) : EOk X tb Wx .N (.List es pos) (mLst ms) := PE_mono (pe_lst h) fun σ H Q ⟨Mx, W, env, st, rel, post⟩ => by
  refine abindE rel post fun vs s W1 H1 ws a1 r1 post => ?_
  split at post
  · rename_i hl
    have e := RFs.len r1
    exact ⟨by rw [e]; exact small1000' hl, fun p hp => post W1 _ _ (.new a1.rel hp fun ps z => nomatch z) (rm_newL a1.rel hp r1)⟩
  · exact post.elim
def seqOf (s : Sto) : PV → Option (List PV)
  | .lst xs => some xs
  | .tup xs => some xs
  | .ref n => match s[n]? with | some (.lst xs) => some xs | _ => none
  | _ => none
def ixV (s : Sto) (a b : PV) : Option PV := match b with
  | .int i => match a with
    | .str z => if z.length ≤ 1000 then (atI z.cps.toList i).map fun c => .str ⟨#[c]⟩ else none
    | _ => (seqOf s a).bind fun xs => atI xs i
  | _ => none
def mIx (ma mb : EM) : EM := fun env st => bindR (ma env st) fun a s => bindR (mb env s) fun b s' => optR (ixV s' a b) s'
theorem atI_rf {K : PySem.W.Frag} {M : Addr → Prop} {W : List Addr} {H : Hp} {xs : List PV} {ws : List V} {i : Int} {v : PV} (r : RFs K M W H xs ws) (h : atI xs i = some v) : ∃ w, atI ws i = some w ∧ RF K M W H v w := by
  unfold atI at h ⊢
  rw [r.len]
  cases q : ixN xs.length i with
  | none => rw [q] at h; cases h
  | some j => rw [q] at h; exact r.get h
theorem e_ix (ha : EOk X tb Wx .R a ma) (hb : EOk X tb Wx .R b mb) (hs : PlainIx b) : EOk X tb Wx .F (.Subscript a b pos) (mIx ma mb) := PE_mono (pe_ix ix_seq ha hb hs) fun σ H Q ⟨Mx, W, env, st, rel, post⟩ => by
  refine ebindE rel post fun v1 s1 W1 H1 w1 a1 r1 post => ebindE a1.rel post fun v2 s2 W2 H2 w2 a2 r2 post => ?_
  have r1' := RV.stp a2 r1
  cases v2 with
  | int i =>
    cases (RV.int r2)
    cases v1 with
    | lst xs =>
      obtain ⟨p, ws, rfl, h1, h2⟩ := r1'.lst
      cases q : atI xs i with
      | none => simp only [ixV, seqOf, Option.bind_some, q] at post; exact post.elim
      | some v =>
        simp only [ixV, seqOf, Option.bind_some, q] at post
        obtain ⟨w, hw, rw'⟩ := atI_rf h2 q
        exact .inl ⟨p, ws, i, w, rfl, rfl, h1, hw, post W2 H2 w (.refl a2.rel) rw'⟩
    | tup xs =>
      obtain ⟨p, ws, rfl, h1, h2⟩ := r1'.tup
      cases q : atI xs i with
      | none => simp only [ixV, seqOf, Option.bind_some, q] at post; exact post.elim
      | some v =>
        simp only [ixV, seqOf, Option.bind_some, q] at post
        obtain ⟨w, hw, rw'⟩ := atI_rf h2 q
        exact .inr (.inl ⟨p, ws, i, w, rfl, rfl, h1, hw, post W2 H2 w (.refl a2.rel) rw'⟩)
    | ref n =>
      obtain ⟨p, rfl, hp⟩ := r1'.ref
      cases q1 : s2[n]? with
      | none => simp only [ixV, seqOf, q1, Option.bind_none] at post; exact post.elim
      | some o =>
        cases o with
        | lst xs =>
          obtain ⟨ws, h1, h2⟩ := a2.rel.sto n p _ hp q1
          cases q : atI xs i with
          | none => simp only [ixV, seqOf, q1, Option.bind_some, q] at post; exact post.elim
          | some v =>
            simp only [ixV, seqOf, q1, Option.bind_some, q] at post
            obtain ⟨w, hw, rw'⟩ := atI_rf h2 q
            exact .inl ⟨p, ws, i, w, rfl, rfl, .of h1, hw, post W2 H2 w (.refl a2.rel) rw'⟩
        | dct ks vs => simp only [ixV, seqOf, q1, Option.bind_none] at post; exact post.elim
        | dci ks vs => simp only [ixV, seqOf, q1, Option.bind_none] at post; exact post.elim
        | ins c fs => simp only [ixV, seqOf, q1, Option.bind_none] at post; exact post.elim
    | str z =>
      cases (RV.str r1')
      simp only [ixV] at post
      split at post
      · rename_i hl
        cases q : atI z.cps.toList i with
        | none => simp only [q, Option.map_none] at post; exact post.elim
        | some v =>
          simp only [q, Option.map_some] at post
          exact .inr (.inr ⟨z, i, v, rfl, rfl, small1000' hl, q, post W2 H2 _ (.refl a2.rel) rm_str⟩)
      · exact post.elim
    | non => simp only [ixV, seqOf, Option.bind_none] at post; exact post.elim
    | bl _ => simp only [ixV, seqOf, Option.bind_none] at post; exact post.elim
    | int _ => simp only [ixV, seqOf, Option.bind_none] at post; exact post.elim
    | fn _ => simp only [ixV, seqOf, Option.bind_none] at post; exact post.elim
    | dct _ _ => simp only [ixV, seqOf, Option.bind_none] at post; exact post.elim
    | nti _ => simp only [ixV, seqOf, Option.bind_none] at post; exact post.elim
  | non => simp only [ixV] at post; exact post.elim
  | bl _ => simp only [ixV] at post; exact post.elim
  | str _ => simp only [ixV] at post; exact post.elim
  | tup _ => simp only [ixV] at post; exact post.elim
  | lst _ => simp only [ixV] at post; exact post.elim
  | ref _ => simp only [ixV] at post; exact post.elim
  | fn _ => simp only [ixV] at post; exact post.elim
  | dct _ _ => simp only [ixV] at post; exact post.elim
  | nti _ => simp only [ixV] at post; exact post.elim
end
end Mp
end
section
set_option maxRecDepth 100000
set_option maxHeartbeats 1000000
namespace Mp
open PySem PySem.Spec PyProof.Rows L2
mutual
def alk : PV → PV → Bool
  | .non, .non => true
  | .bl _, .bl _ => true
  | .int _, .int _ => true
  | .str _, .str _ => true
  | .lst xs, .lst ys => alks xs ys
  | .tup xs, .tup ys => alks xs ys
  | _, _ => false
def alks : List PV → List PV → Bool
  | x :: xs, y :: ys => alk x y && alks xs ys
  | [], _ => true
  | _ :: _, [] => true
end
mutual
def pvLt : PV → PV → Bool
  | .bl a, .bl b => !a && b
  | .int i, .int j => decide (i < j)
  | .str x, .str y => decide (x.cps.toList < y.cps.toList)
  | .lst xs, .lst ys => pvLts xs ys
  | .tup xs, .tup ys => pvLts xs ys
  | _, _ => false
def pvLts : List PV → List PV → Bool
  | [], [] => false
  | [], _ :: _ => true
  | _ :: _, [] => false
  | x :: xs, y :: ys => if pvEq x y then pvLts xs ys else pvLt x y
end
mutual
theorem alk_toD : ∀ (n m : Nat) (a b : PV), pd n a = true → pd m b = true → PySem.W.alike (toD a) (toD b) = alk a b
  | n, m, .ref _, b, h, _ => by unfold pd at h; cases h
  | n, m, a, .ref _, _, h => by unfold pd at h; cases h
  | n, m, .fn _, b, h, _ => by unfold pd at h; cases h
  | n, m, .dct _ _, b, h, _ => by unfold pd at h; cases h
  | n, m, .nti _, b, h, _ => by unfold pd at h; cases h
  | n, m, a, .fn _, _, h => by unfold pd at h; cases h
  | n, m, a, .dct _ _, _, h => by unfold pd at h; cases h
  | n, m, a, .nti _, _, h => by unfold pd at h; cases h
  | n, m, .non, b, _, hb => by cases b <;> first | rfl | (simp [toD, alk, PySem.W.alike]; done) | (unfold pd at hb; cases hb)
  | n, m, .bl x, b, _, hb => by cases b <;> first | rfl | (simp [toD, alk, PySem.W.alike]; done) | (unfold pd at hb; cases hb)
  | n, m, .int x, b, _, hb => by cases b <;> first | rfl | (simp [toD, alk, PySem.W.alike]; done) | (unfold pd at hb; cases hb)
  | n, m, .str x, b, _, hb => by cases b <;> first | rfl | (simp [toD, alk, PySem.W.alike]; done) | (unfold pd at hb; cases hb)
  | 0, _, .tup xs, b, h, _ => by unfold pd at h; cases h
  | n + 1, m, .tup xs, b, h, h' => by
    cases b with
    | tup ys =>
      cases m with
      | zero => unfold pd at h'; cases h'
      | succ m =>
        unfold pd at h h'
        simp only [toD, alk, PySem.W.alike]
        exact alks_toDs n m xs ys h h'
    | ref _ => unfold pd at h'; cases h'
    | fn _ => unfold pd at h'; cases h'
    | dct _ _ => unfold pd at h'; cases h'
    | nti _ => unfold pd at h'; cases h'
    | _ => simp [toD, alk, PySem.W.alike]
  | 0, _, .lst xs, b, h, _ => by unfold pd at h; cases h
  | n + 1, m, .lst xs, b, h, h' => by
    cases b with
    | lst ys =>
      cases m with
      | zero => unfold pd at h'; cases h'
      | succ m =>
        unfold pd at h h'
        simp only [toD, alk, PySem.W.alike]
        exact alks_toDs n m xs ys h h'
    | ref _ => unfold pd at h'; cases h'
    | fn _ => unfold pd at h'; cases h'
    | dct _ _ => unfold pd at h'; cases h'
    | nti _ => unfold pd at h'; cases h'
    | _ => simp [toD, alk, PySem.W.alike]
theorem alks_toDs : ∀ (n m : Nat) (a b : List PV), pds n a = true → pds m b = true → PySem.W.alikeAll (toDs a) (toDs b) = alks a b
  | n, m, [], _, _, _ => by simp [toDs, alks, PySem.W.alikeAll]
  | n, m, x :: xs, [], _, _ => by simp [toDs, alks, PySem.W.alikeAll]
  | n, m, x :: xs, y :: ys, h, h' => by
    unfold pds at h h'
    rw [Bool.and_eq_true] at h h'
    simp only [toDs, alks, PySem.W.alikeAll]
    rw [alk_toD n m x y h.1 h'.1, alks_toDs n m xs ys h.2 h'.2]
end
mutual
theorem lt_toD : ∀ (n m : Nat) (a b : PV), pd n a = true → pd m b = true → alk a b = true → PySem.W.dataLt (toD a) (toD b) = pvLt a b
  | n, m, .ref _, b, h, _, _ => by unfold pd at h; cases h
  | n, m, .fn _, b, h, _, _ => by unfold pd at h; cases h
  | n, m, .dct _ _, b, h, _, _ => by unfold pd at h; cases h
  | n, m, .nti _, b, h, _, _ => by unfold pd at h; cases h
  | n, m, .non, b, _, hb, ha => by
    cases b with
    | non => simp only [toD, pvLt]; exact lex_irrefl _
    | _ => exact absurd ha (by simp [alk])
  | n, m, .bl x, b, _, hb, ha => by
    cases b with
    | bl y => simp only [toD, pvLt]; cases x <;> cases y <;> (first | rfl | decide)
    | _ => exact absurd ha (by simp [alk])
  | n, m, .int x, b, _, hb, ha => by
    cases b with
    | int y => simp only [toD, pvLt]; exact PySem.W.dataLt_int x y
    | _ => exact absurd ha (by simp [alk])
  | n, m, .str x, b, _, hb, ha => by
    cases b with
    | str y => simp only [toD, pvLt]; exact PySem.W.dataLt_str x y
    | _ => exact absurd ha (by simp [alk])
  | 0, _, .tup xs, b, h, _, _ => by unfold pd at h; cases h
  | n + 1, m, .tup xs, b, h, h', ha => by
    cases b with
    | tup ys =>
      cases m with
      | zero => unfold pd at h'; cases h'
      | succ m =>
        unfold pd at h h'
        simp only [alk] at ha
        simp only [toD, pvLt]
        exact lts_toD n m xs ys h h' ha
    | _ => exact absurd ha (by simp [alk])
  | 0, _, .lst xs, b, h, _, _ => by unfold pd at h; cases h
  | n + 1, m, .lst xs, b, h, h', ha => by
    cases b with
    | lst ys =>
      cases m with
      | zero => unfold pd at h'; cases h'
      | succ m =>
        unfold pd at h h'
        simp only [alk] at ha
        simp only [toD, pvLt]
        exact lts_toD n m xs ys h h' ha
    | _ => exact absurd ha (by simp [alk])
theorem lts_toD : ∀ (n m : Nat) (a b : List PV), pds n a = true → pds m b = true → alks a b = true → PyProof.Rows.lexLt itemOrd (PySem.W.keyToksAll (toDs a)) (PySem.W.keyToksAll (toDs b)) = pvLts a b
  | n, m, [], [], _, _, _ => by simp only [toDs, pvLts]; exact lex_irrefl _
  | n, m, [], y :: ys, _, _, _ => by
    simp only [toDs, pvLts, PySem.W.keyToksAll]
    exact (lex_diff (O := itemOrd) (by decide)).trans (by first | rfl | decide)
  | n, m, x :: xs, [], _, _, _ => by
    simp only [toDs, pvLts, PySem.W.keyToksAll]
    exact (lex_diff (O := itemOrd) (by decide)).trans (by first | rfl | decide)
  | n, m, x :: xs, y :: ys, h, h', ha => by
    unfold pds at h h'
    rw [Bool.and_eq_true] at h h'
    simp only [alks, Bool.and_eq_true] at ha
    simp only [toDs, pvLts]
    rw [PySem.W.dataLt_cons (by rw [alk_toD n m x y h.1 h'.1]; exact ha.1), pvEq_toD n m x y h.1 h'.1, lts_toD n m xs ys h.2 h'.2 ha.2, lt_toD n m x y h.1 h'.1 ha.1]
end
end Mp
end
section
set_option maxRecDepth 100000
set_option maxHeartbeats 1000000
namespace Mp
open PySem PySem.Spec PyProof.Rows L2
def keyIs : List PV → Option (List Int)
  | [] => some []
  | .int i :: r => (keyIs r).map (i :: ·)
  | _ => none
def keyI : PV → Option (List Int)
  | .tup xs => keyIs xs
  | _ => none
section
variable {X : Cx} {pins : List (Addr × Obj)} {s : Shared} {K : PySem.W.Frag} {M : Addr → Prop} {W : List Addr} {σ : L2.St} {H : Hp} {w : V}
theorem keyIs_rf : ∀ {xs : List PV} {k : List Int} {ws : List V}, keyIs xs = some k → RFs K M W H xs ws → ws = k.map V.int
  | [], _, _, e, r => by cases e; exact r.nil_inv
  | .int i :: xs, _, _, e, r => by
    obtain ⟨w, t, rfl, h1, h2⟩ := r.inv
    unfold keyIs at e
    cases q : keyIs xs with
    | none => rw [q] at e; cases e
    | some k' =>
      rw [q] at e; cases e
      rw [keyIs_rf q h2, RV.int (.inl h1)]; rfl
  | .non :: _, _, _, e, _ | .bl _ :: _, _, _, e, _ | .str _ :: _, _, _, e, _ | .tup _ :: _, _, _, e, _ | .lst _ :: _, _, _, e, _ | .ref _ :: _, _, _, e, _ | .fn _ :: _, _, _, e, _ | .dct _ _ :: _, _, _, e, _ | .nti _ :: _, _, _, e, _ => by unfold keyIs at e; cases e
theorem keyI_fz {v : PV} {k : List Int} (e : keyI v = some k) (r : RV K M W H v w) : ∃ b, w = .ref b ∧ FzT K M H b (k.map V.int) := by
  unfold keyI at e
  split at e
  · rename_i xs
    rcases r with h | ⟨_, _, _, z, _⟩
    · unfold RF at h
      obtain ⟨p, ws, e1, h1, h2⟩ := h
      rw [keyIs_rf e h2] at h1
      exact ⟨p, e1, h1⟩
    · cases z
  · cases e
theorem vals_ints {P : Program} {w : World} : ∀ {ks : List Int} {us : List Value}, Vals (ks.map V.int) us → ItemsAre (PySem.intKind P w) ks us
  | [], _, r => by rw [List.map_nil] at r; cases r; exact .nil
  | k :: ks, _, r => by
    rw [List.map_cons] at r
    cases r with
    | cons h t =>
      obtain ⟨t', rfl⟩ := h
      exact .cons (by simp [PySem.intKind, Value.isInt]) (vals_ints t)
theorem fzT_key (I : Inv X pins σ H s) {b : Addr} {k : List Int} (h : FzT X.K M H b (k.map V.int)) : (tupleKind (PySem.intKind X.prog X.w)).is s.heap k b := by
  obtain ⟨its, r, ⟨o, h1, h2, n, h3⟩, _⟩ := I.tuple h.sq
  exact ⟨o, its.toArray, n, h1, h2, h3, by simpa using vals_ints r⟩
theorem ks_is (I : Inv X pins σ H s) : ∀ {xs : List (List Int × Addr × Value)}, KsOk X.K M H (xs.map (·.1)) (xs.map (·.2.1)) → ∀ x ∈ xs, (tupleKind (PySem.intKind X.prog X.w)).is s.heap x.1 x.2.1
  | [], _, x, hx => nomatch hx
  | y :: ys, h, x, hx => by
    obtain ⟨a, r, e, h1, h2⟩ := h
    rw [List.map_cons] at e; cases e
    rcases List.mem_cons.mp hx with rfl | hx
    · exact fzT_key I h1
    · exact ks_is I h2 x hx
theorem dct_of (I : Inv X pins σ H s) {p : Addr} {ks : List (List Int)} {as : List Addr} {ws : List V} (e : H p = some (dctO p ks as ws)) (ko : KsOk X.K M H ks as) :
    (p == sysModules) = false ∧ ks.length ≤ sizeLine ∧ ∃ xs, xs.map (·.1) = ks ∧ xs.map (·.2.1) = as ∧ Vals ws (xs.map (·.2.2)) ∧ s.heap.DictOfH (tupleKind (PySem.intKind X.prog X.w)) p xs := by
  obtain ⟨⟨a, b, c, xs, e1, e2, e3, o, es, ep, e4, e5, e6, e7⟩, _⟩ := I.hok p _ e
  refine ⟨a, b, xs, e1, e2, e3, o, es, ep, e4, e5, e6, e7, ks_is I (M := M) (by rw [e1, e2]; exact ko), by rw [e1]; exact c⟩
theorem dct_ofP (I : Inv X pins σ H s) {p : Addr} {ks : List (List Int)} {as : List Addr} {ws : List V} {ob : Obj} (e : H p = some (dctP p ks as ws ob)) (ko : KsOk X.K M H ks as) :
    (p == sysModules) = false ∧ ks.length ≤ sizeLine ∧ ∃ xs, xs.map (·.1) = ks ∧ xs.map (·.2.1) = as ∧ Vals ws (xs.map (·.2.2)) ∧ s.heap.DictOfH (tupleKind (PySem.intKind X.prog X.w)) p xs ∧ s.heap.get? p = some ob := by
  obtain ⟨⟨⟨a, b, c, xs, e1, e2, e3, o, es, ep, e4, e5, e6, e7⟩, e8⟩, _⟩ := I.hok p _ e
  refine ⟨a, b, xs, e1, e2, e3, ⟨o, es, ep, e4, e5, e6, e7, ks_is I (M := M) (by rw [e1, e2]; exact ko), by rw [e1]; exact c⟩, e8⟩
theorem atKey_some {xs : List (List Int × Addr × Value)} {k : List Int} : (atKey xs k).isSome = decide (k ∈ xs.map (·.1)) := by
  unfold atKey
  rw [Option.isSome_map, Bool.eq_iff_iff, List.find?_isSome, decide_eq_true_eq, List.mem_map]
  constructor
  · rintro ⟨x, hx, e⟩; exact ⟨x, hx, of_decide_eq_true e⟩
  · rintro ⟨x, hx, e⟩; exact ⟨x, hx, decide_eq_true e⟩
end
end Mp
end
section
set_option maxRecDepth 100000
set_option maxHeartbeats 1000000
namespace Mp
open PySem PySem.Spec PyProof.Rows L2
theorem noTbl_tup {xs : List V} : NoTbl (.tup xs) := fun ps z => nomatch z
theorem noTbl_lst {xs : List V} : NoTbl (.lst xs) := fun ps z => nomatch z
def bi (b : Bool) : Int := if b then 1 else 0
def small (i : Int) : Bool := decide (-(18446744073709551616) < i) && decide (i < 18446744073709551616)
def mulOk (i j : Int) : Bool := small i || small j || decide (i.natAbs.log2 + j.natAbs.log2 < 1000000)
def divOk (j : Int) : Bool := decide (j ≠ 0) && (decide (j.natAbs < 1073741824) || (decide (0 < j) && decide (j.natAbs.log2 < 9000)))
def pAdd : PV → PV → Option PV
  | .int i, .int j => some (.int (i + j))
  | .int i, .bl b => some (.int (i + bi b))
  | .bl a, .bl b => some (.int (bi a + bi b))
  | .str a, .str b => if a.length + b.length ≤ 100000 then some (.str (a ++ b)) else none
  | .tup xs, .tup ys => if xs.length + ys.length ≤ 1000000 then some (.tup (xs ++ ys)) else none
  | .lst xs, .lst ys => if xs.length + ys.length ≤ 1000000 then some (.lst (xs ++ ys)) else none
  | _, _ => none
def pSub : PV → PV → Option PV
  | .int i, .int j => some (.int (i - j))
  | .bl a, .bl b => some (.int (bi a - bi b))
  | _, _ => none
def pMul : PV → PV → Option PV
  | .int i, .int j => if mulOk i j then some (.int (i * j)) else none
  | _, _ => none
def pFdiv : PV → PV → Option PV
  | .int i, .int j => if divOk j then some (.int (i.fdiv j)) else none
  | _, _ => none
def pMod : PV → PV → Option PV
  | .int i, .int j => if decide (j ≠ 0) then some (.int (i.fmod j)) else none
  | _, _ => none
def pPow : PV → PV → Option PV
  | .int i, .int j => if decide (0 ≤ j ∧ j ≤ 1000000 ∧ i.natAbs < 2 ^ 64) then some (.int (i ^ j.toNat)) else none
  | _, _ => none
section
variable {X : Cx}
theorem opv_add : OpV X (binaryOp .Add) pAdd := by
  intro pins s σ H x y v u Q I rx ry h
  obtain ⟨M, W, a, b, r, hm, ra, rb, hg, q⟩ := h
  unfold pAdd at hg
  split at hg
  · cases hg; cases ra.int; cases rb.int
    exact op_add pins s σ H _ _ v u Q I rx ry ⟨_, _, rfl, rfl, q H _ (.inl rfl) rf_int⟩
  · cases hg; cases ra.int; cases rb.bl
    exact op_add_ib pins s σ H _ _ v u Q I rx ry ⟨_, _, rfl, rfl, q H _ (.inl rfl) rf_int⟩
  · rename_i i j
    cases hg; cases ra.bl; cases rb.bl
    cases rx; cases ry
    exact add_bool ⟨.int (bi i + bi j), H, I.tok _, ⟨_, rfl⟩, q H _ (.inl rfl) rf_int⟩
  · split at hg
    · rename_i hl
      cases hg; cases ra.str; cases rb.str
      exact op_add_str pins s σ H _ _ v u Q I rx ry ⟨_, _, rfl, rfl, Nat.le_trans hl (by decide), q H _ (.inl rfl) rf_str⟩
    · cases hg
  · rename_i xs ys
    split at hg
    · rename_i hl
      cases hg
      obtain ⟨p, ws, rfl, h1, h2⟩ := ra.tup
      obtain ⟨p', ws', rfl, h1', h2'⟩ := rb.tup
      refine op_catA pins s σ H _ _ v u Q I rx ry ⟨p, p', ws, ws', rfl, rfl, h1, h1', ?_, fun e => ?_, fun _ e => ?_, fun _ _ c hc => q _ _ (.inr ⟨c, _, hc, noTbl_tup, rfl⟩) (rf_newT hm hc (h2.append h2'))⟩
      · rw [h2.len, h2'.len]; exact Nat.le_trans hl (by decide)
      · have e2 : xs = [] := by have := h2.len; rw [e] at this; exact List.length_eq_zero_iff.mp this.symm
        subst e2
        rcases rb with rb | ⟨_, _, _, z, _⟩
        · exact q H _ (.inl rfl) rb
        · cases z
      · have e2 : ys = [] := by have := h2'.len; rw [e] at this; exact List.length_eq_zero_iff.mp this.symm
        subst e2
        rcases ra with ra | ⟨_, _, _, z, _⟩
        · rw [List.append_nil] at q; exact q H _ (.inl rfl) ra
        · cases z
    · cases hg
  · rename_i xs ys
    split at hg
    · rename_i hl
      cases hg
      obtain ⟨p, ws, rfl, h1, h2⟩ := ra.lstL
      obtain ⟨p', ws', rfl, h1', h2'⟩ := rb.lstL
      cases rx; cases ry
      obtain ⟨its, n, r1, e1, z1⟩ := h1.isL I
      obtain ⟨its', n', r1', e1', z1'⟩ := h1'.isL I
      have hz : ws.length + ws'.length ≤ sizeLine := by rw [h2.len, h2'.len]; exact Nat.le_trans hl (by decide)
      refine PySem.P.add_list e1 e1' ?_ (by rw [List.size_toArray, List.size_toArray, ← r1.length, ← r1'.length]; exact hz)
      have ea : its.toArray ++ its'.toArray = (its ++ its').toArray := by simp
      rw [ea]
      exact ⟨.ref _, _, I.lnew (t' := s.toks) (r1.append r1') (by rw [List.length_append]; exact hz), rfl, q _ _ (.inr ⟨_, _, I.fresh, noTbl_lst, rfl⟩) (rf_newL hm I.fresh (h2.append h2'))⟩
    · cases hg
  · cases hg
theorem opv_sub : OpV X (binaryOp .Sub) pSub := by
  intro pins s σ H x y v u Q I rx ry h
  obtain ⟨M, W, a, b, r, hm, ra, rb, hg, q⟩ := h
  unfold pSub at hg
  split at hg
  · cases hg; cases ra.int; cases rb.int
    exact op_sub pins s σ H _ _ v u Q I rx ry ⟨_, _, rfl, rfl, q H _ (.inl rfl) rf_int⟩
  · rename_i i j
    cases hg; cases ra.bl; cases rb.bl
    cases rx; cases ry
    exact sub_bool ⟨.int (bi i - bi j), H, I.tok _, ⟨_, rfl⟩, q H _ (.inl rfl) rf_int⟩
  · cases hg
theorem small_ok {i : Int} (h : small i = true) : -(2 ^ 64) < i ∧ i < 2 ^ 64 := by
  unfold small at h
  rw [Bool.and_eq_true] at h
  exact ⟨of_decide_eq_true h.1, of_decide_eq_true h.2⟩
theorem opv_mul : OpV X (binaryOp .Mult) pMul := by
  intro pins s σ H x y v u Q I rx ry h
  obtain ⟨M, W, a, b, r, hm, ra, rb, hg, q⟩ := h
  unfold pMul at hg
  split at hg
  · rename_i i j
    split at hg
    · rename_i hk
      cases hg; cases ra.int; cases rb.int
      unfold mulOk at hk
      rw [Bool.or_eq_true, Bool.or_eq_true] at hk
      rcases hk with (hk | hk) | hk
      · exact op_mul pins s σ H _ _ v u Q I rx ry ⟨_, _, rfl, rfl, .inl (small_ok hk), q H _ (.inl rfl) rf_int⟩
      · exact op_mul pins s σ H _ _ v u Q I rx ry ⟨_, _, rfl, rfl, .inr (small_ok hk), q H _ (.inl rfl) rf_int⟩
      · exact op_mulW pins s σ H _ _ v u Q I rx ry ⟨_, _, rfl, rfl, (show i.natAbs.log2 + j.natAbs.log2 < 1000000 from of_decide_eq_true hk), q H _ (.inl rfl) rf_int⟩
    · cases hg
  · cases hg
theorem opv_fdiv : OpV X (binaryOp .FloorDiv) pFdiv := by
  intro pins s σ H x y v u Q I rx ry h
  obtain ⟨M, W, a, b, r, hm, ra, rb, hg, q⟩ := h
  unfold pFdiv at hg
  split at hg
  · rename_i i j
    split at hg
    · rename_i hk
      cases hg; cases ra.int; cases rb.int
      unfold divOk at hk
      rw [Bool.and_eq_true, Bool.or_eq_true, Bool.and_eq_true] at hk
      obtain ⟨h0, hk | ⟨hk, hk2⟩⟩ := hk
      · exact op_fdivN pins s σ H _ _ v u Q I rx ry ⟨_, _, rfl, rfl, ⟨of_decide_eq_true h0, of_decide_eq_true hk⟩, q H _ (.inl rfl) rf_int⟩
      · have hp : 0 < j := of_decide_eq_true hk
        refine op_fdivW pins s σ H _ _ v u Q I rx ry ⟨_, _, rfl, rfl, ⟨hp, of_decide_eq_true hk2⟩, ?_⟩
        show Q (.int (i / j)) H
        rw [← Int.fdiv_eq_ediv_of_nonneg i (show 0 ≤ j by omega)]
        exact q H _ (.inl rfl) rf_int
    · cases hg
  · cases hg
theorem opv_mod : OpV X (binaryOp .Mod) pMod := by
  intro pins s σ H x y v u Q I rx ry h
  obtain ⟨M, W, a, b, r, hm, ra, rb, hg, q⟩ := h
  unfold pMod at hg
  split at hg
  · split at hg
    · rename_i hk
      cases hg; cases ra.int; cases rb.int
      exact op_modN pins s σ H _ _ v u Q I rx ry ⟨_, _, rfl, rfl, of_decide_eq_true hk, q H _ (.inl rfl) rf_int⟩
    · cases hg
  · cases hg
theorem opv_pow : OpV X (binaryOp .Pow) pPow := by
  intro pins s σ H x y v u Q I rx ry h
  obtain ⟨M, W, a, b, r, hm, ra, rb, hg, q⟩ := h
  unfold pPow at hg
  split at hg
  · rename_i i j
    split at hg
    · rename_i hk
      cases hg; cases ra.int; cases rb.int
      exact op_pow pins s σ H _ _ v u Q I rx ry ⟨_, _, rfl, rfl, (show 0 ≤ j ∧ j ≤ 1000000 ∧ i.natAbs < 2 ^ 64 from of_decide_eq_true hk), q H _ (.inl rfl) rf_int⟩
    · cases hg
  · cases hg
end
def isD (v : PV) : Bool := pd 60 v
def cEq (a b : PV) : Option PV := if isD a && isD b then some (.bl (pvEq a b)) else none
def cNe (a b : PV) : Option PV := if isD a && isD b then some (.bl (!pvEq a b)) else none
def isN : PV → Bool | .non => true | _ => false
def ordd (a b : PV) : Bool := isD a && isD b && alk a b && !isN a
def cLt (a b : PV) : Option PV := if ordd a b then some (.bl (pvLt a b)) else none
def cGt (a b : PV) : Option PV := if ordd a b then some (.bl (pvLt b a)) else none
def cLe (a b : PV) : Option PV := if ordd a b then some (.bl (!pvLt b a)) else none
def cGe (a b : PV) : Option PV := if ordd a b then some (.bl (!pvLt a b)) else none
def cIsN (a b : PV) : Option PV := match b with
  | .non => some (.bl (isN a))
  | .bl y => match a with | .bl x => some (.bl (x == y)) | _ => none
  | _ => none
def cNotN (a b : PV) : Option PV := match b with
  | .non => some (.bl (!isN a))
  | .bl y => match a with | .bl x => some (.bl (!(x == y))) | _ => none
  | _ => none
def pvIn (a : PV) (xs : List PV) : Bool := xs.any fun z => pvEq z a
def cIn (a b : PV) : Option PV := match b with
  | .lst xs => if isD a && isD b then some (.bl (pvIn a xs)) else none
  | .tup xs => if isD a && isD b then some (.bl (pvIn a xs)) else none
  | .dct ks _ => match keyI a with | some k => some (.bl (decide (k ∈ ks))) | none => none
  | _ => none
def cNotIn (a b : PV) : Option PV := match b with
  | .lst xs => if isD a && isD b then some (.bl (!pvIn a xs)) else none
  | .tup xs => if isD a && isD b then some (.bl (!pvIn a xs)) else none
  | .dct ks _ => match keyI a with | some k => some (.bl (!decide (k ∈ ks))) | none => none
  | _ => none
theorem alk_comm : ∀ a b : PV, isD a = true → isD b = true → alk a b = alk b a := fun a b ha hb => by
  rw [← alk_toD 60 60 a b ha hb, ← alk_toD 60 60 b a hb ha]; exact PySem.W.alike_comm _ _
theorem toD_none {a : PV} (h : toD a = .none) (hd : isD a = true) : isN a = true := by
  cases a <;> first | rfl | (simp [toD] at h; done) | (unfold isD pd at hd; cases hd)
theorem any_toDs {a : PV} (ha : isD a = true) : ∀ (n : Nat) (xs : List PV), pds n xs = true → ((toDs xs).any fun z => PyData.eqv z (toD a)) = pvIn a xs
  | n, [], _ => rfl
  | n, x :: xs, h => by
    unfold pds at h
    rw [Bool.and_eq_true] at h
    have := any_toDs ha n xs h.2
    simp only [toDs, List.any_cons, this, pvEq_toD n 60 x a h.1 ha]
    rfl
section
variable {X : Cx}
theorem opv_eq (hu : X.A.units + 64 < cLine) : OpV X (compareOp .Eq) cEq := by
  intro pins s σ H x y v u Q I rx ry h
  obtain ⟨M, W, a, b, r, hm, ra, rb, hg, q⟩ := h
  unfold cEq at hg
  split at hg
  · rename_i hk
    cases hg
    rw [Bool.and_eq_true] at hk
    refine op_eqD hu pins s σ H x y v u Q I rx ry ⟨toD a, toD b, ra.dp hk.1, rb.dp hk.2, pd_shaped hk.1 (by decide), pd_shaped hk.2 (by decide), ?_⟩
    rw [pvEq_toD 60 60 a b hk.1 hk.2]
    exact q H _ (.inl rfl) rf_bl
  · cases hg
theorem opv_ne (hu : X.A.units + 64 < cLine) : OpV X (compareOp .NotEq) cNe := by
  intro pins s σ H x y v u Q I rx ry h
  obtain ⟨M, W, a, b, r, hm, ra, rb, hg, q⟩ := h
  unfold cNe at hg
  split at hg
  · rename_i hk
    cases hg
    rw [Bool.and_eq_true] at hk
    refine op_neD hu pins s σ H x y v u Q I rx ry ⟨toD a, toD b, ra.dp hk.1, rb.dp hk.2, pd_shaped hk.1 (by decide), pd_shaped hk.2 (by decide), ?_⟩
    rw [pvEq_toD 60 60 a b hk.1 hk.2]
    exact q H _ (.inl rfl) rf_bl
  · cases hg
theorem ordd_ok {K : PySem.W.Frag} {M : Addr → Prop} {W : List Addr} {H : Hp} {a b : PV} (h : ordd a b = true) : isD a = true ∧ isD b = true ∧ alk a b = true ∧ toD a ≠ .none := by
  unfold ordd at h
  rw [Bool.and_eq_true, Bool.and_eq_true, Bool.and_eq_true] at h
  refine ⟨h.1.1.1, h.1.1.2, h.1.2, fun z => ?_⟩
  have := toD_none z h.1.1.1
  rw [this] at h
  exact absurd h.2 (by decide)
theorem depth_ok {A : Around} {a b : PV} (hu : A.units + 64 < cLine) (ha : isD a = true) : A.units + min (toD a).depth (toD b).depth < cLine := by
  have h1 := (pd_lay 60 a ha).2
  have h2 : min (toD a).depth (toD b).depth ≤ (toD a).depth := Nat.min_le_left _ _
  omega
theorem opv_lt (hu : X.A.units + 64 < cLine) : OpV X (compareOp .Lt) cLt := by
  intro pins s σ H x y v u Q I rx ry h
  obtain ⟨M, W, a, b, r, hm, ra, rb, hg, q⟩ := h
  unfold cLt at hg
  split at hg
  · rename_i hk
    cases hg
    obtain ⟨h1, h2, h3, h4⟩ := ordd_ok (K := X.K) (M := M) (W := W) (H := H) hk
    obtain ⟨as, r1⟩ := Dp.reads I (toD a) x v (ra.dp h1) rx
    obtain ⟨bs, r2⟩ := Dp.reads I (toD b) y u (rb.dp h2) ry
    refine PySem.W.lt_data r1 r2 (by rw [alk_toD 60 60 a b h1 h2]; exact h3) h4 (depth_ok hu h1) ⟨.bl _, H, I, rfl, ?_⟩
    rw [lt_toD 60 60 a b h1 h2 h3]
    exact q H _ (.inl rfl) rf_bl
  · cases hg
theorem opv_gt (hu : X.A.units + 64 < cLine) : OpV X (compareOp .Gt) cGt := by
  intro pins s σ H x y v u Q I rx ry h
  obtain ⟨M, W, a, b, r, hm, ra, rb, hg, q⟩ := h
  unfold cGt at hg
  split at hg
  · rename_i hk
    cases hg
    obtain ⟨h1, h2, h3, h4⟩ := ordd_ok (K := X.K) (M := M) (W := W) (H := H) hk
    obtain ⟨as, r1⟩ := Dp.reads I (toD a) x v (ra.dp h1) rx
    obtain ⟨bs, r2⟩ := Dp.reads I (toD b) y u (rb.dp h2) ry
    refine PySem.W.gt_data r1 r2 (by rw [alk_toD 60 60 a b h1 h2]; exact h3) h4 (depth_ok hu h1) ⟨.bl _, H, I, rfl, ?_⟩
    rw [lt_toD 60 60 b a h2 h1 (by rw [alk_comm b a h2 h1]; exact h3)]
    exact q H _ (.inl rfl) rf_bl
  · cases hg
theorem opv_le (hu : X.A.units + 64 < cLine) : OpV X (compareOp .LtE) cLe := by
  intro pins s σ H x y v u Q I rx ry h
  obtain ⟨M, W, a, b, r, hm, ra, rb, hg, q⟩ := h
  unfold cLe at hg
  split at hg
  · rename_i hk
    cases hg
    obtain ⟨h1, h2, h3, h4⟩ := ordd_ok (K := X.K) (M := M) (W := W) (H := H) hk
    obtain ⟨as, r1⟩ := Dp.reads I (toD a) x v (ra.dp h1) rx
    obtain ⟨bs, r2⟩ := Dp.reads I (toD b) y u (rb.dp h2) ry
    refine PySem.W.le_data r1 r2 (by rw [alk_toD 60 60 a b h1 h2]; exact h3) h4 (depth_ok hu h1) ⟨.bl _, H, I, rfl, ?_⟩
    rw [lt_toD 60 60 b a h2 h1 (by rw [alk_comm b a h2 h1]; exact h3)]
    exact q H _ (.inl rfl) rf_bl
  · cases hg
theorem opv_ge (hu : X.A.units + 64 < cLine) : OpV X (compareOp .GtE) cGe := by
  intro pins s σ H x y v u Q I rx ry h
  obtain ⟨M, W, a, b, r, hm, ra, rb, hg, q⟩ := h
  unfold cGe at hg
  split at hg
  · rename_i hk
    cases hg
    obtain ⟨h1, h2, h3, h4⟩ := ordd_ok (K := X.K) (M := M) (W := W) (H := H) hk
    obtain ⟨as, r1⟩ := Dp.reads I (toD a) x v (ra.dp h1) rx
    obtain ⟨bs, r2⟩ := Dp.reads I (toD b) y u (rb.dp h2) ry
    refine PySem.W.ge_data r1 r2 (by rw [alk_toD 60 60 a b h1 h2]; exact h3) h4 (depth_ok hu h1) ⟨.bl _, H, I, rfl, ?_⟩
    rw [lt_toD 60 60 a b h1 h2 h3]
    exact q H _ (.inl rfl) rf_bl
  · cases hg
theorem RV.isN {K : PySem.W.Frag} {M : Addr → Prop} {W : List Addr} {H : Hp} {a : PV} {x : V} (r : RV K M W H a x) : decide (x = .non) = isN a := by
  cases a with
  | non => cases r.non; rfl
  | bl b => cases r.bl; rfl
  | int b => cases r.int; rfl
  | str b => cases r.str; rfl
  | tup b => obtain ⟨p, ws, rfl, _⟩ := r.tup; rfl
  | lst b => obtain ⟨p, ws, rfl, _⟩ := r.lst; rfl
  | ref b => obtain ⟨p, rfl, _⟩ := r.ref; rfl
  | fn b => obtain ⟨p, rfl, _⟩ := r.fn; rfl
  | dct ks vs => obtain ⟨p, _, _, _, rfl, _⟩ := r.dct; rfl
  | nti ns => obtain ⟨p, _, rfl, _⟩ := r.nti; rfl
theorem opv_is : OpV X (compareOp .Is) cIsN := by
  intro pins s σ H x y v u Q I rx ry h
  obtain ⟨M, W, a, b, r, hm, ra, rb, hg, q⟩ := h
  unfold cIsN at hg
  split at hg
  · cases hg; cases rb.non
    refine op_isN pins s σ H x _ v u Q I rx ry ⟨rfl, ?_⟩
    rw [ra.isN]
    exact q H _ (.inl rfl) rf_bl
  · split at hg
    · rename_i y' _ x'
      cases hg; cases ra.bl; cases rb.bl
      refine op_is_bl pins s σ H _ _ v u Q I rx ry ⟨_, _, rfl, rfl, ?_⟩
      have e : decide (x' = y') = (x' == y') := by cases x' <;> cases y' <;> rfl
      rw [e]
      exact q H _ (.inl rfl) rf_bl
    · cases hg
  · cases hg
theorem opv_isnot : OpV X (compareOp .IsNot) cNotN := by
  intro pins s σ H x y v u Q I rx ry h
  obtain ⟨M, W, a, b, r, hm, ra, rb, hg, q⟩ := h
  unfold cNotN at hg
  split at hg
  · cases hg; cases rb.non
    refine op_notN pins s σ H x _ v u Q I rx ry ⟨rfl, ?_⟩
    rw [ra.isN]
    exact q H _ (.inl rfl) rf_bl
  · split at hg
    · rename_i y' _ x'
      cases hg; cases ra.bl; cases rb.bl
      refine op_isnot_bl pins s σ H _ _ v u Q I rx ry ⟨_, _, rfl, rfl, ?_⟩
      have e : decide (x' = y') = (x' == y') := by cases x' <;> cases y' <;> rfl
      rw [e]
      exact q H _ (.inl rfl) rf_bl
    · cases hg
  · cases hg
theorem isD_lst {xs : List PV} (h : isD (.lst xs) = true) : pds 59 xs = true := by unfold isD at h; rw [show (60 : Nat) = 59 + 1 from rfl] at h; unfold pd at h; exact h
theorem isD_tup {xs : List PV} (h : isD (.tup xs) = true) : pds 59 xs = true := by unfold isD at h; rw [show (60 : Nat) = 59 + 1 from rfl] at h; unfold pd at h; exact h
theorem opv_in (hu : X.A.units + 65 < cLine) : OpV X (compareOp .In) cIn := by
  intro pins s σ H x y v u Q I rx ry h
  obtain ⟨M, W, a, b, r, hm, ra, rb, hg, q⟩ := h
  unfold cIn at hg
  split at hg
  · rename_i xs
    split at hg
    · rename_i hk
      cases hg
      rw [Bool.and_eq_true] at hk
      refine op_inD hu pins s σ H x y v u Q I rx ry ⟨toD a, toDs xs, ra.dp hk.1, rb.dp hk.2, pd_shaped hk.1 (by decide), pd_shaped hk.2 (by decide), ?_⟩
      rw [any_toDs hk.1 59 xs (isD_lst hk.2)]
      exact q H _ (.inl rfl) rf_bl
    · cases hg
  · rename_i xs
    split at hg
    · rename_i hk
      cases hg
      rw [Bool.and_eq_true] at hk
      obtain ⟨as, r1⟩ := Dp.reads I (toD a) x v (ra.dp hk.1) rx
      obtain ⟨bs, r2⟩ := Dp.reads I (.tuple (toDs xs)) y u (rb.dp hk.2) ry
      have s2 := pd_lay 60 _ hk.2
      have s1 := pd_lay 60 a hk.1
      refine SeqAt.in_tuple_reads r2 r1 s2.1 s1.1 ?_ ⟨.bl _, H, I, rfl, ?_⟩
      · exact room_in_shaped (pd_shaped hk.1 (by decide)) hu
      · rw [any_toDs hk.1 59 xs (isD_tup hk.2)]
        exact q H _ (.inl rfl) rf_bl
    · cases hg
  · rename_i ks vs
    split at hg
    · rename_i k hk
      cases hg
      obtain ⟨b, rfl, fz⟩ := keyI_fz hk ra
      obtain ⟨p, as, ws, ob, rfl, e, _, ko, _⟩ := rb.dct
      cases (show v = Value.ref b from rx)
      cases (show u = Value.ref p from ry)
      obtain ⟨hd, _, xs, e1, _, _, dd, _⟩ := dct_ofP I e ko
      refine wpAny_in_heap (knd := tupleKind (PySem.intKind X.prog X.w)) (tupleKind_room_in1 (by omega)) (fzT_key I fz) hd dd ?_
      rw [atKey_some, e1]
      exact ⟨.bl _, H, I.tok _, rfl, q H _ (.inl rfl) rf_bl⟩
    · cases hg
  · cases hg
theorem opv_notin (hu : X.A.units + 65 < cLine) : OpV X (compareOp .NotIn) cNotIn := by
  intro pins s σ H x y v u Q I rx ry h
  obtain ⟨M, W, a, b, r, hm, ra, rb, hg, q⟩ := h
  unfold cNotIn at hg
  split at hg
  · rename_i xs
    split at hg
    · rename_i hk
      cases hg
      rw [Bool.and_eq_true] at hk
      refine op_notInD hu pins s σ H x y v u Q I rx ry ⟨toD a, toDs xs, ra.dp hk.1, rb.dp hk.2, pd_shaped hk.1 (by decide), pd_shaped hk.2 (by decide), ?_⟩
      rw [any_toDs hk.1 59 xs (isD_lst hk.2)]
      exact q H _ (.inl rfl) rf_bl
    · cases hg
  · rename_i xs
    split at hg
    · rename_i hk
      cases hg
      rw [Bool.and_eq_true] at hk
      obtain ⟨as, r1⟩ := Dp.reads I (toD a) x v (ra.dp hk.1) rx
      obtain ⟨bs, r2⟩ := Dp.reads I (.tuple (toDs xs)) y u (rb.dp hk.2) ry
      have s2 := pd_lay 60 _ hk.2
      have s1 := pd_lay 60 a hk.1
      refine SeqAt.notIn_tuple_reads r2 r1 s2.1 s1.1 ?_ ⟨.bl _, H, I, rfl, ?_⟩
      · exact room_in_shaped (pd_shaped hk.1 (by decide)) hu
      · rw [any_toDs hk.1 59 xs (isD_tup hk.2)]
        exact q H _ (.inl rfl) rf_bl
    · cases hg
  · rename_i ks vs
    split at hg
    · rename_i k hk
      cases hg
      obtain ⟨b, rfl, fz⟩ := keyI_fz hk ra
      obtain ⟨p, as, ws, ob, rfl, e, _, ko, _⟩ := rb.dct
      cases (show v = Value.ref b from rx)
      cases (show u = Value.ref p from ry)
      obtain ⟨hd, _, xs, e1, _, _, dd, _⟩ := dct_ofP I e ko
      refine wpAny_notIn_heap (knd := tupleKind (PySem.intKind X.prog X.w)) (tupleKind_room_in1 (by omega)) (fzT_key I fz) hd dd ?_
      rw [atKey_some, e1]
      exact ⟨.bl _, H, I.tok _, rfl, q H _ (.inl rfl) rf_bl⟩
    · cases hg
  · cases hg
end
end Mp
end
section
set_option maxRecDepth 100000
set_option maxHeartbeats 1000000
namespace Mp
open PySem PySem.Spec PyProof.Rows L2
abbrev WOk (X : Cx) (tb : Tbs) (Wx : WX) (e : Expr) (m : TM) : Prop := PW X e (tMT X.K X.mg tb Wx m)
def tBin (g : PV → PV → Option PV) (ma mb : EM) : TM := fun env st => bindR (ma env st) fun a s => bindR (mb env s) fun b s' => match g a b with | some (.bl c) => .ok c s' | _ => .bad
def eChain (g g' : PV → PV → Option PV) (ma mb mc : EM) : EM := fun env st => bindR (ma env st) fun a s => bindR (mb env s) fun b s' => match g a b with
  | some (.bl true) => bindR (mc env s') fun c s'' => optR (g' b c) s''
  | some (.bl false) => .ok (.bl false) s'
  | _ => .bad
def tChain2 (g g' : PV → PV → Option PV) (ma mb mc : EM) : TM := fun env st => bindR (ma env st) fun a s => bindR (mb env s) fun b s' => match g a b with
  | some (.bl true) => bindR (mc env s') fun c s'' => match g' b c with | some (.bl k) => .ok k s'' | _ => .bad
  | some (.bl false) => .ok false s'
  | _ => .bad
def tru (s : Sto) : PV → Option Bool
  | .non => some false
  | .bl b => some b
  | .int i => some (i != 0)
  | .str z => if z.length ≤ 100000 then some ((z.length : Int) != 0) else none
  | .tup xs => some (!xs.isEmpty)
  | .lst xs => some (!xs.isEmpty)
  | .ref n => match s[n]? with | some (.lst xs) => some (!xs.isEmpty) | _ => none
  | .fn _ => none
  | .dct _ _ => none
  | .nti _ => none
def tVal (m : EM) : TM := fun env st => bindR (m env st) fun a s => optB (tru s a) s
def tAndM (ma mb : TM) : TM := fun env st => bindR (ma env st) fun c s => if c then mb env s else .ok false s
def tOrM (ma mb : TM) : TM := fun env st => bindR (ma env st) fun c s => if c then .ok true s else mb env s
def tNotM (ma : TM) : TM := fun env st => bindR (ma env st) fun c s => .ok (!c) s
def eAnd (ma mb : EM) : EM := fun env st => bindR (ma env st) fun a s => match tru s a with | some true => mb env s | some false => .ok a s | none => .bad
def eOr (ma mb : EM) : EM := fun env st => bindR (ma env st) fun a s => match tru s a with | some true => .ok a s | some false => mb env s | none => .bad
def eNot (ma : EM) : EM := fun env st => bindR (ma env st) fun a s => match tru s a with | some k => .ok (.bl (!k)) s | none => .bad
def eIf (t : TM) (ma mb : EM) : EM := fun env st => bindR (t env st) fun c s => if c then ma env s else mb env s
section
variable {K : PySem.W.Frag} {mg : Str → Option Value} {tb : Tbs} {Mx M : Addr → Prop} {W W' W1 W0 : List Addr} {σ : L2.St} {H H' H1 H0 : Hp} {env : MEnv} {st st' st1 : Sto} {Wx : WX} {md md1 : Md} {fz : Bool}
theorem isEmpty_rf {xs : List PV} {ws : List V} (h : RFs K M W H xs ws) : ws.isEmpty = xs.isEmpty := by
  cases xs with
  | nil => rw [h.nil_inv]; rfl
  | cons x xs => obtain ⟨w, r, rfl, _⟩ := h.inv; rfl
def StOk (K : PySem.W.Frag) (M : Addr → Prop) (W : List Addr) (H : Hp) (st : Sto) : Prop := ∀ (i : Nat) (p : Addr) (o : PO), W[i]? = some p → st[i]? = some o → RO K M W H o p
theorem tru_v {a : PV} {x : V} {k : Bool} (so : StOk K M W H st) (r : RV K M W H a x) (h : tru st a = some k) : TruV K x H k := by
  cases a with
  | non => cases r.non; cases h; rfl
  | bl b => cases r.bl; cases h; rfl
  | int b => cases r.int; cases h; rfl
  | str b =>
    cases r.str
    simp only [tru] at h
    split at h
    · rename_i hl
      cases h
      exact ⟨Nat.le_trans hl (show 100000 ≤ sizeLine by decide), rfl⟩
    · cases h
  | tup b =>
    obtain ⟨p, ws, rfl, h1, h2⟩ := r.tup
    cases h
    exact .inr (.inl ⟨ws, h1, by rw [isEmpty_rf h2]⟩)
  | lst b =>
    obtain ⟨p, ws, rfl, h1, h2⟩ := r.lst
    cases h
    exact .inl ⟨ws, h1, by rw [isEmpty_rf h2]⟩
  | ref n =>
    obtain ⟨p, rfl, hp⟩ := r.ref
    simp only [tru] at h
    split at h
    · rename_i xs hs
      cases h
      obtain ⟨ws, h1, h2⟩ := so n p _ hp hs
      exact .inl ⟨ws, .of h1, by rw [isEmpty_rf h2]⟩
    · cases h
  | fn x => cases h
  | dct _ _ => cases h
  | nti _ => cases h
end
section
variable {X : Cx} {tb : Tbs} {Wx : WX} {a b c e : Expr} {es rest : List Expr} {ma mb mc m : EM} {ta tc : TM} {ms : AM} {pos : Pos} {md : Md} {op op' : CmpOp} {g g' : PV → PV → Option PV}
theorem e_cmp (ho : OpV X (compareOp op) g) (ha : EOk X tb Wx .R a ma) (hb : EOk X tb Wx .R b mb) (hm : behindInMarks op b = false) : EOk X tb Wx .F (.Compare a [op] [b] pos) (mBin g ma mb) :=
  PE_mono (pe_cmpR ho ha hb hm) fun σ H Q ⟨Mx, W, env, st, rel, post⟩ => by
    refine ebindE rel post fun v1 s1 W1 H1 w1 a1 r1 post => ebindE a1.rel post fun v2 s2 W2 H2 w2 a2 r2 post => ?_
    cases q : g v1 v2 with
    | none => rw [q] at post; exact post.elim
    | some v =>
      rw [q] at post
      exact ⟨Mt Mx W2 env σ, W2, v1, v2, v, fun p z => a2.rel.mtS z, RV.stp a2 r1, r2, q, fun H' w al rf => post W2 H' w (al.stp a2.rel) rf⟩
theorem t_cmp (ho : OpV X (compareOp op) g) (ha : EOk X tb Wx .R a ma) (hb : EOk X tb Wx .R b mb) (hm : behindInMarks op b = false) : TOk X tb Wx (.Compare a [op] [b] pos) (tBin g ma mb) :=
  PT_mono (pt_cmpR ho ha hb hm) fun σ H Q ⟨Mx, W, env, st, rel, post⟩ => by
    refine ebindT rel post fun v1 s1 W1 H1 w1 a1 r1 post => ebindT a1.rel post fun v2 s2 W2 H2 w2 a2 r2 post => ?_
    split at post
    · rename_i c q
      refine ⟨Mt Mx W2 env σ, W2, v1, v2, .bl c, fun p z => a2.rel.mtS z, RV.stp a2 r1, r2, q, fun H' w al rf => ?_⟩
      unfold RF at rf
      exact ⟨c, rf, post W2 H' (al.stp a2.rel)⟩
    · exact post.elim
theorem e_chain (ho : OpV X (compareOp op) g) (ho' : OpV X (compareOp op') g') (ha : EOk X tb Wx .R a ma) (hb : EOk X tb Wx .R b mb) (hc : EOk X tb Wx .R c mc)
    (hm : lastMarks [op, op'] [b, c] = false := by with_unfolding_all rfl) : EOk X tb Wx .F (.Compare a [op, op'] [b, c] pos) (eChain g g' ma mb mc) :=
  PE_mono (pe_chain ho ho' ha hb hc hm) fun σ H Q ⟨Mx, W, env, st, rel, post⟩ => by
    refine ebindE rel post fun v1 s1 W1 H1 w1 a1 r1 post => ebindE a1.rel post fun v2 s2 W2 H2 w2 a2 r2 post => ?_
    split at post
    · rename_i q
      refine ⟨Mt Mx W2 env σ, W2, v1, v2, .bl true, fun p z => a2.rel.mtS z, RV.stp a2 r1, r2, q, fun H' w al rf => ?_⟩
      unfold RF at rf
      have a2' := al.stp a2.rel
      refine ⟨true, rf, ?_⟩
      rw [if_pos rfl]
      refine ebindE a2'.rel (EPost.from a2' post) fun v3 s3 W3 H3 w3 a3 r3 post => ?_
      cases q' : g' v2 v3 with
      | none => rw [q'] at post; exact post.elim
      | some v =>
        rw [q'] at post
        exact ⟨Mt Mx W3 env σ, W3, v2, v3, v, fun p z => a3.rel.mtS z, RV.stp a3 (RV.stp a2' r2), r3, q', fun H' w al rf => post W3 H' w (al.stp a3.rel) rf⟩
    · rename_i q
      refine ⟨Mt Mx W2 env σ, W2, v1, v2, .bl false, fun p z => a2.rel.mtS z, RV.stp a2 r1, r2, q, fun H' w al rf => ?_⟩
      unfold RF at rf
      refine ⟨false, rf, ?_⟩
      rw [if_neg Bool.false_ne_true]
      exact post W2 H' _ (al.stp a2.rel) rm_bl
    · exact post.elim
theorem t_chain (ho : OpV X (compareOp op) g) (ho' : OpV X (compareOp op') g') (ha : EOk X tb Wx .R a ma) (hb : EOk X tb Wx .R b mb) (hc : EOk X tb Wx .R c mc)
    (hm : lastMarks [op, op'] [b, c] = false := by with_unfolding_all rfl) : TOk X tb Wx (.Compare a [op, op'] [b, c] pos) (tChain2 g g' ma mb mc) :=
  PT_mono (pt_chain ho ho' ha hb hc hm) fun σ H Q ⟨Mx, W, env, st, rel, post⟩ => by
    refine ebindT rel post fun v1 s1 W1 H1 w1 a1 r1 post => ebindT a1.rel post fun v2 s2 W2 H2 w2 a2 r2 post => ?_
    split at post
    · rename_i q
      refine ⟨Mt Mx W2 env σ, W2, v1, v2, .bl true, fun p z => a2.rel.mtS z, RV.stp a2 r1, r2, q, fun H' w al rf => ?_⟩
      unfold RF at rf
      have a2' := al.stp a2.rel
      refine ⟨true, rf, ?_⟩
      rw [if_pos rfl]
      refine ebindT a2'.rel (TPost.from a2' post) fun v3 s3 W3 H3 w3 a3 r3 post => ?_
      split at post
      · rename_i k q'
        refine ⟨Mt Mx W3 env σ, W3, v2, v3, .bl k, fun p z => a3.rel.mtS z, RV.stp a3 (RV.stp a2' r2), r3, q', fun H' w al rf => ?_⟩
        unfold RF at rf
        exact ⟨k, rf, post W3 H' (al.stp a3.rel)⟩
      · exact post.elim
    · rename_i q
      refine ⟨Mt Mx W2 env σ, W2, v1, v2, .bl false, fun p z => a2.rel.mtS z, RV.stp a2 r1, r2, q, fun H' w al rf => ?_⟩
      unfold RF at rf
      refine ⟨false, rf, ?_⟩
      rw [if_neg Bool.false_ne_true]
      exact ⟨false, rfl, post W2 H' (al.stp a2.rel)⟩
    · exact post.elim
theorem Rel.stOk {K : PySem.W.Frag} {Mx : Addr → Prop} {W : List Addr} {σ : L2.St} {H : Hp} {env : MEnv} {st : Sto} (r : Rel K tb Mx W σ H env st) : StOk K (Mt Mx W env σ) W H st := r.sto
theorem t_val (ha : EOk X tb Wx .R a ma) (he : ∀ whole, isTrue a X.env whole = (do let v ← whole; standAt a.pos; holding [v] (truthy v)) := by intro _; rfl) : TOk X tb Wx a (tVal ma) :=
  PT_mono (pt_truth ha he) fun σ H Q ⟨Mx, W, env, st, rel, post⟩ => by
    refine ebindT rel post fun v1 s1 W1 H1 w1 a1 r1 post => ?_
    cases q : tru s1 v1 with
    | none => rw [q] at post; exact post.elim
    | some k => rw [q] at post; exact ⟨k, tru_v a1.rel.stOk r1 q, post W1 H1 (.refl a1.rel)⟩
theorem w_and1 (h : TOk X tb Wx a ta) : WOk X tb Wx (.BoolOp .And [a] pos) ta := pw_and1 h
theorem w_or1 (h : TOk X tb Wx a ta) : WOk X tb Wx (.BoolOp .Or [a] pos) ta := pw_or1 h
theorem w_and (ha : TOk X tb Wx a ta) (hb : WOk X tb Wx (.BoolOp .And (b :: rest) pos) tc) : WOk X tb Wx (.BoolOp .And (a :: b :: rest) pos) (tAndM ta tc) :=
  PW_mono (pw_and ha hb) fun σ H Q ⟨Mx, W, env, st, rel, post⟩ => by
    refine tbindT rel post fun c s W1 H1 a1 post => ?_
    cases c with
    | true => rw [if_pos rfl] at post ⊢; exact ⟨Mx, W1, env, s, a1.rel, post⟩
    | false => rw [if_neg Bool.false_ne_true] at post ⊢; exact post W1 H1 (.refl a1.rel)
theorem w_or (ha : TOk X tb Wx a ta) (hb : WOk X tb Wx (.BoolOp .Or (b :: rest) pos) tc) : WOk X tb Wx (.BoolOp .Or (a :: b :: rest) pos) (tOrM ta tc) :=
  PW_mono (pw_or ha hb) fun σ H Q ⟨Mx, W, env, st, rel, post⟩ => by
    refine tbindT rel post fun c s W1 H1 a1 post => ?_
    cases c with
    | true => rw [if_pos rfl] at post ⊢; exact post W1 H1 (.refl a1.rel)
    | false => rw [if_neg Bool.false_ne_true] at post ⊢; exact ⟨Mx, W1, env, s, a1.rel, post⟩
theorem t_w (h : WOk X tb Wx a ta) : TOk X tb Wx a ta := PW.pt h
theorem t_not (ha : TOk X tb Wx a ta) : TOk X tb Wx (.UnaryOp .Not a pos) (tNotM ta) :=
  PT_mono (pt_not ha) fun σ H Q ⟨Mx, W, env, st, rel, post⟩ => tbindT rel post fun c s W1 H1 a1 post => post W1 H1 (.refl a1.rel)
theorem e_one {bo : BoolOp} (h : EOk X tb Wx md a m) : EOk X tb Wx md (.BoolOp bo [a] pos) m := pe_one h
theorem e_and (ha : EOk X tb Wx .F a ma) (hb : EOk X tb Wx .F (.BoolOp .And (b :: rest) pos) mb) : EOk X tb Wx .F (.BoolOp .And (a :: b :: rest) pos) (eAnd ma mb) :=
  PE_mono (pe_andT ha hb) fun σ H Q ⟨Mx, W, env, st, rel, post⟩ => by
    refine ebindE rel post fun v s W1 H1 w1 a1 r1 post => ?_
    split at post
    · rename_i q
      exact ⟨true, tru_v a1.rel.stOk (.inl r1) q, by rw [if_pos rfl]; exact ⟨Mx, W1, env, s, a1.rel, post⟩⟩
    · rename_i q
      exact ⟨false, tru_v a1.rel.stOk (.inl r1) q, by rw [if_neg Bool.false_ne_true]; exact post W1 H1 w1 (.refl a1.rel) r1⟩
    · exact post.elim
theorem e_or (ha : EOk X tb Wx .F a ma) (hb : EOk X tb Wx .F (.BoolOp .Or (b :: rest) pos) mb) : EOk X tb Wx .F (.BoolOp .Or (a :: b :: rest) pos) (eOr ma mb) :=
  PE_mono (pe_orT ha hb) fun σ H Q ⟨Mx, W, env, st, rel, post⟩ => by
    refine ebindE rel post fun v s W1 H1 w1 a1 r1 post => ?_
    split at post
    · rename_i q
      exact ⟨true, tru_v a1.rel.stOk (.inl r1) q, by rw [if_pos rfl]; exact post W1 H1 w1 (.refl a1.rel) r1⟩
    · rename_i q
      exact ⟨false, tru_v a1.rel.stOk (.inl r1) q, by rw [if_neg Bool.false_ne_true]; exact ⟨Mx, W1, env, s, a1.rel, post⟩⟩
    · exact post.elim
theorem e_not (ha : EOk X tb Wx .R a ma) : EOk X tb Wx .F (.UnaryOp .Not a pos) (eNot ma) :=
  PE_mono (pe_notT ha) fun σ H Q ⟨Mx, W, env, st, rel, post⟩ => by
    refine ebindE rel post fun v s W1 H1 w1 a1 r1 post => ?_
    split at post
    · rename_i k q
      exact ⟨k, tru_v a1.rel.stOk r1 q, post W1 H1 _ (.refl a1.rel) rm_bl⟩
    · exact post.elim
theorem e_if (hc : TOk X tb Wx c tc) (ha : EOk X tb Wx md a ma) (hb : EOk X tb Wx md b mb) : EOk X tb Wx md (.IfExp c a b pos) (eIf tc ma mb) :=
  PE_mono (pe_ifExp hc ha hb) fun σ H Q ⟨Mx, W, env, st, rel, post⟩ => by
    refine tbindE rel post fun k s W1 H1 a1 post => ?_
    cases k with
    | true => rw [if_pos rfl] at post ⊢; exact ⟨Mx, W1, env, s, a1.rel, post⟩
    | false => rw [if_neg Bool.false_ne_true] at post ⊢; exact ⟨Mx, W1, env, s, a1.rel, post⟩
def pNeg : PV → Option PV | .int i => some (.int (-i)) | _ => none
def mUn (g : PV → Option PV) (ma : EM) : EM := fun env st => bindR (ma env st) fun a s => optR (g a) s
theorem e_neg (ha : EOk X tb Wx .R a ma) : EOk X tb Wx .F (.UnaryOp .USub a pos) (mUn pNeg ma) :=
  PE_mono (pe_un un_neg ha) fun σ H Q ⟨Mx, W, env, st, rel, post⟩ => by
    refine ebindE rel post fun v s W1 H1 w1 a1 r1 post => ?_
    cases v with
    | int i => cases (RV.int r1); exact ⟨i, rfl, post W1 H1 _ (.refl a1.rel) rm_int⟩
    | _ => exact post.elim
end
def spM (K : PySem.W.Frag) (mg : Str → Option Value) (tb : Tbs) (n : Nat) (m : FM) : Sp := fun vs H Q E => ∃ (Mx : Addr → Prop) (W : List Addr) (st : Sto) (args : List PV), args.length = n ∧ Rel K tb Mx W [] H [] st ∧ RFs K (Mt Mx W [] []) W H args vs ∧
  match m args st with
  | .ok v st' => ∀ W' H' w, Rel K tb Mx W' [] H' [] st' → KB W H No W' H' No → RF K (Mt Mx W' [] []) W' H' v w → Q w H'
  | .exc x st' => ∀ W' H' cls d, Rel K tb Mx W' [] H' [] st' → KB W H No W' H' No → RX mg H' x cls d → E cls d H'
  | .bad => False
structure CalM (P : Program) (w : World) (K : PySem.W.Frag) (mg : Str → Option Value) (base : Heap) (tb : Tbs) (k : Nat) (x : Str) (n : Nat) (m : FM) : Prop where
  ex : ∃ f fd ps, FnOk P w K mg base (L2.CX P w) k f fd ps (spM K mg tb n m) ∧ mg x = some (.ref f) ∧ PySem.W.keepIn K (.ref f) = true ∧ Binds K fd ps []
def mCall (n : Nat) (m : FM) (ms : AM) : EM := fun env st => bindR (ms env st) fun vs s => if vs.length = n then m vs s else .bad
section
variable {X : Cx} {tb : Tbs} {Wx : WX} {e : Expr} {es : List Expr} {ms : AM} {pos p : Pos} {k j n : Nat} {x : Str} {m : FM}
theorem e_call (c : CalM X.prog X.w X.K X.mg X.base tb k x n m) (hr : Room j X.A) (hk : k ≤ j) (hg : Gl X x) (tk : Takes X Wx) (ha : AOk X tb Wx true (e :: es) ms)
    (hdb : (x == ("__debug__" : Str)) = false := by decide) (he : starEach (e :: es) X.env = (false, eval e X.env) :: starEach es X.env := by rfl) (hpl : (backTo pos (starEach es X.env)).any (·.1) = false := by rfl) :
    EOk X tb Wx .F (.Call (.Name x p) (e :: es) [] pos) (mCall n m ms) := by
  obtain ⟨f, fd, ps, F, hm, kp, hb⟩ := c.ex
  refine PE_mono (pe_callS F (hr.mono hk) hg hm kp hb (fun σ => passAt tk σ) ha hdb he hpl) fun σ H Q ⟨Mx, W, env, st, rel, post⟩ => ?_
  refine abindE rel post fun vs s W1 H1 ws a1 r1 post => ?_
  split at post
  · rename_i hl
    have r1' : RFs X.K (Mt Mx W1 env σ) W1 H1 vs ws := r1
    refine ⟨fun b => Mx b ∨ Om env σ b, W1, s, vs, hl, a1.rel.toCall, RFs.grow (Grow.less fun b z => Mt.call.mp z) _ r1', ?_⟩
    cases q : m vs s with
    | bad => rw [q] at post; exact post
    | ok v st' =>
      rw [q] at post
      exact fun W' H' w r' kb rf => post W' H' w (a1.rel.back r' kb) (RF.grow (Grow.less fun b z => Mt.call.mpr z) _ rf)
    | exc x st' =>
      rw [q] at post
      exact fun W' H' cls d r' kb rx => post W' H' cls d (a1.rel.back r' kb) rx
  · exact post.elim
end
end Mp
end
section
set_option maxRecDepth 100000
set_option maxHeartbeats 1000000
namespace Mp
open PySem PySem.Spec PyProof.Rows L2
section
variable {K : PySem.W.Frag} {mg : Str → Option Value} {tb : Tbs} {Mx M : Addr → Prop} {W W' W1 W0 : List Addr} {σ : L2.St} {H H' H1 H0 : Hp} {env : MEnv} {st st' st1 : Sto} {Wx : WX}
theorem Om.set {i : Nat} {v : EV} {w : Option V} {p : Addr} (h : Om (env.set i v) (σ.set i w) p) : Om env σ p ∨ (∃ o, v = .own o ∧ w = some (.ref p) ∧ i < env.length) := by
  obtain ⟨j, o, h1, h2⟩ := h
  by_cases e : i = j
  · subst e
    by_cases hi : i < env.length
    · rw [List.getElem?_set_self hi] at h1
      by_cases hs : i < σ.length
      · rw [List.getElem?_set_self hs] at h2
        exact .inr ⟨o, Option.some.inj h1, Option.some.inj h2, hi⟩
      · rw [List.getElem?_eq_none (by simpa using hs)] at h2; cases h2
    · rw [List.getElem?_eq_none (by simpa using hi)] at h1; cases h1
  · rw [List.getElem?_set_ne e] at h1 h2
    exact .inl ⟨j, o, h1, h2⟩
theorem Om.setPv {i : Nat} {v : EV} {w : Option V} {p : Addr} (nv : ∀ o, v ≠ .own o) (h : Om (env.set i v) (σ.set i w) p) : Om env σ p := by
  rcases Om.set h with h | ⟨o, e, _⟩
  · exact h
  · exact absurd e (nv o)
theorem Rel.setEv {i : Nat} {v : EV} {w : Option V} (r : Rel K tb Mx W σ H env st) (nv : ∀ o, v ≠ .own o) (hv : ∀ u, v = .pv u → ∃ x, w = some x ∧ RF K (Mt Mx W env σ) W H u x) : Rel K tb Mx W (σ.set i w) H (env.set i v) st := by
  have g : Grow (Mt Mx W env σ) (Mt Mx W (env.set i v) (σ.set i w)) W W H H := Grow.less fun b z => by
    rcases z with z | z | z
    · exact .inl z
    · exact .inr (.inl z)
    · exact .inr (.inr (z.setPv nv))
  have at_ : ∀ j u, (env.set i v)[j]? = some u → (i = j ∧ u = v ∧ j < env.length) ∨ (i ≠ j ∧ env[j]? = some u) := fun j u h => by
    by_cases e : i = j
    · subst e
      by_cases hi : i < env.length
      · rw [List.getElem?_set_self hi] at h; exact .inl ⟨rfl, (Option.some.inj h).symm, hi⟩
      · rw [List.getElem?_eq_none (by simpa using hi)] at h; cases h
    · rw [List.getElem?_set_ne e] at h; exact .inr ⟨e, h⟩
  refine ⟨r.tab, r.mx, r.nd, fun p h => ⟨(r.wo p h).1, fun z => (r.wo p h).2 (z.setPv nv)⟩, fun p h => r.om p (h.setPv nv), fun j k o o' p h1 h2 h3 h4 => ?_, by simp [r.el], r.len, fun j q u h1 h2 => (r.sto j q u h1 h2).grow g (fun _ e _ => e), fun j u h => ?_, fun j u h => ?_⟩
  · rcases at_ j _ h1 with ⟨_, e, _⟩ | ⟨n1, e1⟩
    · exact absurd e.symm (nv o)
    · rcases at_ k _ h3 with ⟨_, e, _⟩ | ⟨n2, e2⟩
      · exact absurd e.symm (nv o')
      · rw [List.getElem?_set_ne n1] at h2
        rw [List.getElem?_set_ne n2] at h4
        exact r.inj j k o o' p e1 h2 e2 h4
  · rcases at_ j _ h with ⟨rfl, e, hi⟩ | ⟨n1, e1⟩
    · obtain ⟨x, rfl, rf⟩ := hv u e.symm
      exact ⟨x, List.getElem?_set_self (by rw [← r.el]; exact hi), RF.grow g _ rf⟩
    · obtain ⟨x, e2, rf⟩ := r.pv j u e1
      exact ⟨x, by rw [List.getElem?_set_ne n1]; exact e2, RF.grow g _ rf⟩
  · rcases at_ j _ h with ⟨_, e, _⟩ | ⟨n1, e1⟩
    · exact absurd e.symm (nv u)
    · obtain ⟨x, e2, rf⟩ := r.own j u e1
      exact ⟨x, by rw [List.getElem?_set_ne n1]; exact e2, rf.grow g (fun _ e _ => e)⟩
theorem Rel.setPv {i : Nat} {v : PV} {w : V} (r : Rel K tb Mx W σ H env st) (rf : RF K (Mt Mx W env σ) W H v w) : Rel K tb Mx W (σ.set i (some w)) H (env.set i (.pv v)) st :=
  r.setEv (fun o z => nomatch z) fun u e => by cases e; exact ⟨w, rfl, rf⟩
theorem Rel.kill {i : Nat} (r : Rel K tb Mx W σ H env st) : Rel K tb Mx W σ H (env.set i .un) st := by
  by_cases hi : i < σ.length
  · have e : σ = σ.set i σ[i] := (List.set_getElem_self hi).symm
    have := r.setEv (i := i) (v := .un) (w := σ[i]) (fun o z => nomatch z) (fun u e => nomatch e)
    rw [← e] at this
    exact this
  · rw [List.set_eq_of_length_le (by rw [r.el]; omega)]; exact r
theorem Rel.setOwn {i : Nat} {o : PO} {p : Addr} (r : Rel K tb (fun b => Mx b ∨ b = p) W σ H env st) (nm : ¬ Mx p) (ro : RO K (Mt (fun b => Mx b ∨ b = p) W env σ) W H o p) : Rel K tb Mx W (σ.set i (some (.ref p))) H (env.set i (.own o)) st := by
  have hw : p ∉ W := fun z => (r.wo p z).1 (.inr rfl)
  have ho : ¬ Om env σ p := fun z => r.om p z (.inr rfl)
  have om : ∀ b, Om (env.set i (.own o)) (σ.set i (some (.ref p))) b → Om env σ b ∨ b = p := fun b z => by
    rcases Om.set z with z | ⟨_, _, e, _⟩
    · exact .inl z
    · cases e; exact .inr rfl
  have g : Grow (Mt (fun b => Mx b ∨ b = p) W env σ) (Mt Mx W (env.set i (.own o)) (σ.set i (some (.ref p)))) W W H H := Grow.less fun b z => by
    rcases z with z | z | z
    · exact .inl z
    · exact .inr (.inl (.inl z))
    · rcases om b z with z | z
      · exact .inr (.inr z)
      · exact .inr (.inl (.inr z))
  have at_ : ∀ j u, (env.set i (.own o))[j]? = some u → (i = j ∧ u = .own o ∧ j < env.length) ∨ (i ≠ j ∧ env[j]? = some u) := fun j u h => by
    by_cases e : i = j
    · subst e
      by_cases hi : i < env.length
      · rw [List.getElem?_set_self hi] at h; exact .inl ⟨rfl, (Option.some.inj h).symm, hi⟩
      · rw [List.getElem?_eq_none (by simpa using hi)] at h; cases h
    · rw [List.getElem?_set_ne e] at h; exact .inr ⟨e, h⟩
  have sat : ∀ {j : Nat}, j < env.length → (σ.set j (some (V.ref p)))[j]? = some (some (V.ref p)) := fun {j} hj => List.getElem?_set_self (by rw [← r.el]; exact hj)
  refine ⟨r.tab, fun b h => r.mx b (.inl h), r.nd, fun b h => ⟨fun z => (r.wo b h).1 (.inl z), fun z => ?_⟩, fun b h z => ?_, fun j k o1 o2 q h1 h2 h3 h4 => ?_, by simp [r.el], r.len, fun j q u h1 h2 => (r.sto j q u h1 h2).grow g (fun _ e _ => e), fun j u h => ?_, fun j u h => ?_⟩
  · rcases om b z with z | z
    · exact (r.wo b h).2 z
    · exact hw (z ▸ h)
  · rcases om b h with h | h
    · exact r.om b h (.inl z)
    · exact nm (h ▸ z)
  · rcases at_ j _ h1 with ⟨rfl, e, hj⟩ | ⟨n1, e1⟩
    · rw [sat hj] at h2
      rcases at_ k _ h3 with ⟨rfl, e', _⟩ | ⟨n2, e2⟩
      · rfl
      · rw [List.getElem?_set_ne n2] at h4
        cases h2
        exact absurd ⟨k, o2, e2, h4⟩ ho
    · rw [List.getElem?_set_ne n1] at h2
      rcases at_ k _ h3 with ⟨rfl, e', hk⟩ | ⟨n2, e2⟩
      · rw [sat hk] at h4
        cases h4
        exact absurd ⟨j, o1, e1, h2⟩ ho
      · rw [List.getElem?_set_ne n2] at h4
        exact r.inj j k o1 o2 q e1 h2 e2 h4
  · rcases at_ j _ h with ⟨rfl, e, _⟩ | ⟨n1, e1⟩
    · cases e
    · obtain ⟨x, e2, rf⟩ := r.pv j u e1
      exact ⟨x, by rw [List.getElem?_set_ne n1]; exact e2, RF.grow g _ rf⟩
  · rcases at_ j _ h with ⟨rfl, e, hj⟩ | ⟨n1, e1⟩
    · cases e
      exact ⟨p, sat hj, ro.grow g (fun _ e _ => e)⟩
    · obtain ⟨x, e2, rf⟩ := r.own j u e1
      exact ⟨x, by rw [List.getElem?_set_ne n1]; exact e2, rf.grow g (fun _ e _ => e)⟩
theorem Rel.frz {i : Nat} {xs : List PV} (r : Rel K tb Mx W σ H env st) (e : env[i]? = some (EV.own (.lst xs))) : Rel K tb Mx W σ H (env.set i (.pv (.lst xs))) st := by
  obtain ⟨p, e1, ws, e2, e3⟩ := r.own i _ e
  obtain ⟨hi, e1'⟩ := List.getElem?_eq_some_iff.mp e1
  have es : σ = σ.set i (some (.ref p)) := by rw [← e1']; exact (List.set_getElem_self hi).symm
  have r1 := r.kill (i := i)
  have np : ¬ Mt Mx W (env.set i .un) σ p := fun z => by
    rcases z with z | z | ⟨j, o, h1, h2⟩
    · exact (r.wo p z).2 ⟨i, _, e, e1⟩
    · exact r.om p ⟨i, _, e, e1⟩ z
    · by_cases q : i = j
      · subst q
        rw [List.getElem?_set_self (by rw [r.el]; exact hi)] at h1; cases h1
      · rw [List.getElem?_set_ne q] at h1
        exact q (r.inj i j _ _ p e e1 h1 h2)
  have rf : RF K (Mt Mx W (env.set i .un) σ) W H (.lst xs) (.ref p) := rf_lst (.inl ⟨.inl e2, np⟩) (RFs.grow (Grow.less fun b z => by
    rcases z with z | z | ⟨j, o, h1, h2⟩
    · exact .inl z
    · exact .inr (.inl z)
    · by_cases q : i = j
      · subst q
        rw [List.getElem?_set_self (by rw [r.el]; exact hi)] at h1; cases h1
      · rw [List.getElem?_set_ne q] at h1
        exact .inr (.inr ⟨j, o, h1, h2⟩)) _ e3)
  have r2 := r1.setPv (i := i) rf
  rw [← es, List.set_set] at r2
  exact r2
theorem Rel.putOwn {i : Nat} {o : PO} {xs : List PV} {ws : List V} {p : Addr} (r : Rel K tb Mx W σ H env st) (e : env[i]? = some (EV.own o)) (ep : σ[i]? = some (some (V.ref p))) (rs : RFs K (Mt Mx W env σ) W H xs ws) :
    Rel K tb Mx W σ (upd H p (.lst ws)) (env.set i (.own (.lst xs))) st ∧ KB W H (Om env σ) W (upd H p (.lst ws)) (Om (env.set i (.own (.lst xs))) σ) := by
  have hom : Om env σ p := ⟨i, o, e, ep⟩
  obtain ⟨hi, e1'⟩ := List.getElem?_eq_some_iff.mp ep
  have es : σ = σ.set i (some (.ref p)) := by rw [← e1']; exact (List.set_getElem_self hi).symm
  have hie : i < env.length := by rw [r.el]; exact hi
  have om : ∀ b, Om (env.set i (.own (.lst xs))) σ b → Om env σ b := fun b ⟨j, o', h1, h2⟩ => by
    by_cases q : i = j
    · subst q; rw [ep] at h2; cases h2; exact hom
    · rw [List.getElem?_set_ne q] at h1; exact ⟨j, o', h1, h2⟩
  have kp : ∀ b u, H b = some u → ¬ Om env σ b → upd H p (.lst ws) b = some u := fun b u h n => by rw [upd_ne (a := p) (b := b) (fun z => n (by rw [z]; exact hom))]; exact h
  have nt : ∀ b, H b ≠ none → upd H p (.lst ws) b ≠ none := fun b h => by
    by_cases q : b = p
    · rw [q, upd_same]; simp
    · rw [upd_ne q]; exact h
  have g : Grow (Mt Mx W env σ) (Mt Mx W (env.set i (.own (.lst xs))) σ) W W H (upd H p (.lst ws)) := ⟨fun b u h n _ => kp b u h fun z => n (.inr (.inr z)), fun b _ n z => n (by
    rcases z with z | z | z
    · exact .inl z
    · exact .inr (.inl z)
    · exact .inr (.inr (om b z))), List.prefix_refl _⟩
  have at_ : ∀ j u, (env.set i (.own (.lst xs)))[j]? = some u → (i = j ∧ u = .own (.lst xs)) ∨ (i ≠ j ∧ env[j]? = some u) := fun j u h => by
    by_cases q : i = j
    · subst q; rw [List.getElem?_set_self hie] at h; exact .inl ⟨rfl, (Option.some.inj h).symm⟩
    · rw [List.getElem?_set_ne q] at h; exact .inr ⟨q, h⟩
  refine ⟨⟨fun P hP => ?_, fun b h => nt b (r.mx b h), r.nd, fun b h => ⟨(r.wo b h).1, fun z => (r.wo b h).2 (om b z)⟩, fun b h => r.om b (om b h), fun j k o1 o2 q h1 h2 h3 h4 => ?_, by simp [r.el], r.len, fun j q u h1 h2 => ?_, fun j u h => ?_, fun j u h => ?_⟩,
    ⟨fun b u h _ n _ => kp b u h n, nt, List.prefix_refl _, fun _ h => .inl h, fun b h => .inl (om b h)⟩⟩
  · refine (r.tab P hP).keep fun b o h t => ?_
    rw [upd_ne (fun z => r.omL hom o (by rw [← z]; exact h) t)]
    exact h
  · have f : ∀ j o1, (env.set i (.own (.lst xs)))[j]? = some (EV.own o1) → ∃ o', env[j]? = some (EV.own o') := fun j o1 h => by
      rcases at_ j _ h with ⟨rfl, _⟩ | ⟨_, h⟩
      · exact ⟨o, e⟩
      · exact ⟨o1, h⟩
    obtain ⟨a1, b1⟩ := f j o1 h1
    obtain ⟨a2, b2⟩ := f k o2 h3
    exact r.inj j k a1 a2 q b1 h2 b2 h4
  · have hq : q ∈ W := List.mem_of_getElem? h1
    exact (r.sto j q u h1 h2).grow g fun x hx _ => kp q x hx fun z => (r.wo q hq).2 z
  · rcases at_ j _ h with ⟨_, z⟩ | ⟨n, z⟩
    · cases z
    · obtain ⟨x, e2, rf⟩ := r.pv j u z
      exact ⟨x, e2, RF.grow g _ rf⟩
  · rcases at_ j _ h with ⟨rfl, z⟩ | ⟨n, z⟩
    · cases z
      exact ⟨p, ep, ws, upd_same, RFs.grow g _ rs⟩
    · obtain ⟨x, e2, rf⟩ := r.own j u z
      refine ⟨x, e2, rf.grow g fun y hy _ => ?_⟩
      rw [upd_ne (fun q => by subst q; exact n (r.inj i j _ _ x e ep z e2))]
      exact hy
theorem Rel.putSto {n : Nat} {xs : List PV} {ws : List V} {p : Addr} (r : Rel K tb Mx W σ H env st) (hp : W[n]? = some p) (rs : RFs K (Mt Mx W env σ) W H xs ws) :
    Stp K tb Mx env σ W H W (upd H p (.lst ws)) (st.set n (.lst xs)) := by
  have hm : p ∈ W := List.mem_of_getElem? hp
  obtain ⟨hn, _⟩ := List.getElem?_eq_some_iff.mp hp
  have hns : n < st.length := by rw [← r.len]; exact hn
  have kp : ∀ b u, H b = some u → b ∉ W → upd H p (.lst ws) b = some u := fun b u h n => by rw [upd_ne (a := p) (b := b) (fun z => n (by rw [z]; exact hm))]; exact h
  have nt : ∀ b, H b ≠ none → upd H p (.lst ws) b ≠ none := fun b h => by
    by_cases q : b = p
    · rw [q, upd_same]; simp
    · rw [upd_ne q]; exact h
  have g : Grow (Mt Mx W env σ) (Mt Mx W env σ) W W H (upd H p (.lst ws)) := ⟨fun b u h n _ => kp b u h fun z => n (.inl z), fun b _ n => n, List.prefix_refl _⟩
  refine ⟨⟨fun P hP => ?_, fun b h => nt b (r.mx b h), r.nd, r.wo, r.om, r.inj, r.el, by simp [r.len], fun j q u h1 h2 => ?_, fun j u h => ?_, fun j u h => ?_⟩, fun b u h n _ => kp b u h n, nt, List.prefix_refl _, fun _ h => .inl h⟩
  · refine (r.tab P hP).keep fun b o h t => ?_
    rw [upd_ne (fun z => r.wL hm o (by rw [← z]; exact h) t)]
    exact h
  · by_cases q' : n = j
    · subst q'
      rw [hp] at h1; cases h1
      rw [List.getElem?_set_self hns] at h2; cases h2
      exact ⟨ws, upd_same, RFs.grow g _ rs⟩
    · rw [List.getElem?_set_ne q'] at h2
      refine (r.sto j q u h1 h2).grow g fun x hx _ => ?_
      rw [upd_ne (fun z => by
        subst z
        exact q' ((List.getElem?_inj hn r.nd).mp (hp.trans h1.symm)))]
      exact hx
  · obtain ⟨x, e2, rf⟩ := r.pv j u h
    exact ⟨x, e2, RF.grow g _ rf⟩
  · obtain ⟨x, e2, rf⟩ := r.own j u h
    exact ⟨x, e2, rf.grow g fun y hy _ => kp x y hy fun z => (r.wo x z).2 ⟨j, u, h, e2⟩⟩
end
end Mp
end
section
set_option maxRecDepth 100000
set_option maxHeartbeats 1000000
namespace Mp
open PySem PySem.Spec PyProof.Rows L2
def sNil : SM := fun env st => .nx env st
def sSeq (a b : SM) : SM := fun env st => match a env st with | .nx e s => b e s | r => r
def sSet (i : Nat) (m : EM) : SM := fun env st => bindF (m env st) fun v s => .nx (env.set i (.pv v)) s
def sSetO (i : Nat) (m : EM) : SM := fun env st => bindF (m env st) fun v s => match v with | .lst xs => .nx (env.set i (.own (.lst xs))) s | _ => .bad
def sRet (m : EM) : SM := fun env st => bindF (m env st) fun v s => .rt v s
def sExpr (m : EM) : SM := fun env st => bindF (m env st) fun _ s => .nx env s
def sIf (t : TM) (a b : SM) : SM := fun env st => bindF (t env st) fun c s => if c then a env s else b env s
def killE (ks : List Nat) (env : MEnv) : MEnv := ks.foldl (fun e i => e.set i .un) env
section
variable {K : PySem.W.Frag} {mg : Str → Option Value} {tb : Tbs} {Mx M : Addr → Prop} {W W' W1 W0 : List Addr} {σ : L2.St} {H H' H1 H0 : Hp} {env : MEnv} {st st' st1 : Sto} {Wx : WX}
theorem Om.setP {i : Nat} {v : PV} {w : Option V} {p : Addr} (h : Om (env.set i (.pv v)) (σ.set i w) p) : Om env σ p := h.setPv (v := .pv v) (fun o q => by cases q)
theorem Rel.kills : ∀ (ks : List Nat) {env : MEnv}, Rel K tb Mx W σ H env st → Rel K tb Mx W σ H (killE ks env) st
  | [], _, r => r
  | k :: ks, _, r => Rel.kills ks (r.kill (i := k))
theorem Om.kill {i : Nat} {p : Addr} (h : Om (env.set i .un) σ p) : Om env σ p := by
  obtain ⟨j, o, h1, h2⟩ := h
  by_cases e : i = j
  · subst e
    by_cases hi : i < env.length
    · rw [List.getElem?_set_self hi] at h1; cases h1
    · rw [List.getElem?_eq_none (by simpa using hi)] at h1; cases h1
  · rw [List.getElem?_set_ne e] at h1; exact ⟨j, o, h1, h2⟩
theorem Om.kills {p : Addr} : ∀ (ks : List Nat) {env : MEnv}, Om (killE ks env) σ p → Om env σ p
  | [], _, h => h
  | k :: ks, _, h => (Om.kills ks h).kill
theorem Om.frz {i : Nat} {v : PV} {p : Addr} (h : Om (env.set i (.pv v)) σ p) : Om env σ p := by
  obtain ⟨j, o, h1, h2⟩ := h
  by_cases e : i = j
  · subst e
    by_cases hi : i < env.length
    · rw [List.getElem?_set_self hi] at h1; cases h1
    · rw [List.getElem?_eq_none (by simpa using hi)] at h1; cases h1
  · rw [List.getElem?_set_ne e] at h1; exact ⟨j, o, h1, h2⟩
end
section
variable {X : Cx} {tb : Tbs} {Wx : WX} {a b c e : Expr} {es rest : List Expr} {ma mb mc m : EM} {ta tc : TM} {ms : AM} {pos pos' : Pos} {md : Md} {s1 : Stmt} {ss ss' : List Stmt} {m1 m2 : SM} {x : Str} {i : Nat}
theorem b_nil : BOk X tb Wx [] sNil := PSs_mono pss_nil fun D σ H ⟨Mx, W0, H0, O0, W, env, st, rel, kb, post⟩ => post σ W H rel kb
theorem b_one (h : SOk X tb Wx s1 m1) : BOk X tb Wx [s1] m1 := pss_one h
theorem b_cons (h1 : SOk X tb Wx s1 m1) (h2 : BOk X tb Wx ss m2) : BOk X tb Wx (s1 :: ss) (sSeq m1 m2) := PSs_mono (pss_cons h1 h2) fun D σ H ⟨Mx, W0, H0, O0, W, env, st, rel, kb, post⟩ => by
  refine ⟨Mx, W0, H0, O0, W, env, st, rel, kb, ?_⟩
  unfold sSeq at post
  cases q : m1 env st with
  | nx e' s' => rw [q] at post; exact fun σ' W' H' r k => ⟨Mx, W0, H0, O0, W', e', s', r, k, post⟩
  | rt v s' => rw [q] at post; exact post
  | bk e' s' => rw [q] at post; exact post
  | ct e' s' => rw [q] at post; exact post
  | ex x s' => rw [q] at post; exact post
  | bad => rw [q] at post; exact post
theorem s_expr (he : EOk X tb Wx md e m) (hs : swapsWith e none pos.line X.env = pure false := by rfl) : SOk X tb Wx (.Expr e pos) (sExpr m) := PS_mono (ps_expr he hs) fun D σ H ⟨Mx, W0, H0, O0, W, env, st, rel, kb, post⟩ =>
  ebindS rel kb post fun v s W1 H1 w a1 kb1 rm post => post σ W1 H1 a1.rel kb1
theorem s_ret (he : EOk X tb Wx .F e m) : SOk X tb Wx (.Return (some e) pos) (sRet m) := PS_mono (ps_ret he) fun D σ H ⟨Mx, W0, H0, O0, W, env, st, rel, kb, post⟩ =>
  ebindS rel kb post fun v s W1 H1 w a1 kb1 rm post => post W1 H1 w a1.rel.bare kb1.none (RF.grow (Grow.less fun _ z => z.bare) _ rm)
theorem s_if (hc : TOk X tb Wx c tc) (ha : BOk X tb Wx ss m1) (hb : BOk X tb Wx ss' m2) : SOk X tb Wx (.If c ss ss' pos) (sIf tc m1 m2) := PS_mono (ps_if hc ha hb) fun D σ H ⟨Mx, W0, H0, O0, W, env, st, rel, kb, post⟩ =>
  tbindS rel kb post fun k s W1 H1 a1 kb1 post => by
    cases k with
    | true => rw [if_pos rfl] at post ⊢; exact ⟨Mx, W0, H0, O0, W1, env, s, a1.rel, kb1, post⟩
    | false => rw [if_neg Bool.false_ne_true] at post ⊢; exact ⟨Mx, W0, H0, O0, W1, env, s, a1.rel, kb1, post⟩
theorem s_setOf {s1 : Stmt} (h : PS X s1 (tAsg (tM X.K X.mg tb Wx .F m) (gName i))) : SOk X tb Wx s1 (sSet i m) := PS_mono h fun D σ H ⟨Mx, W0, H0, O0, W, env, st, rel, kb, post⟩ =>
  ebindS rel kb post fun v s W1 H1 w a1 kb1 rm post => post _ W1 H1 (a1.rel.setPv rm) (kb1.less fun _ z => z.setP)
theorem s_set (hN : X.N.Nodup) (hi : X.N[i]? = some x) (hx : Loc X.env.scope x) (he : EOk X tb Wx .F e m) (hs : swapsWith e (some (.Name x pos')) pos.line X.env = pure false := by rfl) (hf : X.fn x = true ∨ X.env.scope.names.lookup x = some .local := by first | exact .inl rfl | exact .inr rfl | assumption) :
    SOk X tb Wx (.Assign [.Name x pos'] e pos) (sSet i m) := s_setOf (ps_set hN hi hx he hs hf)
theorem s_setOOf {s1 : Stmt} (h : PS X s1 (tAsg (tM X.K X.mg tb Wx .N m) (gName i))) : SOk X tb Wx s1 (sSetO i m) := PS_mono h fun D σ H ⟨Mx, W0, H0, O0, W, env, st, rel, kb, post⟩ =>
  ebindS rel kb post fun v s W1 H1 w a1 kb1 rm post => by
    obtain ⟨xs, p, ws, rfl, rfl, e3, nm, e4, r1, rs⟩ := rm
    refine post _ W1 H1 (r1.setOwn nm ⟨ws, e4, rs⟩) ⟨kb1.kp, kb1.nt, kb1.pre, kb1.fr, fun q z => ?_⟩
    rcases Om.set z with z | ⟨_, _, z, _⟩
    · exact kb1.om q z
    · cases z
      right
      cases y : H0 p with
      | none => rfl
      | some u => exact absurd e3 (kb.nt p (by rw [y]; simp))
theorem s_setO (hN : X.N.Nodup) (hi : X.N[i]? = some x) (hx : Loc X.env.scope x) (he : EOk X tb Wx .N e m) (hs : swapsWith e (some (.Name x pos')) pos.line X.env = pure false := by rfl) (hf : X.fn x = true ∨ X.env.scope.names.lookup x = some .local := by first | exact .inl rfl | exact .inr rfl | assumption) :
    SOk X tb Wx (.Assign [.Name x pos'] e pos) (sSetO i m) := s_setOOf (ps_set hN hi hx he hs hf)
end
section
variable {X : Cx}
end
structure Chg (is : List Nat) (env : MEnv) (σ : L2.St) (env' : MEnv) (σ' : L2.St) : Prop where
  len : σ'.length = σ.length
  at_ : ∀ j, j ∉ is → env'[j]? = env[j]? ∧ σ'[j]? = σ[j]?
theorem Chg.trans {is js : List Nat} {env env1 env2 : MEnv} {σ σ1 σ2 : L2.St} (a : Chg is env σ env1 σ1) (b : Chg js env1 σ1 env2 σ2) : Chg (is ++ js) env σ env2 σ2 := ⟨b.len.trans a.len, fun j hj => by
  have h1 := a.at_ j fun z => hj (List.mem_append_left _ z)
  have h2 := b.at_ j fun z => hj (List.mem_append_right _ z)
  exact ⟨h2.1.trans h1.1, h2.2.trans h1.2⟩⟩
def tG (K : PySem.W.Frag) (tb : Tbs) (is : List Nat) (gt : PV → MEnv → Option MEnv) : TG := fun v σ H Q => ∃ Mx W env st x env', Rel K tb Mx W σ H env st ∧ RF K (Mt Mx W env σ) W H x v ∧ gt x env = some env' ∧
  ∀ σ', Rel K tb Mx W σ' H env' st → (∀ p, Om env' σ' p → Om env σ p) → Chg is env σ env' σ' → Q σ' H
def tGs (K : PySem.W.Frag) (tb : Tbs) (is : List Nat) (gt : List PV → MEnv → Option MEnv) : TGs := fun vs σ H Q => ∃ Mx W env st xs env', Rel K tb Mx W σ H env st ∧ RFs K (Mt Mx W env σ) W H xs vs ∧ gt xs env = some env' ∧
  ∀ σ', Rel K tb Mx W σ' H env' st → (∀ p, Om env' σ' p → Om env σ p) → Chg is env σ env' σ' → Q σ' H
abbrev GOk (X : Cx) (tb : Tbs) (is : List Nat) (t : Expr) (gt : PV → MEnv → Option MEnv) : Prop := PG X t (tG X.K tb is gt)
abbrev GsOk (X : Cx) (tb : Tbs) (is : List Nat) (t : List Expr) (gt : List PV → MEnv → Option MEnv) : Prop := PGs X t (tGs X.K tb is gt)
theorem PG_mono {X : Cx} {e : Expr} {t t' : TG} (h : PG X e t) (i : ∀ v σ H Q, t' v σ H Q → t v σ H Q) : PG X e t' := ⟨fun pins s σ H v u Q I r q => h.run pins s σ H v u Q I r (i v σ H Q q)⟩
theorem PGs_mono {X : Cx} {e : List Expr} {t t' : TGs} (h : PGs X e t) (i : ∀ v σ H Q, t' v σ H Q → t v σ H Q) : PGs X e t' := ⟨fun pins s σ H v u Q I r q => h.run pins s σ H v u Q I r (i v σ H Q q)⟩
def gNm (i : Nat) : PV → MEnv → Option MEnv := fun x env => some (env.set i (.pv x))
def gNilM : List PV → MEnv → Option MEnv := fun xs env => match xs with | [] => some env | _ => none
def gConsM (g : PV → MEnv → Option MEnv) (gs : List PV → MEnv → Option MEnv) : List PV → MEnv → Option MEnv := fun xs env => match xs with | x :: r => (g x env).bind fun e => gs r e | [] => none
def gTp (n : Nat) (gs : List PV → MEnv → Option MEnv) : PV → MEnv → Option MEnv := fun x env => match x with | .tup xs => if xs.length = n then gs xs env else none | .lst xs => if xs.length = n then gs xs env else none | _ => none
section
variable {X : Cx} {tb : Tbs} {Wx : WX} {e : Expr} {es : List Expr} {pos : Pos} {x : Str} {i : Nat} {g : PV → MEnv → Option MEnv} {gs : List PV → MEnv → Option MEnv} {m : EM} {is js : List Nat}
theorem g_name (hN : X.N.Nodup) (hi : X.N[i]? = some x) (hx : Loc X.env.scope x) (hf : X.fn x = true ∨ X.env.scope.names.lookup x = some .local := by first | exact .inl rfl | exact .inr rfl | assumption) : GOk X tb [i] (.Name x pos) (gNm i) :=
  PG_mono (pg_name hN hi hx hf) fun v σ H Q ⟨Mx, W, env, st, y, env', rel, rf, eg, k⟩ => by
    cases eg
    refine k _ (rel.setPv rf) (fun p z => z.setP) ⟨List.length_set .., fun j hj => ?_⟩
    have n : i ≠ j := fun e => hj (by rw [e]; exact List.mem_singleton.mpr rfl)
    exact ⟨List.getElem?_set_ne n, List.getElem?_set_ne n⟩
theorem gs_nil : GsOk X tb [] [] gNilM := PGs_mono pgs_nil fun v σ H Q ⟨Mx, W, env, st, y, env', rel, rf, eg, k⟩ => by
  unfold gNilM at eg
  split at eg
  · cases eg
    exact ⟨rf.nil_inv, k σ rel (fun _ z => z) ⟨rfl, fun _ _ => ⟨rfl, rfl⟩⟩⟩
  · cases eg
theorem gs_cons (h1 : GOk X tb is e g) (h2 : GsOk X tb js es gs) (hs : (assignEach (e :: es) X.env).map (·.2) = assign e X.env :: (assignEach es X.env).map (·.2) := by rfl) : GsOk X tb (is ++ js) (e :: es) (gConsM g gs) :=
  PGs_mono (pgs_cons h1 h2 hs) fun v σ H Q ⟨Mx, W, env, st, ys, env', rel, rf, eg, k⟩ => by
    unfold gConsM at eg
    split at eg
    · rename_i y r
      obtain ⟨w, ws, rfl, r1, r2⟩ := rf.inv
      cases q : g y env with
      | none => rw [q] at eg; cases eg
      | some e1 =>
        rw [q] at eg
        refine ⟨w, ws, rfl, Mx, W, env, st, y, e1, rel, r1, q, fun σ1 rel1 om1 c1 => ?_⟩
        refine ⟨Mx, W, e1, st, r, env', rel1, RFs.grow (Grow.less fun b z => ?_) _ r2, eg, fun σ2 rel2 om2 c2 => k σ2 rel2 (fun p z => om1 p (om2 p z)) (c1.trans c2)⟩
        rcases z with z | z | z
        · exact .inl z
        · exact .inr (.inl z)
        · exact .inr (.inr (om1 b z))
    · cases eg
theorem pg_seq {kk n : Nat} {t : TGs} (hc : X.calm = true) (h : PGs X es t) (hn : (assignEach es X.env).length = n := by rfl) (hst : (assignEach es X.env).findIdx? (·.1) = none := by rfl) :
    PG X (.Tuple es kk pos) (fun v σ H Q => gTup X.K n t v σ H Q ∨ gLst X.K n t v σ H Q) :=
  ⟨fun pins s σ H v u Q I r hw => hw.elim (fun hw => (pg_tup hc h hn hst).run pins s σ H v u Q I r hw) fun hw => (pg_lst hc h hn hst).run pins s σ H v u Q I r hw⟩
theorem g_tup {kk n : Nat} (hc : X.calm = true) (h : GsOk X tb is es gs) (hn : (assignEach es X.env).length = n := by rfl) (hst : (assignEach es X.env).findIdx? (·.1) = none := by rfl) : GOk X tb is (.Tuple es kk pos) (gTp n gs) :=
  PG_mono (pg_seq hc h hn hst) fun v σ H Q ⟨Mx, W, env, st, y, env', rel, rf, eg, k⟩ => by
    unfold gTp at eg
    split at eg
    · split at eg
      · rename_i xs hl
        unfold RF at rf
        obtain ⟨p, ws, rfl, h1, h2⟩ := rf
        exact .inl ⟨p, ws, rfl, h1.sq, h2.len.trans hl, Mx, W, env, st, xs, env', rel, h2, eg, k⟩
      · cases eg
    · split at eg
      · rename_i xs hl
        unfold RF at rf
        obtain ⟨p, ws, rfl, h1, h2⟩ := rf
        exact .inr ⟨p, ws, rfl, h1.sq, h2.len.trans hl, Mx, W, env, st, xs, env', rel, h2, eg, k⟩
      · cases eg
    · cases eg
def sAsg (g : PV → MEnv → Option MEnv) (m : EM) : SM := fun env st => bindF (m env st) fun v s => match g v env with | some e => .nx e s | none => .bad
theorem s_asg {tg : Expr} (he : EOk X tb Wx .F e m) (hg : GOk X tb is tg g) (hs : swapsWithSole [tg] e pos.line X.env = pure false := by rfl) (hw : swappedStores [tg] e X.env = pure none := by rfl)
    (h1 : (assignEach [tg] X.env).map (·.2) = [assign tg X.env] := by rfl) : SOk X tb Wx (.Assign [tg] e pos) (sAsg g m) := PS_mono (ps_asg he hg hs hw h1) fun D σ H ⟨Mx, W0, H0, O0, W, env, st, rel, kb, post⟩ =>
  ebindS rel kb post fun v s W1 H1 w a1 kb1 rm post => by
    split at post
    · rename_i e' q
      exact ⟨Mx, W1, env, s, v, e', a1.rel, rm, q, fun σ' r' om _ => post σ' W1 H1 r' (kb1.less om)⟩
    · exact post.elim
end
structure WlkI (K : PySem.W.Frag) (J : It) (xs : List PV) (M : Addr → Prop) (W : List Addr) (H : Hp) : Prop where
  go : ∀ (i : Nat) (M' : Addr → Prop) (W' : List Addr) (H' : Hp), Grow M M' W W' H H' → i < xs.length → J.go i H'
  yl : ∀ (i : Nat) (M' : Addr → Prop) (W' : List Addr) (H' : Hp) (x : V) (H2 : Hp) (y : PV), Grow M M' W W' H H' → (∀ p, M' p → H' p ≠ none) → xs[i]? = some y → J.yld i H' x H2 → Al H' H2 ∧ RF K M' W' H2 y x
  st : ∀ (M' : Addr → Prop) (W' : List Addr) (H' : Hp), Grow M M' W W' H H' → J.stop xs.length H'
def IPost (K : PySem.W.Frag) (mg : Str → Option Value) (tb : Tbs) (Mx : Addr → Prop) (W : List Addr) (σ : L2.St) (H : Hp) (env : MEnv) (Wx : WX) (r : MRes (List PV)) (R : It → Hp → Prop) : Prop := match r with
  | .ok xs st' => ∀ W' H' J, Stp K tb Mx env σ W H W' H' st' → WlkI K J xs (Mt Mx W' env σ) W' H' → R J H'
  | .exc x st' => ∀ W' H' cls d, Stp K tb Mx env σ W H W' H' st' → RX mg H' x cls d → Wx cls d σ H'
  | .bad => False
def tI (K : PySem.W.Frag) (mg : Str → Option Value) (tb : Tbs) (Wx : WX) (m : AM) : TI := fun σ H R => ∃ Mx W env st, Rel K tb Mx W σ H env st ∧ IPost K mg tb Mx W σ H env Wx (m env st) R
abbrev IOk (X : Cx) (tb : Tbs) (Wx : WX) (tg it : Expr) (m : AM) : Prop := PI X tg it (tI X.K X.mg tb Wx m)
theorem PI_mono {X : Cx} {tg e : Expr} {t t' : TI} (h : PI X tg e t) (i : ∀ σ H R, t' σ H R → t σ H R) : PI X tg e t' := ⟨fun pins s σ H R I q => h.run pins s σ H R I (i σ H R q)⟩
theorem PI_or {X : Cx} {tg e : Expr} {t t' : TI} (h : PI X tg e t) (h' : PI X tg e t') : PI X tg e (fun σ H R => t σ H R ∨ t' σ H R) := ⟨fun pins s σ H R I q => q.elim (h.run pins s σ H R I) (h'.run pins s σ H R I)⟩
def forL (gt : PV → MEnv → Option MEnv) (body : SM) (ks : List Nat) : List PV → MEnv → Sto → MFlow
  | [], env, st => .nx env st
  | x :: xs, env, st => match gt x env with
    | none => .bad
    | some e1 => match body e1 st with
      | .nx e s => forL gt body ks xs (killE ks e) s
      | .ct e s => forL gt body ks xs (killE ks e) s
      | .bk e s => .nx (killE ks e) s
      | .rt v s => .rt v s
      | .ex x s => .ex x s
      | .bad => .bad
def sFor (mi : AM) (gt : PV → MEnv → Option MEnv) (body : SM) (ks : List Nat) : SM := fun env st => bindF (mi env st) fun xs s => forL gt body ks xs env s
def whileL (tc : TM) (body : SM) (ks : List Nat) : Nat → MEnv → Sto → MFlow
  | 0, _, _ => .bad
  | n + 1, env, st => bindF (tc env st) fun c s => if c then (match body env s with
      | .nx e s => whileL tc body ks n (killE ks e) s
      | .ct e s => whileL tc body ks n (killE ks e) s
      | .bk e s => .nx (killE ks e) s
      | .rt v s => .rt v s
      | .ex x s => .ex x s
      | .bad => .bad) else .nx env s
def sWhile (n : Nat) (tc : TM) (body : SM) (ks : List Nat) : SM := fun env st => whileL tc body ks n env st
section
variable {X : Cx} {tb : Tbs} {Wx : WX} {tg it c : Expr} {pos : Pos} {g : PV → MEnv → Option MEnv} {mi : AM} {ss : List Stmt} {body : SM} {tc : TM} {ks is : List Nat}
theorem s_for (hp : PassesOwn (model X.prog X.w) X.A X.env X.xe) (hc : X.calm = true) (hi : IOk X tb Wx tg it mi) (hg : GOk X tb is tg g) (hb : BOk X tb Wx ss body) (ks : List Nat) (hs : ∀ x, foldedSetIterable it X.env x = pure x := by intro _; rfl) : SOk X tb Wx (.For tg it ss [] pos) (sFor mi g body ks) :=
  PS_mono (ps_for hp hc hi hg hb hs) fun D σ H ⟨Mx, W0, H0, O0, W, env, st, rel, kb, post⟩ => by
    refine ⟨Mx, W, env, st, rel, ?_⟩
    unfold sFor at post
    cases qi : mi env st with
    | bad => rw [qi] at post; exact post
    | exc x s => rw [qi] at post; exact fun W1 H1 cls d a rx => post σ W1 H1 cls d a.rel.bare (kb.trans a.kb).none rx
    | ok xs s =>
      rw [qi] at post
      intro W1 H1 J a1 wk
      have kb1 : KB W0 H0 O0 W1 H1 (Om env σ) := kb.trans a1.kb
      refine ⟨fun i n σ' H' => ∃ W' env' st', Rel X.K tb Mx W' σ' H' env' st' ∧ KB W1 H1 (Om env σ) W' H' (Om env' σ') ∧ i + n = xs.length ∧ SPost X.K X.mg tb Mx W0 H0 O0 Wx (forL g body ks (xs.drop i) env' st') D,
        ⟨xs.length, W1, env, s, a1.rel, .refl, Nat.zero_add _, post⟩, fun i n σ' H' ⟨W', env', st', rel', kb', en, post'⟩ => ?_⟩
      have gr := kb'.grow (Mx := Mx)
      by_cases hi : i < xs.length
      · refine .inr ⟨wk.go i _ _ _ gr hi, fun σ2 H2 => ∃ W' env' st', Rel X.K tb Mx W' σ2 H2 env' st' ∧ KB W1 H1 (Om env σ) W' H2 (Om env' σ2) ∧ SPost X.K X.mg tb Mx W0 H0 O0 Wx (forL g body ks (xs.drop (i + 1)) env' st') D,
          fun σ2 H2 ⟨W2, env2, st2, r2, k2, p2⟩ => ⟨n - 1, by omega, W2, env2, st2, r2, k2, by omega, p2⟩, fun x H2 hy => ?_⟩
        have hx : xs[i]? = some xs[i] := List.getElem?_eq_getElem hi
        obtain ⟨al, rf⟩ := wk.yl i _ _ _ x H2 xs[i] gr (fun p z => rel'.mtS z) hx hy
        have a2 := al.stp rel'
        rw [List.drop_eq_getElem_cons hi] at post'
        simp only [forL] at post'
        cases qg : g xs[i] env' with
        | none => rw [qg] at post'; exact post'.elim
        | some e1 =>
          rw [qg] at post'
          refine ⟨Mx, W', env', st', xs[i], e1, a2.rel, rf, qg, fun σ3 r3 om3 _ => ?_⟩
          have kb3 : KB W1 H1 (Om env σ) W' H2 (Om e1 σ3) := (kb'.trans a2.kb).less om3
          refine ⟨Mx, W1, H1, Om env σ, W', e1, st', r3, kb3, ?_⟩
          dsimp only at post'
          cases qb : body e1 st' with
          | nx e' s' => rw [qb] at post'; exact fun σ4 W4 H4 r4 k4 => ⟨W4, _, s', r4.kills ks, k4.less fun _ z => Om.kills ks z, post'⟩
          | ct e' s' => rw [qb] at post'; exact fun σ4 W4 H4 r4 k4 => ⟨W4, _, s', r4.kills ks, k4.less fun _ z => Om.kills ks z, post'⟩
          | bk e' s' => rw [qb] at post'; exact fun σ4 W4 H4 r4 k4 => post' σ4 W4 H4 (r4.kills ks) (kb1.trans (k4.less fun _ z => Om.kills ks z))
          | rt v s' => rw [qb] at post'; exact fun W4 H4 w r4 k4 rf4 => post' W4 H4 w r4 (kb1.trans k4) rf4
          | ex x s' => rw [qb] at post'; exact fun σ4 W4 H4 cls d r4 k4 rx => post' σ4 W4 H4 cls d r4 (kb1.trans k4) rx
          | bad => rw [qb] at post'; exact post'
      · have e : i = xs.length := by omega
        subst e
        refine .inl ⟨wk.st _ _ _ gr, ?_⟩
        rw [List.drop_length] at post'
        exact post' σ' W' H' rel' (kb1.trans kb')
theorem s_while (n : Nat) (hp : PassesOwn (model X.prog X.w) X.A X.env X.xe) (hc : TOk X tb Wx c tc) (hb : BOk X tb Wx ss body) (ks : List Nat) : SOk X tb Wx (.While c ss [] pos) (sWhile n tc body ks) :=
  PS_mono (ps_while hp hc hb) fun D σ H ⟨Mx, W0, H0, O0, W, env, st, rel, kb, post⟩ => by
    refine ⟨fun m σ' H' => ∃ W' env' st', Rel X.K tb Mx W' σ' H' env' st' ∧ KB W0 H0 O0 W' H' (Om env' σ') ∧ SPost X.K X.mg tb Mx W0 H0 O0 Wx (whileL tc body ks m env' st') D, ⟨n, W, env, st, rel, kb, post⟩, fun m σ' H' ⟨W', env', st', rel', kb', post'⟩ => ?_⟩
    cases m with
    | zero => exact post'.elim
    | succ m =>
      simp only [whileL] at post'
      refine tbindS rel' kb' post' fun k s W1 H1 a1 kb1 post1 => ?_
      cases k with
      | false =>
        rw [if_neg Bool.false_ne_true] at post1 ⊢
        exact post1 σ' W1 H1 a1.rel kb1
      | true =>
        rw [if_pos rfl] at post1 ⊢
        refine ⟨fun σ2 H2 => ∃ W' env' st', Rel X.K tb Mx W' σ2 H2 env' st' ∧ KB W0 H0 O0 W' H2 (Om env' σ2) ∧ SPost X.K X.mg tb Mx W0 H0 O0 Wx (whileL tc body ks m env' st') D, fun σ2 H2 h => ⟨m, Nat.lt_succ_self m, h⟩, ?_⟩
        refine ⟨Mx, W0, H0, O0, W1, env', s, a1.rel, kb1, ?_⟩
        cases qb : body env' s with
        | nx e' s' => rw [qb] at post1; exact fun σ4 W4 H4 r4 k4 => ⟨W4, _, s', r4.kills ks, k4.less fun _ z => Om.kills ks z, post1⟩
        | ct e' s' => rw [qb] at post1; exact fun σ4 W4 H4 r4 k4 => ⟨W4, _, s', r4.kills ks, k4.less fun _ z => Om.kills ks z, post1⟩
        | bk e' s' => rw [qb] at post1; exact fun σ4 W4 H4 r4 k4 => post1 σ4 W4 H4 (r4.kills ks) (k4.less fun _ z => Om.kills ks z)
        | rt v s' => rw [qb] at post1; exact post1
        | ex x s' => rw [qb] at post1; exact post1
        | bad => rw [qb] at post1; exact post1
end
end Mp
end
section
set_option maxRecDepth 100000
set_option maxHeartbeats 1000000
namespace Mp
open PySem PySem.Spec PyProof.Rows L2
def iSeq (m : EM) : AM := fun env st => bindR (m env st) fun v s => match v with | .lst xs => .ok xs s | .tup xs => .ok xs s | _ => .bad
def rangeL (lo : Int) (n : Nat) : List PV := (List.range n).map fun (k : Nat) => .int (lo + (k : Int))
def rgOk (i : Int) : Bool := decide (-1000000000000000 ≤ i) && decide (i ≤ 1000000000000000)
def iRng1M (ms : AM) : AM := fun env st => bindR (ms env st) fun vs s => match vs with | [.int j] => if rgOk j then .ok (rangeL 0 j.toNat) s else .bad | _ => .bad
def iRng2M (ms : AM) : AM := fun env st => bindR (ms env st) fun vs s => match vs with | [.int i, .int j] => if rgOk i && rgOk j then .ok (rangeL i (j - i).toNat) s else .bad | _ => .bad
section
variable {K : PySem.W.Frag} {M M' : Addr → Prop} {W W' : List Addr} {H H' : Hp}
theorem wlk_list {p : Addr} {xs : List PV} {ws : List V} (h : FzL K M H p ws) (r : RFs K M W H xs ws) : WlkI K (Itl K p) xs M W H where
  go := fun i M' W' H' g hi => by
    have hl := r.len
    exact ⟨ws, ws[i]'(by omega), (g.fzL h).sq, List.getElem?_eq_getElem _⟩
  yl := fun i M' W' H' x H2 y g hm hy ⟨e, f⟩ => by
    subst e
    obtain ⟨y', e1, rf⟩ := (RFs.grow g _ r).getr (f ws (g.fzL h).sq)
    rw [hy] at e1; cases e1
    exact ⟨.inl rfl, rf⟩
  st := fun M' W' H' g => ⟨ws, (g.fzL h).sq, Nat.le_of_eq r.len⟩
theorem wlk_tup {p : Addr} {xs : List PV} {ws : List V} (h : FzT K M H p ws) (r : RFs K M W H xs ws) : WlkI K (Itt K p) xs M W H where
  go := fun i M' W' H' g hi => by
    have hl := r.len
    exact ⟨ws, ws[i]'(by omega), (g.fzT h).sq, List.getElem?_eq_getElem _⟩
  yl := fun i M' W' H' x H2 y g hm hy ⟨e, f⟩ => by
    subst e
    obtain ⟨y', e1, rf⟩ := (RFs.grow g _ r).getr (f ws (g.fzT h).sq)
    rw [hy] at e1; cases e1
    exact ⟨.inl rfl, rf⟩
  st := fun M' W' H' g => ⟨ws, (g.fzT h).sq, Nat.le_of_eq r.len⟩
theorem wlk_rng {lo : Int} {n : Nat} : WlkI K (Itr lo n) (rangeL lo n) M W H where
  go := fun i M' W' H' g hi => by
    have : i < n := by simpa [rangeL] using hi
    exact this
  yl := fun i M' W' H' x H2 y g hm hy ⟨e, f⟩ => by
    subst e
    subst f
    refine ⟨.inl rfl, ?_⟩
    unfold rangeL at hy
    rw [List.getElem?_map] at hy
    cases q : (List.range n)[i]? with
    | none => rw [q] at hy; cases hy
    | some k =>
      rw [q] at hy
      obtain ⟨hk, e⟩ := List.getElem?_eq_some_iff.mp q
      simp at e
      subst e
      cases hy
      exact rf_int
  st := fun M' W' H' g => by show n ≤ _; simp [rangeL]
end
section
variable {X : Cx} {tb : Tbs} {Wx : WX} {tg l a b : Expr} {m : EM} {ms : AM} {p pos : Pos}
theorem i_seq (h : EOk X tb Wx .F l m) : IOk X tb Wx tg l (iSeq m) := PI_mono (PI_or (pi_list h) (pi_tup h)) fun σ H R ⟨Mx, W, env, st, rel, post⟩ => by
  unfold iSeq at post
  cases q : m env st with
  | bad => rw [q] at post; exact post.elim
  | exc x s => rw [q] at post; exact .inl ⟨Mx, W, env, st, rel, by rw [q]; exact post⟩
  | ok v s =>
    rw [q] at post
    cases v with
    | lst xs =>
      refine .inl ⟨Mx, W, env, st, rel, ?_⟩
      rw [q]
      intro W' H' w a rm
      have rm' : RF X.K (Mt Mx W' env σ) W' H' (.lst xs) w := rm
      unfold RF at rm'
      obtain ⟨p, ws, rfl, h1, h2⟩ := rm'
      exact ⟨p, rfl, ⟨ws, h1.sq⟩, post W' H' _ a (wlk_list h1 h2)⟩
    | tup xs =>
      refine .inr ⟨Mx, W, env, st, rel, ?_⟩
      rw [q]
      intro W' H' w a rm
      have rm' : RF X.K (Mt Mx W' env σ) W' H' (.tup xs) w := rm
      unfold RF at rm'
      obtain ⟨p, ws, rfl, h1, h2⟩ := rm'
      exact ⟨p, rfl, ⟨ws, h1.sq⟩, post W' H' _ a (wlk_tup h1 h2)⟩
    | non => exact post.elim
    | bl _ => exact post.elim
    | int _ => exact post.elim
    | str _ => exact post.elim
    | ref _ => exact post.elim
    | fn _ => exact post.elim
    | dct _ _ => exact post.elim
    | nti _ => exact post.elim
theorem rgOk_ok {i : Int} (h : rgOk i = true) : -(2 ^ 62) ≤ i ∧ i < 2 ^ 62 := by
  unfold rgOk at h
  rw [Bool.and_eq_true] at h
  have h1 := of_decide_eq_true h.1
  have h2 := of_decide_eq_true h.2
  constructor <;> omega
theorem RVs1 {K : PySem.W.Frag} {M : Addr → Prop} {W : List Addr} {H : Hp} {v : PV} {ws : List V} (h : RMs K W H false M [v] ws) : ∃ w, ws = [w] ∧ RV K M W H v w := by
  cases (show Paired (RV K M W H) [v] ws from h) with
  | cons a b => cases b; exact ⟨_, rfl, a⟩
theorem RVs2 {K : PySem.W.Frag} {M : Addr → Prop} {W : List Addr} {H : Hp} {v u : PV} {ws : List V} (h : RMs K W H false M [v, u] ws) : ∃ w y, ws = [w, y] ∧ RV K M W H v w ∧ RV K M W H u y := by
  cases (show Paired (RV K M W H) [v, u] ws from h) with
  | cons a b =>
    cases b with
    | cons c d => cases d; exact ⟨_, _, rfl, a, c⟩
theorem i_range1 (hg : Gl X "range") (hm : X.mg "range" = none) (ha : AOk X tb Wx false [a] ms) (hs : starEach [a] X.env = [(false, eval a X.env)] := by rfl) : IOk X tb Wx tg (.Call (.Name "range" p) [a] [] pos) (iRng1M ms) :=
  PI_mono (pi_range1 hg hm ha hs) fun σ H R ⟨Mx, W, env, st, rel, post⟩ => by
    refine ⟨Mx, W, env, st, rel, ?_⟩
    unfold iRng1M at post
    cases q : ms env st with
    | bad => rw [q] at post; exact post.elim
    | exc x s => rw [q] at post; exact post
    | ok vs s =>
      rw [q] at post
      intro W' H' ws a1 rm
      simp only [bindR] at post
      split at post
      · split at post
        · rename_i j hj
          obtain ⟨w, rfl, r⟩ := RVs1 rm
          cases r.int
          exact ⟨j, rfl, (rgOk_ok hj).1, (rgOk_ok hj).2, post W' H' _ a1 wlk_rng⟩
        · exact post.elim
      · exact post.elim
end
def bindX {α β : Type} (r : MRes α) (f : α → Sto → MRes β) : MRes β := match r with
  | .ok a s => f a s
  | _ => .bad
def noOwn (vs : List Nat) (env : MEnv) : Bool := vs.all fun i => match env[i]? with | some (.own _) => false | _ => true
def compL (gt : PV → MEnv → Option MEnv) (tc : TM) (me : EM) : List PV → MEnv → Sto → MRes (List PV)
  | [], _, st => .ok [] st
  | x :: xs, env, st => match gt x env with
    | none => .bad
    | some e1 => bindX (tc e1 st) fun c s => if c then bindX (me e1 s) fun v s' => bindX (compL gt tc me xs env s') fun r s'' => .ok (v :: r) s'' else compL gt tc me xs env s
def mComp (mi : AM) (gt : PV → MEnv → Option MEnv) (tc : TM) (me : EM) (vs : List Nat) : EM := fun env st => bindR (mi env st) fun xs s => if noOwn vs env && decide (xs.length ≤ 1000000) then
  bindX (compL gt tc me xs (killE vs env) s) fun r s' => .ok (.lst r) s' else .bad
def tYesM : TM := fun _ st => .ok true st
section
variable {K : PySem.W.Frag} {mg : Str → Option Value} {tb : Tbs} {Mx M : Addr → Prop} {W W' W1 W0 : List Addr} {σ σ' : L2.St} {H H' H1 H0 : Hp} {env env' : MEnv} {st st' st1 : Sto} {Wx : WX}
theorem Rel.wipe1 {i : Nat} (r : Rel K tb Mx W σ H env st) : Rel K tb Mx W (σ.set i none) H (env.set i .un) st := r.setEv (fun o z => nomatch z) fun u e => nomatch e
theorem killE_set : ∀ (ks : List Nat) (i : Nat) (env : MEnv), killE ks (env.set i .un) = (killE ks env).set i .un
  | [], i, env => rfl
  | k :: ks, i, env => by
    show killE ks ((env.set i .un).set k .un) = (killE ks (env.set k .un)).set i .un
    rw [← killE_set ks i (env.set k .un)]
    congr 1
    by_cases e : i = k
    · subst e; rfl
    · exact List.set_comm _ _ e
theorem Rel.wipes : ∀ (vs : List Nat), Rel K tb Mx W σ H env st → Rel K tb Mx W (wipe σ vs) H (killE vs env) st
  | [], r => r
  | v :: vs, r => by
    have := (Rel.wipes vs r).wipe1 (i := v)
    rw [← killE_set vs v env] at this
    exact this
theorem killE_at : ∀ (ks : List Nat) (env : MEnv) (j : Nat), j ∉ ks → (killE ks env)[j]? = env[j]?
  | [], _, _, _ => rfl
  | k :: ks, env, j, h => by
    show (killE ks (env.set k .un))[j]? = _
    rw [killE_at ks _ j (fun z => h (List.mem_cons_of_mem _ z)), List.getElem?_set_ne (fun e => h (by rw [e]; exact List.mem_cons_self))]
theorem killE_un : ∀ (ks : List Nat) (env : MEnv) (j : Nat) (u : EV), j ∈ ks → (killE ks env)[j]? = some u → u = .un
  | k :: ks, env, j, u, h, e => by
    have e' : (killE ks (env.set k .un))[j]? = some u := e
    by_cases hj : j ∈ ks
    · exact killE_un ks _ j u hj e'
    · rw [killE_at ks _ j hj] at e'
      rcases List.mem_cons.mp h with rfl | h
      · by_cases hl : j < env.length
        · rw [List.getElem?_set_self hl] at e'; exact (Option.some.inj e').symm
        · rw [List.getElem?_eq_none (by simpa using hl)] at e'; cases e'
      · exact absurd h hj
theorem wipe_at : ∀ {vs : List Nat} {j : Nat}, j ∉ vs → (wipe σ vs)[j]? = σ[j]? := fun h => wipe_out h
theorem om_wipe {vs : List Nat} (h : noOwn vs env = true) {p : Addr} : Om (killE vs env) (wipe σ vs) p ↔ Om env σ p := by
  constructor
  · intro ⟨j, o, h1, h2⟩
    by_cases hj : j ∈ vs
    · exact absurd (killE_un vs env j _ hj h1) (fun z => nomatch z)
    · rw [killE_at vs env j hj] at h1
      rw [wipe_at hj] at h2
      exact ⟨j, o, h1, h2⟩
  · intro ⟨j, o, h1, h2⟩
    have hj : j ∉ vs := fun z => by
      have := List.all_eq_true.mp h j z
      rw [h1] at this
      cases this
    exact ⟨j, o, by rw [killE_at vs env j hj]; exact h1, by rw [wipe_at hj]; exact h2⟩
theorem Rel.back2 {D : Addr} {Mc : Addr → Prop} (r : Rel K tb Mx W σ H env st) (hD : H D = none) (r' : Rel K tb Mc W' [] H' [] st') (hM : ∀ b, Mc b ↔ (Mx b ∨ b = D) ∨ Om env σ b) (k : KB W H No W' H' No) (hD' : H' D ≠ none) :
    Rel K tb (fun b => Mx b ∨ b = D) W' σ H' env st' := by
  have g : Grow (Mt Mx W env σ) (Mt (fun b => Mx b ∨ b = D) W' env σ) W W' H H' := ⟨fun b o h n t => k.kp b o h (fun z => n (.inl z)) (fun z => z) t, fun b h n z => by
    rcases z with z | (z | z) | z
    · rcases k.fr b z with y | y
      · exact n (.inl y)
      · exact h y
    · exact n (.inr (.inl z))
    · exact h (z ▸ hD)
    · exact n (.inr (.inr z)), k.pre⟩
  have g2 : Grow (Mt Mc W' [] []) (Mt (fun b => Mx b ∨ b = D) W' env σ) W' W' H' H' := Grow.less fun b z => by
    rcases z with z | z | z
    · exact .inl z
    · exact .inr (.inl ((hM b).mpr (.inl z)))
    · exact .inr (.inl ((hM b).mpr (.inr z)))
  refine ⟨r'.tab, fun b h => ?_, r'.nd, fun b h => ⟨fun z => (r'.wo b h).1 ((hM b).mpr (.inl z)), fun z => (r'.wo b h).1 ((hM b).mpr (.inr z))⟩, fun b h z => ?_, r.inj, r.el, r'.len, fun i q u h1 h2 => (r'.sto i q u h1 h2).grow g2 (fun _ e _ => e), fun i v h => ?_, fun i u h => ?_⟩
  · rcases h with h | h
    · exact k.nt b (r.mx b h)
    · rw [h]; exact hD'
  · rcases z with z | z
    · exact r.om b h z
    · obtain ⟨u, e, _⟩ := r.omS h
      rw [z, hD] at e; cases e
  · obtain ⟨w, e1, e2⟩ := r.pv i v h
    exact ⟨w, e1, RF.grow g _ e2⟩
  · obtain ⟨q, e1, e2⟩ := r.own i u h
    have no : q ∉ W := fun z => (r.wo q z).2 ⟨i, u, h, e1⟩
    exact ⟨q, e1, e2.grow g fun x hx nx => k.kp q x hx no (fun z => z) nx⟩
theorem Rel.putMx {D : Addr} {ws ws0 : List V} (r : Rel K tb Mx W σ H env st) (hm : Mx D) (h0 : H D = some (.lst ws0)) : Rel K tb Mx W σ (upd H D (.lst ws)) env st := by
  have g : Grow (Mt Mx W env σ) (Mt Mx W env σ) W W H (upd H D (.lst ws)) := ⟨fun b u h n _ => by rw [upd_ne (fun z => n (.inr (.inl (by rw [z]; exact hm))))]; exact h, fun b _ n => n, List.prefix_refl _⟩
  refine ⟨fun P hP => ?_, fun b h => ?_, r.nd, r.wo, r.om, r.inj, r.el, r.len, fun j q u h1 h2 => (r.sto j q u h1 h2).grow g fun x hx _ => ?_, fun j u h => ?_, fun j u h => ?_⟩
  · refine (r.tab P hP).keep fun b o h t => ?_
    rw [upd_ne (fun z => by rw [z, h0] at h; cases h; rcases t with ⟨_, t⟩ | ⟨_, _, t⟩; (cases t); (unfold LamX.CodeO at t; cases t))]
    exact h
  · by_cases q : b = D
    · rw [q, upd_same]; simp
    · rw [upd_ne q]; exact r.mx b h
  · rw [upd_ne (fun z => (r.wo q (List.mem_of_getElem? h1)).1 (by rw [z]; exact hm))]; exact hx
  · obtain ⟨x, e2, rf⟩ := r.pv j u h
    exact ⟨x, e2, RF.grow g _ rf⟩
  · obtain ⟨x, e2, rf⟩ := r.own j u h
    exact ⟨x, e2, rf.grow g fun y hy _ => by rw [upd_ne (fun z => r.om x ⟨j, u, h, e2⟩ (by rw [z]; exact hm))]; exact hy⟩
end
abbrev WN : WX := fun _ _ _ _ => False
structure TsOk (X : Cx) (tb : Tbs) (Wx : WX) (ifs : List Expr) (m : TM) : Prop where
  h : PTs X ifs (tMT X.K X.mg tb Wx m)
theorem PTs_mono {X : Cx} {e : List Expr} {t t' : TT} (h : PTs X e t) (i : ∀ σ H Q, t' σ H Q → t σ H Q) : PTs X e t' := ⟨fun pins s σ H Q I q => h.run pins s σ H Q I (i σ H Q q)⟩
theorem ts_nil {X : Cx} {tb : Tbs} {Wx : WX} : TsOk X tb Wx [] tYesM := ⟨PTs_mono pts_nil fun σ H Q ⟨Mx, W, env, st, rel, post⟩ => post W H (.refl rel)⟩
theorem ts_one {X : Cx} {tb : Tbs} {Wx : WX} {c : Expr} {m : TM} (h : TOk X tb Wx c m) : TsOk X tb Wx [c] m := ⟨pts_one h⟩
section
variable {X : Cx} {tb : Tbs} {Wx : WX} {elt tg iter : Expr} {ifs : List Expr} {scope : Scope} {own : List (Str × Nat)} {pos : Pos} {mi : AM} {g : PV → MEnv → Option MEnv} {tc : TM} {me : EM} {is vs : List Nat}
theorem lc_read {K : PySem.W.Frag} {mg : Str → Option Value} (hsub : ∀ j ∈ is, j ∈ vs) : ∀ σ H Q, tM K mg tb Wx .N (mComp mi g tc me vs) σ H Q → tLc (tI K mg tb Wx mi) (tG K tb is g) (tMT K mg tb WN tc) (tM K mg tb WN .F me) vs σ H Q := by
  intro σ H Q ⟨Mx, W, env, st, rel, post⟩
  refine ⟨Mx, W, env, st, rel, ?_⟩
  unfold mComp at post
  cases qi : mi env st with
  | bad => rw [qi] at post; exact post
  | exc x s => rw [qi] at post; exact post
  | ok xs s =>
    rw [qi] at post
    simp only [bindR] at post
    split at post
    rotate_left
    · exact post.elim
    rename_i hk
    rw [Bool.and_eq_true] at hk
    obtain ⟨hno, hlen⟩ := hk
    have hlen := of_decide_eq_true hlen
    intro W1 H1 J a1 wk D hD
    have post := EPost.from a1 post
    have omw : ∀ p, Om (killE vs env) (wipe σ vs) p ↔ Om env σ p := fun p => om_wipe hno
    refine ⟨fun i n H' => ∃ W' st' acc wacc, Rel K tb (fun b => Mx b ∨ b = D) W' (wipe σ vs) H' (killE vs env) st' ∧ KB W1 H1 No W' H' No ∧ i + n = xs.length ∧ H' D = some (.lst wacc) ∧
        RFs K (Mt (fun b => Mx b ∨ b = D) W' (killE vs env) (wipe σ vs)) W' H' acc wacc ∧ acc.length ≤ i ∧
        EPost K mg tb Mx W1 σ H1 env Wx .N (bindX (compL g tc me (xs.drop i) (killE vs env) st') fun r s' => .ok (.lst (acc ++ r)) s') Q,
      ⟨xs.length, W1, s, [], [], (a1.rel.new hD noTbl_lst).wipes vs, ?_, Nat.zero_add _, upd_same, RFs.nil, Nat.le_refl _, post⟩, fun i n H' ⟨W', st', acc, wacc, rel', kb', en, hDl, rfs, hal, post'⟩ => ?_⟩
    · exact ⟨fun b o h _ _ _ => by rw [upd_ne (fun z => by rw [z, hD] at h; cases h)]; exact h, fun b h => by
        by_cases q : b = D
        · rw [q, upd_same]; simp
        · rw [upd_ne q]; exact h, List.prefix_refl _, fun _ h => .inl h, fun _ h => h.elim⟩
    have gr : Grow (Mt Mx W1 env σ) (Mt (fun b => Mx b ∨ b = D) W' (killE vs env) (wipe σ vs)) W1 W' H1 H' := ⟨fun b o h n t => kb'.kp b o h (fun z => n (.inl z)) (fun z => z) t, fun b h n z => by
      rcases z with z | (z | z) | z
      · rcases kb'.fr b z with y | y
        · exact n (.inl y)
        · exact h y
      · exact n (.inr (.inl z))
      · exact h (z ▸ hD)
      · exact n (.inr (.inr ((omw b).mp z))), kb'.pre⟩
    by_cases hi : i < xs.length
    · refine .inr ⟨wk.go i _ _ _ gr hi, fun H2 => ∃ W' st' acc wacc, Rel K tb (fun b => Mx b ∨ b = D) W' (wipe σ vs) H2 (killE vs env) st' ∧ KB W1 H1 No W' H2 No ∧ H2 D = some (.lst wacc) ∧
        RFs K (Mt (fun b => Mx b ∨ b = D) W' (killE vs env) (wipe σ vs)) W' H2 acc wacc ∧ acc.length ≤ i + 1 ∧
        EPost K mg tb Mx W1 σ H1 env Wx .N (bindX (compL g tc me (xs.drop (i + 1)) (killE vs env) st') fun r s' => .ok (.lst (acc ++ r)) s') Q, fun H2 ⟨W2, st2, acc2, wacc2, r2, k2, h2, f2, l2, p2⟩ => ⟨n - 1, by omega, W2, st2, acc2, wacc2, r2, k2, by omega, h2, f2, l2, p2⟩, fun x H2 hy => ?_⟩
      have hx : xs[i]? = some xs[i] := List.getElem?_eq_getElem hi
      obtain ⟨al, rf⟩ := wk.yl i _ _ _ x H2 xs[i] gr (fun p z => rel'.mtS z) hx hy
      have a2 := al.stp rel'
      rw [List.drop_eq_getElem_cons hi] at post'
      simp only [compL] at post'
      cases qg : g xs[i] (killE vs env) with
      | none => rw [qg] at post'; exact post'.elim
      | some e1 =>
        rw [qg] at post'
        refine ⟨_, W', killE vs env, st', xs[i], e1, a2.rel, rf, qg, fun σ2 r2 om2 c2 => ?_⟩
        have om2' : ∀ p, Om (killE vs env) (wipe σ vs) p → Om e1 σ2 p := fun p ⟨j, o, h1, h2⟩ => by
          have hj : j ∉ is := fun z => absurd (killE_un vs env j _ (hsub j z) h1) (fun y => nomatch y)
          exact ⟨j, o, (c2.at_ j hj).1.trans h1, (c2.at_ j hj).2.trans h2⟩
        refine ⟨?_, _, W', e1, st', r2, ?_⟩
        · refine List.ext_getElem? fun j => ?_
          by_cases hj : j ∈ vs
          · have : ∀ (τ : L2.St), τ.length = σ.length → (wipe τ vs)[j]? = if j < σ.length then some none else none := fun τ hτ => by
              by_cases hl : j < σ.length
              · rw [if_pos hl]
                cases q : (wipe τ vs)[j]? with
                | none =>
                  have := List.getElem?_eq_none_iff.mp q
                  rw [wipe_length, hτ] at this
                  omega
                | some u =>
                  cases u with
                  | none => rfl
                  | some v => exact absurd hj (wipe_some q).2
              · rw [if_neg hl, List.getElem?_eq_none (by rw [wipe_length, hτ]; omega)]
            rw [this σ2 (c2.len.trans (wipe_length σ vs)), this σ rfl]
          · rw [wipe_at hj, wipe_at hj, (c2.at_ j fun z => hj (hsub j z)).2, wipe_at hj]
        -- what follows the block's own things, seen from the outside
        have back : ∀ {W4 : List Addr} {H4 : Hp} {s4 : Sto}, Stp K tb (fun b => Mx b ∨ b = D) e1 σ2 W' H2 W4 H4 s4 → Rel K tb (fun b => Mx b ∨ b = D) W4 (wipe σ vs) H4 (killE vs env) s4 ∧ KB W1 H1 No W4 H4 No := fun {W4 H4 s4} a4 => by
          have kk : KB W' H' No W4 H4 No := (a2.kb (O := No)).trans a4.kb
          have q : Rel K tb (fun b => (Mx b ∨ b = D) ∨ Om (killE vs env) (wipe σ vs) b) W4 [] H4 [] s4 := a4.rel.toCall.less fun b z => z.elim .inl fun z => .inr (om2' b z)
          exact ⟨(rel'.back q kk).rel, kb'.trans kk⟩
        dsimp only at post'
        cases qt : tc e1 st' with
        | bad => rw [qt] at post'; exact post'.elim
        | exc x s => rw [qt] at post'; exact post'.elim
        | ok c s2 =>
          rw [qt] at post'
          simp only [bindX] at post'
          intro W3 H3 a3
          cases c with
          | false =>
            rw [if_neg Bool.false_ne_true] at post' ⊢
            obtain ⟨r3, k3⟩ := back a3
            have g3 : Grow (Mt (fun b => Mx b ∨ b = D) W' (killE vs env) (wipe σ vs)) (Mt (fun b => Mx b ∨ b = D) W3 (killE vs env) (wipe σ vs)) W' W3 H' H3 := (a2.trans (⟨r3, a3.kp, a3.nt, a3.pre, a3.fr⟩ : Stp K tb (fun b => Mx b ∨ b = D) (killE vs env) (wipe σ vs) W' H2 W3 H3 s2)).grow
            exact ⟨W3, s2, acc, wacc, r3, k3, a3.kp D _ (a2.kp D _ hDl (fun z => (rel'.wo D z).1 (.inr rfl)) noTbl_lst) (fun z => (rel'.wo D z).1 (.inr rfl)) noTbl_lst, RFs.grow g3 _ rfs, by omega, post'⟩
          | true =>
            rw [if_pos rfl] at post' ⊢
            refine ⟨_, W3, e1, s2, a3.rel, ?_⟩
            cases qe : me e1 s2 with
            | bad => rw [qe] at post'; exact post'.elim
            | exc x s => rw [qe] at post'; exact post'.elim
            | ok v s3 =>
              rw [qe] at post'
              simp only [bindX] at post'
              intro W4 H4 w a4 rm
              have a34 := a3.trans a4
              obtain ⟨r4, k4⟩ := back a34
              have nD : D ∉ W' := fun z => (rel'.wo D z).1 (.inr rfl)
              have hD4 : H4 D = some (.lst wacc) := a34.kp D _ (a2.kp D _ hDl nD noTbl_lst) nD noTbl_lst
              have g4 : Grow (Mt (fun b => Mx b ∨ b = D) W' (killE vs env) (wipe σ vs)) (Mt (fun b => Mx b ∨ b = D) W4 (killE vs env) (wipe σ vs)) W' W4 H' H4 := (a2.trans (⟨r4, a34.kp, a34.nt, a34.pre, a34.fr⟩ : Stp K tb (fun b => Mx b ∨ b = D) (killE vs env) (wipe σ vs) W' H2 W4 H4 s3)).grow
              have gD : Grow (Mt (fun b => Mx b ∨ b = D) W4 (killE vs env) (wipe σ vs)) (Mt (fun b => Mx b ∨ b = D) W4 (killE vs env) (wipe σ vs)) W4 W4 H4 (upd H4 D (.lst (wacc ++ [w]))) :=
                ⟨fun b u h n _ => by rw [upd_ne (fun z => n (.inr (.inl (.inr z))))]; exact h, fun b _ n => n, List.prefix_refl _⟩
              have rv : RF K (Mt (fun b => Mx b ∨ b = D) W4 (killE vs env) (wipe σ vs)) W4 H4 v w := RF.grow (Grow.less fun b z => by
                rcases z with z | z | z
                · exact .inl z
                · exact .inr (.inl z)
                · exact .inr (.inr (om2' b z))) _ rm
              refine ⟨wacc, hD4, ?_, W4, s3, acc ++ [v], wacc ++ [w], r4.putMx (.inr rfl) hD4, ?_, upd_same, RFs.grow gD _ ((RFs.grow g4 _ rfs).append (RFs.cons rv RFs.nil)), by rw [List.length_append]; simp; omega, ?_⟩
              · rw [rfs.len]
                exact Nat.lt_of_lt_of_le (show acc.length < 1000001 by omega) (by decide)
              · exact ⟨fun b o h n1 n2 t => by rw [upd_ne (fun z => by rw [z, hD] at h; cases h)]; exact k4.kp b o h n1 n2 t, fun b h => by
                  by_cases q : b = D
                  · rw [q, upd_same]; simp
                  · rw [upd_ne q]; exact k4.nt b h, k4.pre, k4.fr, fun _ h => h.elim⟩
              · cases qc : compL g tc me (xs.drop (i + 1)) (killE vs env) s3 with
                | bad => rw [qc] at post'; exact post'.elim
                | exc x s => rw [qc] at post'; exact post'.elim
                | ok r s5 =>
                  rw [qc] at post'
                  simp only [bindX, List.append_assoc, List.singleton_append] at post' ⊢
                  exact post'
    · have e : i = xs.length := by omega
      subst e
      refine .inl ⟨wk.st _ _ _ gr, ?_⟩
      rw [List.drop_length] at post'
      simp only [compL, bindX, List.append_nil] at post'
      have rc : Rel K tb (fun b => (Mx b ∨ b = D) ∨ Om (killE vs env) (wipe σ vs) b) W' [] H' [] st' := rel'.toCall
      have rN := a1.rel.back2 hD rc (fun b => by constructor <;> (intro z; exact z.elim .inl fun y => .inr (by first | exact (omw b).mp y | exact (omw b).mpr y))) kb' (by rw [hDl]; simp)
      refine post' W' H' (.ref D) ⟨rN.less fun b z => .inl z, fun b o h n t => kb'.kp b o h n (fun z => z) t, kb'.nt, kb'.pre, kb'.fr⟩ ?_
      refine ⟨acc, D, wacc, rfl, rfl, hD, fun z => a1.rel.mx D z hD, hDl, rN, RFs.grow (Grow.less fun b z => ?_) _ rfs⟩
      rcases z with z | z | z
      · exact .inl z
      · exact .inr (.inl z)
      · exact .inr (.inr ((omw b).mpr z))
theorem e_lc (hc : X.calm = true) (hN : X.N.Nodup) (hi : IOk X tb Wx tg iter mi) (ok : BlkOk X.N X.env.scope scope own)
    (hg : ∀ (s : Shared) (H : Hp) (C : Addr) (cl : List (Str × Addr)) (fp : List Addr), GOk (X.blk s H scope (compEnvC scope cl C X.env) fp) tb is tg g) (ht : ∀ (s : Shared) (H : Hp) (C : Addr) (cl : List (Str × Addr)) (fp : List Addr), TsOk (X.blk s H scope (compEnvC scope cl C X.env) fp) tb WN ifs tc)
    (he : ∀ (s : Shared) (H : Hp) (C : Addr) (cl : List (Str × Addr)) (fp : List Addr), EOk (X.blk s H scope (compEnvC scope cl C X.env) fp) tb WN .F elt me) (hsub : ∀ j ∈ is, j ∈ own.map (·.2) := by decide) (hs : ∀ x, foldedSetIterable iter X.env x = pure x := by intro _; rfl) :
    EOk X tb Wx .N (.ListComp elt [⟨tg, iter, ifs, 0⟩] scope pos) (mComp mi g tc me (own.map (·.2))) :=
  PE_mono (pe_lc hc hN hi ok hg (fun s H C cl fp => (ht s H C cl fp).h) he hs) (lc_read hsub)
theorem p_setLc {i : Nat} {y : Str} {py spos : Pos} (hc : X.calm = true) (hN : X.N.Nodup) (hy : X.N[i]? = some y) (hyl : X.env.scope.names.lookup y = some .local)
    (hsw : swapsWith (.ListComp elt [⟨tg, iter, ifs, 0⟩] scope pos) (some (.Name y py)) spos.line X.env = pure true) (hi : IOk X tb Wx tg iter mi) (ok : BlkOk X.N X.env.scope scope own)
    (hg : ∀ (s : Shared) (H : Hp) (C : Addr) (cl : List (Str × Addr)) (fp : List Addr), GOk (X.blk s H scope (compEnvC scope cl C X.env) fp) tb is tg g) (ht : ∀ (s : Shared) (H : Hp) (C : Addr) (cl : List (Str × Addr)) (fp : List Addr), TsOk (X.blk s H scope (compEnvC scope cl C X.env) fp) tb WN ifs tc)
    (he : ∀ (s : Shared) (H : Hp) (C : Addr) (cl : List (Str × Addr)) (fp : List Addr), EOk (X.blk s H scope (compEnvC scope cl C X.env) fp) tb WN .F elt me) (hsub : ∀ j ∈ is, j ∈ own.map (·.2) := by decide) (hs : ∀ x, foldedSetIterable iter X.env x = pure x := by intro _; rfl) :
    PS X (.Assign [.Name y py] (.ListComp elt [⟨tg, iter, ifs, 0⟩] scope pos) spos) (tAsg (tM X.K X.mg tb Wx .N (mComp mi g tc me (own.map (·.2)))) (gName i)) :=
  PS_mono (ps_setLc hc hN hy hyl hsw hi ok hg (fun s H C cl fp => (ht s H C cl fp).h) he hs) fun D σ H h => lc_read hsub σ H _ h
theorem asg_toF {s1 : Stmt} {m : EM} {i : Nat} (h : PS X s1 (tAsg (tM X.K X.mg tb Wx .N m) (gName i))) : PS X s1 (tAsg (tM X.K X.mg tb Wx .F m) (gName i)) := PS_mono h fun D σ H ⟨Mx, W, env, st, rel, post⟩ => ⟨Mx, W, env, st, rel, by
  cases q : m env st with
  | bad => rw [q] at post; exact post
  | exc x s => rw [q] at post; exact post
  | ok v s => rw [q] at post; exact fun W' H' w a rm => post W' H' w a rm.toF⟩
end
end Mp
end
section
set_option maxRecDepth 100000
set_option maxHeartbeats 1000000
namespace Mp
open PySem PySem.Spec PyProof.Rows L2
def CallV (X : Cx) (f : Value) (g : Sto → List PV → Option PV) : Prop := CallR X f fun xs H Q => ∃ (M : Addr → Prop) (W : List Addr) (st : Sto) (args : List PV) (v : PV),
  (∀ p, M p → H p ≠ none) ∧ StOk X.K M W H st ∧ RMs X.K W H false M args xs ∧ g st args = some v ∧ ∀ H' w, Al H H' → RF X.K M W H' v w → Q w H'
def mCallB (g : Sto → List PV → Option PV) (ms : AM) : EM := fun env st => bindR (ms env st) fun vs s => optR (g s vs) s
def mCallN (g : Sto → List PV → Option (List PV)) (ms : AM) : EM := fun env st => bindR (ms env st) fun vs s => optR ((g s vs).map .lst) s
section
variable {X : Cx} {tb : Tbs} {Wx : WX} {e : Expr} {es : List Expr} {ms : AM} {pos p : Pos} {x : Str} {g : Sto → List PV → Option PV} {gn : Sto → List PV → Option (List PV)}
theorem call_read {f : Value} (hc : CallV X f g) : ∀ σ H Q, tM X.K X.mg tb Wx .F (mCallB g ms) σ H Q → (tMA X.K X.mg tb Wx false ms) σ H fun vs H1 => ∃ (M : Addr → Prop) (W : List Addr) (st : Sto) (args : List PV) (v : PV),
    (∀ p, M p → H1 p ≠ none) ∧ StOk X.K M W H1 st ∧ RMs X.K W H1 false M args vs ∧ g st args = some v ∧ ∀ H' w, Al H1 H' → RF X.K M W H' v w → Q w H' := fun σ H Q ⟨Mx, W, env, st, rel, post⟩ => by
  refine abindE rel post fun vs s W1 H1 ws a1 r1 post => ?_
  cases q : g s vs with
  | none => rw [q] at post; exact post.elim
  | some v =>
    rw [q] at post
    exact ⟨Mt Mx W1 env σ, W1, s, vs, v, fun p z => a1.rel.mtS z, a1.rel.stOk, r1, q, fun H' w al rf => post W1 H' w (al.stp a1.rel) rf⟩
theorem e_callB {id : String} (hc : CallV X (.builtin id) g) (hg : Gl X x) (hm : X.mg x = none) (hv : bootBuiltins x = some (.builtin id)) (ha : AOk X tb Wx false (e :: es) ms) (hn : x ≠ "__name__" := by decide) (hd : (x == ("__debug__" : Str)) = false := by decide)
    (he : starEach (e :: es) X.env = (false, eval e X.env) :: starEach es X.env := by rfl) (hpl : (backTo pos (starEach es X.env)).any (·.1) = false := by rfl) : EOk X tb Wx .F (.Call (.Name x p) (e :: es) [] pos) (mCallB g ms) :=
  PE_mono (pe_callB hc hg hm hv ha hn hd he hpl) (call_read hc)
theorem e_callT {T : String} (hc : CallV X (.type T) g) (hg : Gl X x) (hm : X.mg x = none) (hv : bootBuiltins x = some (.type T)) (ha : AOk X tb Wx false (e :: es) ms) (hn : x ≠ "__name__" := by decide) (hd : (x == ("__debug__" : Str)) = false := by decide)
    (he : starEach (e :: es) X.env = (false, eval e X.env) :: starEach es X.env := by rfl) (hpl : (backTo pos (starEach es X.env)).any (·.1) = false := by rfl) : EOk X tb Wx .F (.Call (.Name x p) (e :: es) [] pos) (mCallB g ms) :=
  PE_mono (pe_callTy hc hg hm hv ha hn hd he hpl) (call_read hc)
end
def bLen (s : Sto) : List PV → Option PV
  | [.str z] => if z.length ≤ 100000 then some (.int z.length) else none
  | [v] => (seqOf s v).map fun xs => .int xs.length
  | _ => none
def bAbs (_ : Sto) : List PV → Option PV
  | [.int i] => some (.int (if i < 0 then -i else i))
  | _ => none
def bInt (_ : Sto) : List PV → Option PV
  | [.int i] => some (.int i)
  | [.bl b] => some (.int (bi b))
  | _ => none
def bStr (_ : Sto) : List PV → Option PV
  | [.int i] => if i.natAbs.log2 < 1920 then some (.str (toString i)) else none
  | [.str z] => some (.str z)
  | _ => none
def bTuple (s : Sto) : List PV → Option PV
  | [.tup xs] => some (.tup xs)
  | [.lst xs] => some (.tup xs)
  | [.ref n] => (seqOf s (.ref n)).map .tup
  | _ => none
def b2 (f : PV → PV → Option PV) (_ : Sto) : List PV → Option PV
  | [a, b] => f a b
  | _ => none
section
variable {K : PySem.W.Frag} {M : Addr → Prop} {W : List Addr} {H : Hp} {st : Sto}
theorem seq_rd {v : PV} {w : V} {xs : List PV} (so : StOk K M W H st) (r : RV K M W H v w) (h : seqOf st v = some xs) : ∃ p ws, w = .ref p ∧ (SqL K H p ws ∨ SqT K H p ws) ∧ RFs K M W H xs ws := by
  cases v with
  | lst ys =>
    cases h
    obtain ⟨p, ws, rfl, h1, h2⟩ := r.lst
    exact ⟨p, ws, rfl, .inl h1, h2⟩
  | tup ys =>
    cases h
    obtain ⟨p, ws, rfl, h1, h2⟩ := r.tup
    exact ⟨p, ws, rfl, .inr h1, h2⟩
  | ref n =>
    obtain ⟨p, rfl, hp⟩ := r.ref
    simp only [seqOf] at h
    split at h
    · rename_i ys hs
      cases h
      obtain ⟨ws, h1, h2⟩ := so n p _ hp hs
      exact ⟨p, ws, rfl, .inl (.of h1), h2⟩
    · cases h
  | non => cases h
  | bl _ => cases h
  | int _ => cases h
  | str _ => cases h
  | fn _ => cases h
  | dct _ _ => cases h
  | nti _ => cases h
end
section
variable {X : Cx}
theorem cv_len : CallV X (.builtin "len") bLen := by
  intro pins s σ H xs us Q I r h
  obtain ⟨M, W, st, args, v, hm, so, ra, hg, q⟩ := h
  unfold bLen at hg
  split at hg
  · rename_i z
    split at hg
    · rename_i hl
      cases hg
      obtain ⟨w, rfl, r1⟩ := RVs1 ra
      cases r1.str
      exact call_len pins s σ H _ us Q I r ⟨_, z.length, rfl, ⟨Nat.le_trans hl (show 100000 ≤ sizeLine by decide), rfl⟩, q H _ (.inl rfl) rf_int⟩
    · cases hg
  · rename_i v' _
    cases e : seqOf st v' with
    | none => rw [e] at hg; cases hg
    | some ys =>
      rw [e] at hg; cases hg
      obtain ⟨w, rfl, r1⟩ := RVs1 ra
      obtain ⟨p, ws, rfl, h1, h2⟩ := seq_rd so r1 e
      have := q H (.int ys.length) (.inl rfl) rf_int
      rw [← h2.len] at this
      exact call_len pins s σ H _ us Q I r ⟨_, ws.length, rfl, h1.elim (fun h => .inl ⟨ws, h, rfl⟩) (fun h => .inr ⟨ws, h, rfl⟩), this⟩
  · cases hg
theorem cv_abs : CallV X (.builtin "abs") bAbs := by
  intro pins s σ H xs us Q I r h
  obtain ⟨M, W, st, args, v, hm, so, ra, hg, q⟩ := h
  unfold bAbs at hg
  split at hg
  · cases hg
    obtain ⟨w, rfl, r1⟩ := RVs1 ra
    cases r1.int
    exact call_abs pins s σ H _ us Q I r ⟨_, rfl, q H _ (.inl rfl) rf_int⟩
  · cases hg
theorem cv_int : CallV X (.type "int") bInt := by
  intro pins s σ H xs us Q I r h
  obtain ⟨M, W, st, args, v, hm, so, ra, hg, q⟩ := h
  unfold bInt at hg
  split at hg
  · cases hg
    obtain ⟨w, rfl, r1⟩ := RVs1 ra
    cases r1.int
    exact call_int1 pins s σ H _ us Q I r (.inl ⟨_, rfl, q H _ (.inl rfl) rf_int⟩)
  · cases hg
    obtain ⟨w, rfl, r1⟩ := RVs1 ra
    cases r1.bl
    exact call_int1 pins s σ H _ us Q I r (.inr ⟨_, rfl, q H _ (.inl rfl) rf_int⟩)
  · cases hg
theorem cv_tuple : CallV X (.type "tuple") bTuple := by
  intro pins s σ H xs us Q I r h
  obtain ⟨M, W, st, args, v, hm, so, ra, hg, q⟩ := h
  unfold bTuple at hg
  split at hg
  · cases hg
    obtain ⟨w, rfl, r1⟩ := RVs1 ra
    obtain ⟨p, ws, rfl, h1, h2⟩ := r1.tup
    refine call_tuple_of pins s σ H _ us Q I r ⟨p, ws, rfl, .inr ⟨h1, ?_⟩⟩
    rcases r1 with r1 | ⟨_, _, _, z, _⟩
    · exact q H _ (.inl rfl) r1
    · cases z
  · cases hg
    obtain ⟨w, rfl, r1⟩ := RVs1 ra
    obtain ⟨p, ws, rfl, h1, h2⟩ := r1.lst
    exact call_tuple_of pins s σ H _ us Q I r ⟨p, ws, rfl, .inl ⟨h1, fun l hl => q _ _ (.inr ⟨l, _, hl, noTbl_tup, rfl⟩) (rf_newT hm hl h2)⟩⟩
  · rename_i n
    cases e : seqOf st (.ref n) with
    | none => rw [e] at hg; cases hg
    | some ys =>
      rw [e] at hg; cases hg
      obtain ⟨w, rfl, r1⟩ := RVs1 ra
      obtain ⟨p, rfl, hp⟩ := r1.ref
      simp only [seqOf] at e
      split at e
      · rename_i ys' hs
        cases e
        obtain ⟨ws, h1, h2⟩ := so n p _ hp hs
        exact call_tuple_of pins s σ H _ us Q I r ⟨p, ws, rfl, .inl ⟨.of h1, fun l hl => q _ _ (.inr ⟨l, _, hl, noTbl_tup, rfl⟩) (rf_newT hm hl h2)⟩⟩
      · cases e
  · cases hg
end
def noTup : PV → Bool | .tup _ => false | .non => false | _ => true
end Mp
end
section
set_option maxRecDepth 100000
set_option maxHeartbeats 1000000
namespace Mp
open PySem PySem.Spec PyProof.Rows L2
def big : Nat := 1000000
theorem big_lt {n : Nat} (h : n < big) : n < sizeLine := Nat.lt_of_lt_of_le h (by decide)
def sAppend (i : Nat) (m : EM) : SM := fun env st => match env[i]? with
  | some (.own (.lst _)) => bindF (m env st) fun v s => match env[i]? with
    | some (.own (.lst xs)) => if xs.length < big then .nx (env.set i (.own (.lst (xs ++ [v])))) s else .bad
    | _ => .bad
  | _ => .bad
def sSetIx (i : Nat) (mi mv : EM) : SM := fun env st => bindF (mv env st) fun v s => match env[i]? with
  | some (.own (.lst xs)) => bindF (mi env s) fun k s' => match k with
    | .int j => match ixN xs.length j with
      | some n => .nx (env.set i (.own (.lst (xs.set n v)))) s'
      | none => .bad
    | _ => .bad
  | _ => .bad
def sSetIxS (mo mi mv : EM) : SM := fun env st => bindF (mv env st) fun v s => bindF (mo env s) fun o s1 => bindF (mi env s1) fun k s2 => match o, k with
  | .ref n, .int j => match s2[n]? with
    | some (.lst xs) => match ixN xs.length j with
      | some q => .nx env (s2.set n (.lst (xs.set q v)))
      | none => .bad
    | _ => .bad
  | _, _ => .bad
def mLstS (ms : AM) : EM := fun env st => bindR (ms env st) fun vs s => if vs.length ≤ 1000 then .ok (.ref s.length) (s ++ [.lst vs]) else .bad
section
variable {K : PySem.W.Frag} {tb : Tbs} {Mx : Addr → Prop} {W : List Addr} {σ : L2.St} {H : Hp} {env : MEnv} {st : Sto}
theorem Rel.newS {p : Addr} {xs : List PV} {ws : List V} (r : Rel K tb Mx W σ H env st) (hp : H p = none) (rs : RFs K (Mt Mx W env σ) W H xs ws) :
    Stp K tb Mx env σ W H (W ++ [p]) (upd H p (.lst ws)) (st ++ [.lst xs]) := by
  have nt : ∀ {p : Addr}, Mt Mx W env σ p → H p ≠ none := fun h => r.mtS h
  have pw : p ∉ W := fun z => nt (.inl z) hp
  have ne : ∀ b, H b ≠ none → b ≠ p := fun b h z => h (by rw [z]; exact hp)
  have kp : ∀ b u, H b = some u → upd H p (.lst ws) b = some u := fun b u h => by rw [upd_ne (ne b (by rw [h]; simp))]; exact h
  have ntk : ∀ b, H b ≠ none → upd H p (.lst ws) b ≠ none := fun b h => by rw [upd_ne (ne b h)]; exact h
  have g : Grow (Mt Mx W env σ) (Mt Mx (W ++ [p]) env σ) W (W ++ [p]) H (upd H p (.lst ws)) := ⟨fun b u h _ _ => kp b u h, fun b h n z => by
    rcases z with z | z
    · rcases List.mem_append.mp z with z | z
      · exact n (.inl z)
      · exact ne b h (List.mem_singleton.mp z)
    · exact n (.inr z), List.prefix_append _ _⟩
  refine ⟨⟨fun P hP => ?_, fun b h => ntk b (r.mx b h), ?_, fun b h => ?_, r.om, r.inj, r.el, by simp [r.len], fun j q u h1 h2 => ?_, fun j u h => ?_, fun j u h => ?_⟩, fun b u h _ _ => kp b u h, ntk, List.prefix_append _ _, fun b h => ?_⟩
  · exact (r.tab P hP).keep fun b o h _ => kp b o h
  · rw [List.nodup_append]
    exact ⟨r.nd, by simp, fun a ha b hb e => by rw [List.mem_singleton.mp hb] at e; exact pw (e ▸ ha)⟩
  · rcases List.mem_append.mp h with h | h
    · exact r.wo b h
    · rw [List.mem_singleton.mp h]
      exact ⟨fun z => r.mx p z hp, fun z => nt (.inr (.inr z)) hp⟩
  · by_cases hj : j < W.length
    · rw [List.getElem?_append_left hj] at h1
      rw [List.getElem?_append_left (by rw [← r.len]; exact hj)] at h2
      exact (r.sto j q u h1 h2).grow g fun x hx _ => kp q x hx
    · rw [List.getElem?_append_right (by omega)] at h1
      rw [List.getElem?_append_right (by rw [← r.len]; omega)] at h2
      have e1 : j - W.length = 0 := by
        have := (List.getElem?_eq_some_iff.mp h1).1
        simp at this; omega
      rw [e1] at h1
      rw [← r.len, e1] at h2
      simp at h1 h2
      subst h1 h2
      exact ⟨ws, upd_same, RFs.grow g _ rs⟩
  · obtain ⟨x, e2, rf⟩ := r.pv j u h
    exact ⟨x, e2, RF.grow g _ rf⟩
  · obtain ⟨x, e2, rf⟩ := r.own j u h
    exact ⟨x, e2, rf.grow g fun y hy _ => kp x y hy⟩
  · rcases List.mem_append.mp h with h | h
    · exact .inl h
    · rw [List.mem_singleton.mp h]; exact .inr hp
end
section
variable {X : Cx} {tb : Tbs} {Wx : WX} {a b c e v o : Expr} {es rest : List Expr} {ma mb mc m mi mv mo : EM} {ms : AM} {pos pos' np apos cpos : Pos} {x : Str} {i : Nat}
theorem e_lstS (h : AOk X tb Wx true es ms) : EOk X tb Wx .F (.List es pos) (mLstS ms) := PE_mono (pe_lst h) fun σ H Q ⟨Mx, W, env, st, rel, post⟩ => by
  refine abindE rel post fun vs s W1 H1 ws a1 r1 post => ?_
  split at post
  · rename_i hl
    have e := RFs.len r1
    refine ⟨by rw [e]; exact small1000' hl, fun p hp => ?_⟩
    have st' := a1.rel.newS hp r1
    refine post _ _ _ st' ?_
    show RF X.K (Mt Mx (W1 ++ [p]) env σ) (W1 ++ [p]) (upd H1 p (.lst ws)) (.ref s.length) (.ref p)
    unfold RF
    refine ⟨p, rfl, ?_⟩
    rw [← a1.rel.len]
    simp
  · exact post.elim
theorem s_append {s1 : Stmt} (h : PS X s1 (tDrop (tBM X.K "list" rAppend (tVar i) (tCons (tM X.K X.mg tb Wx .F m) tNil)))) : SOk X tb Wx s1 (sAppend i m) :=
  PS_mono h fun D σ H ⟨Mx, W0, H0, O0, W, env, st, rel, kb, post⟩ => by
    unfold sAppend at post
    split at post
    · rename_i xs q
      obtain ⟨p, e1, ro⟩ := rel.own i _ q
      · obtain ⟨ws, e2, e3⟩ := ro
        refine ⟨.ref p, e1, .inl ⟨rfl, _, .of e2⟩, ?_⟩
        refine ebindS rel kb post fun v s W1 H1 w a1 kb1 rm post => ?_
        try rw [q] at post
        dsimp only at post
        split at post
        · rename_i hl
          obtain ⟨p', e1', ws', e2', e3'⟩ := a1.rel.own i _ q
          rw [e1] at e1'; cases e1'
          refine ⟨p, ws', w, rfl, rfl, e2', by rw [e3'.len]; exact big_lt hl, ?_⟩
          have rm' : RF X.K (Mt Mx W1 env σ) W1 H1 v w := rm
          obtain ⟨r2, k2⟩ := a1.rel.putOwn q e1 (e3'.append (RFs.cons rm' RFs.nil))
          exact post σ W1 _ r2 (kb1.trans k2)
        · exact post.elim
    · exact post.elim
theorem s_setIx {s1 : Stmt} (h : PS X s1 (tAsg (tM X.K X.mg tb Wx .F mv) (gSub (tVar i) (tM X.K X.mg tb Wx .R mi) rSetL))) : SOk X tb Wx s1 (sSetIx i mi mv) :=
  PS_mono h fun D σ H ⟨Mx, W0, H0, O0, W, env, st, rel, kb, post⟩ => by
    refine ebindS rel kb post fun v s W1 H1 w a1 kb1 rm post => ?_
    split at post
    · rename_i xs q
      obtain ⟨p, e1, ws, e2, e3⟩ := a1.rel.own i _ q
      refine ⟨.ref p, e1, ?_⟩
      refine ebindS a1.rel kb1 post fun k s' W2 H2 w2 a2 kb2 rm2 post => ?_
      split at post
      · rename_i j
        split at post
        · rename_i n hn
          cases (RV.int rm2)
          obtain ⟨p', e1', ws', e2', e3'⟩ := a2.rel.own i _ q
          rw [e1] at e1'; cases e1'
          refine ⟨p, ws', j, n, rfl, rfl, e2', by rw [e3'.len]; exact hn, ?_⟩
          have rm' : RF X.K (Mt Mx W2 env σ) W2 H2 v w := RF.grow a2.grow _ rm
          obtain ⟨r2, k2⟩ := a2.rel.putOwn q e1 (RFs.set rm' n e3')
          exact post σ W2 _ r2 (kb2.trans k2)
        · exact post.elim
      · exact post.elim
    · exact post.elim
theorem s_setIxS {s1 : Stmt} (h : PS X s1 (tAsg (tM X.K X.mg tb Wx .F mv) (gSub (tM X.K X.mg tb Wx .F mo) (tM X.K X.mg tb Wx .R mi) rSetL))) : SOk X tb Wx s1 (sSetIxS mo mi mv) :=
  PS_mono h fun D σ H ⟨Mx, W0, H0, O0, W, env, st, rel, kb, post⟩ => by
    refine ebindS rel kb post fun v s W1 H1 w a1 kb1 rm post => ?_
    refine ebindS a1.rel kb1 post fun ov s1 W2 H2 w2 a2 kb2 rm2 post => ?_
    refine ebindS a2.rel kb2 post fun k s2 W3 H3 w3 a3 kb3 rm3 post => ?_
    split at post
    · rename_i n j _
      split at post
      · rename_i xs hs'
        split at post
        · rename_i q hq
          cases (RV.int rm3)
          have rm2' : RF X.K (Mt Mx W3 env σ) W3 H3 (.ref n) w2 := RF.grow a3.grow _ rm2
          unfold RF at rm2'
          obtain ⟨p, rfl, hp⟩ := rm2'
          obtain ⟨ws, e2, e3⟩ := a3.rel.sto n p _ hp hs'
          have rm' : RF X.K (Mt Mx W3 env σ) W3 H3 v w := RF.grow (a2.trans a3).grow _ rm
          have st' := a3.rel.putSto hp (RFs.set rm' q e3)
          exact ⟨p, ws, j, q, rfl, rfl, e2, by rw [e3.len]; exact hq, post σ W3 _ st'.rel (kb3.trans st'.kb)⟩
        · exact post.elim
      · exact post.elim
    · exact post.elim
end
def cutL {α : Type} (xs : List α) (lo hi : Option Int) : List α := (xs.drop (HT.sIx xs.length 0 lo)).take (HT.sIx xs.length xs.length hi - HT.sIx xs.length 0 lo)
abbrev PM := MEnv → Sto → MRes (Option Int)
def pN : PM := fun _ s => .ok none s
def pS (m : EM) : PM := fun env st => bindR (m env st) fun v s => match v with | .int i => .ok (some i) s | _ => .bad
def mSlice (m : EM) (lo hi : PM) : EM := fun env st => bindR (m env st) fun v s => bindR (lo env s) fun l s1 => bindR (hi env s1) fun h s2 => match v with
  | .tup xs => .ok (.tup (cutL xs l h)) s2
  | .lst xs => .ok (.lst (cutL xs l h)) s2
  | _ => .bad
def tP (K : PySem.W.Frag) (mg : Str → Option Value) (tb : Tbs) (Wx : WX) (m : PM) : L2.St → Hp → (Option Int → Hp → Prop) → Prop := fun σ H Q => ∃ Mx W env st, Rel K tb Mx W σ H env st ∧ match m env st with
  | .ok v st' => ∀ W' H', Stp K tb Mx env σ W H W' H' st' → Q v H'
  | .exc x st' => ∀ W' H' cls d, Stp K tb Mx env σ W H W' H' st' → RX mg H' x cls d → Wx cls d σ H'
  | .bad => False
section
variable {X : Cx} {tb : Tbs} {Wx : WX} {e : Expr} {m : EM} {lo hi : Option Expr} {ml mh : PM} {pos p2 : Pos}
abbrev POk (X : Cx) (tb : Tbs) (Wx : WX) (e : Option Expr) (m : PM) : Prop := L2.PO X e (tP X.K X.mg tb Wx m)
theorem PO_mono {X : Cx} {e : Option Expr} {t t' : L2.St → Hp → (Option Int → Hp → Prop) → Prop} (h : L2.PO X e t) (i : ∀ σ H Q, t' σ H Q → t σ H Q) : L2.PO X e t' := ⟨fun pins s σ H Q I q => h.run pins s σ H Q I (i σ H Q q)⟩
theorem p_none : POk X tb Wx none pN := PO_mono po_none fun σ H Q ⟨Mx, W, env, st, rel, post⟩ => post W H (.refl rel)
theorem p_some (h : EOk X tb Wx .R e m) : POk X tb Wx (some e) (pS m) := PO_mono (po_some h) fun σ H Q ⟨Mx, W, env, st, rel, post⟩ => by
  refine ⟨Mx, W, env, st, rel, ?_⟩
  unfold pS at post
  cases q : m env st with
  | bad => rw [q] at post; exact post
  | exc x s => rw [q] at post; exact post
  | ok v s =>
    rw [q] at post
    intro W' H' w a rm
    cases v with
    | int i => cases (RV.int rm); exact ⟨i, rfl, post W' H' a⟩
    | _ => exact post.elim
theorem RFs.cut {K : PySem.W.Frag} {M : Addr → Prop} {W : List Addr} {H : Hp} {xs : List PV} {ws : List V} {l h : Option Int} (r : RFs K M W H xs ws) : RFs K M W H (cutL xs l h) (cutV ws l h) := by
  unfold cutL cutV
  rw [r.len]
  exact (r.drop _).take _
theorem cut_whole {α : Type} {xs : List α} {l h : Option Int} (e : HT.sIx xs.length 0 l = 0 ∧ HT.sIx xs.length xs.length h = xs.length) : cutL xs l h = xs := by
  unfold cutL
  rw [e.1, e.2]
  simp
theorem pbindE {K : PySem.W.Frag} {mg : Str → Option Value} {Mx : Addr → Prop} {W : List Addr} {σ : L2.St} {H : Hp} {env : MEnv} {st : Sto} {md : Md} {ma : PM} {f : Option Int → Sto → MRes PV} {Q : VK} {Q1 : Option Int → Hp → Prop} (rel : Rel K tb Mx W σ H env st) (post : EPost K mg tb Mx W σ H env Wx md (bindR (ma env st) f) Q)
    (k : ∀ v s W1 H1, Stp K tb Mx env σ W H W1 H1 s → EPost K mg tb Mx W1 σ H1 env Wx md (f v s) Q → Q1 v H1) : tP K mg tb Wx ma σ H Q1 := by
  refine ⟨Mx, W, env, st, rel, ?_⟩
  cases e : ma env st with
  | bad => rw [e] at post; exact post
  | exc x s => rw [e] at post; exact post
  | ok v s =>
    rw [e] at post
    exact fun W1 H1 a => k v s W1 H1 a (EPost.from a post)
theorem e_slice (he : EOk X tb Wx .R e m) (hl : POk X tb Wx lo ml) (hh : POk X tb Wx hi mh) : EOk X tb Wx .F (.Subscript e (.Slice lo hi none p2) pos) (mSlice m ml mh) :=
  PE_mono (pe_slice (SlR.or sl_list sl_tupA) he hl hh) fun σ H Q ⟨Mx, W, env, st, rel, post⟩ => by
    refine ebindE rel post fun v s W1 H1 w a1 r1 post => pbindE a1.rel post fun l s1 W2 H2 a2 post => pbindE a2.rel post fun h s2 W3 H3 a3 post => ?_
    have r1' := RV.stp a3 (RV.stp a2 r1)
    cases v with
    | lst xs =>
      obtain ⟨p, ws, rfl, h1, h2⟩ := r1'.lst
      exact .inl ⟨p, ws, rfl, h1, fun q hq => post W3 _ _ (.new a3.rel hq noTbl_lst) (rf_newL (fun p z => a3.rel.mtS z) hq h2.cut)⟩
    | tup xs =>
      obtain ⟨p, ws, rfl, h1, h2⟩ := r1'.tup
      refine .inr ⟨p, ws, rfl, h1, fun z => ?_, fun _ q hq => post W3 _ _ (.new a3.rel hq noTbl_tup) (rf_newT (fun p z => a3.rel.mtS z) hq h2.cut)⟩
      rw [h2.len] at z
      dsimp only at post
      rw [cut_whole z] at post
      rcases r1' with r1' | ⟨_, _, _, z', _⟩
      · exact post W3 H3 _ (.refl a3.rel) r1'
      · cases z'
    | _ => exact post.elim
end
def env0 (n : Nat) (args : List PV) : MEnv := args.map .pv ++ List.replicate (n - args.length) .un
def fnM (n : Nat) (body : SM) : FM := fun args st => match body (env0 n args) st with
  | .nx _ s => .ok .non s
  | .rt v s => .ok v s
  | .ex x s => .exc x s
  | _ => .bad
theorem rel0 {K : PySem.W.Frag} {tb : Tbs} {Mx : Addr → Prop} {W : List Addr} {H : Hp} {st : Sto} {N : List Str} {args : List PV} {vs : List V} (r : Rel K tb Mx W [] H [] st) (ra : RFs K (Mt Mx W [] []) W H args vs) :
    Rel K tb Mx W (L2.start N vs) H (env0 N.length args) st ∧ ∀ p, ¬ Om (env0 N.length args) (L2.start N vs) p := by
  have nom : ∀ p, ¬ Om (env0 N.length args) (L2.start N vs) p := fun p ⟨i, o, h1, _⟩ => by
    unfold env0 at h1
    by_cases hi : i < args.length
    · rw [List.getElem?_append_left (by simpa using hi), List.getElem?_map] at h1
      cases q : args[i]? with
      | none => rw [q] at h1; cases h1
      | some u => rw [q] at h1; cases h1
    · rw [List.getElem?_append_right (by simpa using hi)] at h1
      have := List.mem_of_getElem? h1
      rw [List.mem_replicate] at this
      cases this.2
  have g : Grow (Mt Mx W [] []) (Mt Mx W (env0 N.length args) (L2.start N vs)) W W H H := Grow.less fun b z => by
    rcases z with z | z | z
    · exact .inl z
    · exact .inr (.inl z)
    · exact absurd z (nom b)
  refine ⟨⟨r.tab, r.mx, r.nd, fun b h => ⟨(r.wo b h).1, nom b⟩, fun b h => absurd h (nom b), fun i j o o' p h1 h2 => absurd ⟨i, o, h1, h2⟩ (nom p), ?_, r.len, fun i q u h1 h2 => (r.sto i q u h1 h2).grow g (fun _ e _ => e), fun i v h => ?_, fun i o h => ?_⟩, nom⟩
  · unfold env0 L2.start
    simp [ra.len]
  · unfold env0 at h
    by_cases hi : i < args.length
    · rw [List.getElem?_append_left (by simpa using hi), List.getElem?_map] at h
      cases q : args[i]? with
      | none => rw [q] at h; cases h
      | some u =>
        rw [q] at h; cases h
        obtain ⟨w, e1, rf⟩ := ra.get q
        refine ⟨w, ?_, RF.grow g _ rf⟩
        unfold L2.start
        rw [List.getElem?_append_left (by rw [List.length_map, ra.len]; exact hi), List.getElem?_map, e1]
        rfl
    · rw [List.getElem?_append_right (by simpa using hi)] at h
      have := List.mem_of_getElem? h
      rw [List.mem_replicate] at this
      cases this.2
  · unfold env0 at h
    by_cases hi : i < args.length
    · rw [List.getElem?_append_left (by simpa using hi), List.getElem?_map] at h
      cases q : args[i]? with
      | none => rw [q] at h; cases h
      | some u => rw [q] at h; cases h
    · rw [List.getElem?_append_right (by simpa using hi)] at h
      have := List.mem_of_getElem? h
      rw [List.mem_replicate] at this
      cases this.2
theorem body_read {K : PySem.W.Frag} {mg : Str → Option Value} {tb : Tbs} {N : List Str} {n : Nat} {body : SM} {vs : List V} {H : Hp} {Q : VK} {E : XK} (h : spM K mg tb n (fnM N.length body) vs H Q E) :
    tS K mg tb (fun cls d _ H => E cls d H) body { nx := fun _ H' => Q .non H', rt := Q } (L2.start N vs) H := by
  obtain ⟨Mx, W, st, args, hl, r, ra, post⟩ := h
  obtain ⟨r0, nom⟩ := rel0 (N := N) r ra
  refine ⟨Mx, W, H, No, W, _, st, r0, KB.refl.less fun b z => absurd z (nom b), ?_⟩
  unfold fnM at post
  cases q : body (env0 N.length args) st with
  | nx e s => rw [q] at post; exact fun σ' W' H' r' k' => post W' H' .non r'.bare k'.none rf_non
  | rt v s => rw [q] at post; exact post
  | ex x s => rw [q] at post; exact fun σ' W' H' cls d r' k' rx => post W' H' cls d r' k' rx
  | bk e s => rw [q] at post; exact post.elim
  | ct e s => rw [q] at post; exact post.elim
  | bad => rw [q] at post; exact post
end Mp
end
section
set_option maxRecDepth 100000
set_option maxHeartbeats 1000000
namespace Mp
open PySem PySem.Spec PyProof.Rows L2
abbrev VM := MEnv → Sto → MRes (List EV)
def vNil : VM := fun _ st => .ok [] st
def vF (m : EM) (ms : VM) : VM := fun env st => bindR (m env st) fun v s => bindR (ms env s) fun vs s' => .ok (.pv v :: vs) s'
def vN (m : EM) (ms : VM) : VM := fun env st => bindR (m env st) fun v s => bindR (ms env s) fun vs s' => match v with | .lst xs => .ok (.own (.lst xs) :: vs) s' | _ => .bad
inductive VE (K : PySem.W.Frag) (M : Addr → Prop) (W : List Addr) (H : Hp) : List EV → List V → List Addr → Prop
  | nil : VE K M W H [] [] []
  | pv {v : PV} {w : V} {evs : List EV} {ws : List V} {P : List Addr} : RF K M W H v w → VE K M W H evs ws P → VE K M W H (.pv v :: evs) (w :: ws) P
  | own {o : PO} {p : Addr} {evs : List EV} {ws : List V} {P : List Addr} : RO K M W H o p → p ∉ P → VE K M W H evs ws P → VE K M W H (.own o :: evs) (.ref p :: ws) (p :: P)
structure VRel (K : PySem.W.Frag) (tb : Tbs) (Mx : Addr → Prop) (W : List Addr) (σ : L2.St) (H : Hp) (env : MEnv) (W' : List Addr) (H' : Hp) (st' : Sto) (evs : List EV) (ws : List V) (P : List Addr) : Prop where
  rel : Rel K tb (fun b => Mx b ∨ b ∈ P) W' σ H' env st'
  kp : ∀ b o, H b = some o → b ∉ W → NoTbl o → H' b = some o
  nt : ∀ b, H b ≠ none → H' b ≠ none
  pre : W <+: W'
  fr : ∀ b ∈ W', b ∈ W ∨ H b = none
  new : ∀ p ∈ P, H p = none ∧ ¬ Mx p
  ve : VE K (Mt (fun b => Mx b ∨ b ∈ P) W' env σ) W' H' evs ws P
def tV (K : PySem.W.Frag) (mg : Str → Option Value) (tb : Tbs) (Wx : WX) (m : VM) : TA := fun σ H Q => ∃ Mx W env st, Rel K tb Mx W σ H env st ∧ match m env st with
  | .ok evs st' => ∀ W' H' ws P, VRel K tb Mx W σ H env W' H' st' evs ws P → Q ws H'
  | .exc x st' => ∀ W' H' cls d, Stp K tb Mx env σ W H W' H' st' → RX mg H' x cls d → Wx cls d σ H'
  | .bad => False
abbrev VOk (X : Cx) (tb : Tbs) (Wx : WX) (es : List Expr) (m : VM) : Prop := PA X es (tV X.K X.mg tb Wx m)
section
variable {K : PySem.W.Frag} {M M' : Addr → Prop} {W W' : List Addr} {H H' : Hp}
theorem VE.grow {evs : List EV} {ws : List V} {P : List Addr} (g : Grow M M' W W' H H') (h : VE K M W H evs ws P) (e : ∀ p ∈ P, ∀ u, H p = some u → NoTbl u → H' p = some u) : VE K M' W' H' evs ws P := by
  induction h with
  | nil => exact .nil
  | pv r _ ih => exact .pv (RF.grow g _ r) (ih e)
  | own r n _ ih => exact .own (r.grow g (e _ List.mem_cons_self)) n (ih fun p hp => e p (List.mem_cons_of_mem _ hp))
end
section
variable {X : Cx} {tb : Tbs} {Wx : WX} {e : Expr} {es : List Expr} {m : EM} {ms : VM}
theorem v_nil : VOk X tb Wx [] vNil := PA_mono pa_nil fun σ H Q ⟨Mx, W, env, st, rel, post⟩ => post W H [] [] ⟨rel.less fun b z => z.elim id (fun z => by cases z), fun _ _ h _ _ => h, fun _ h => h, List.prefix_refl _, fun _ h => .inl h, fun p h => (by cases h), .nil⟩
theorem v_F (ha : EOk X tb Wx .F e m) (hr : VOk X tb Wx es ms) (hs : starEach (e :: es) X.env = (false, eval e X.env) :: starEach es X.env := by rfl) : VOk X tb Wx (e :: es) (vF m ms) :=
  PA_mono (pa_cons ha hr hs) fun σ H Q ⟨Mx, W, env, st, rel, post⟩ => by
    refine ⟨Mx, W, env, st, rel, ?_⟩
    unfold vF at post
    cases q : m env st with
    | bad => rw [q] at post; exact post
    | exc x s => rw [q] at post; exact post
    | ok v s =>
      rw [q] at post
      simp only [bindR] at post
      intro W1 H1 w1 a1 r1
      refine ⟨Mx, W1, env, s, a1.rel, ?_⟩
      cases q2 : ms env s with
      | bad => rw [q2] at post; exact post
      | exc x s' => rw [q2] at post; exact fun W' H' cls d a2 rx => post W' H' cls d (a1.trans a2) rx
      | ok evs s' =>
        rw [q2] at post
        intro W2 H2 ws P v2
        have r1' : RF X.K (Mt Mx W1 env σ) W1 H1 v w1 := r1
        have g : Grow (Mt Mx W1 env σ) (Mt (fun b => Mx b ∨ b ∈ P) W2 env σ) W1 W2 H1 H2 := ⟨fun b o h n t => v2.kp b o h (fun z => n (.inl z)) t, fun b h n z => by
          rcases z with z | (z | z) | z
          · rcases v2.fr b z with y | y
            · exact n (.inl y)
            · exact h y
          · exact n (.inr (.inl z))
          · exact h (v2.new b z).1
          · exact n (.inr (.inr z)), v2.pre⟩
        refine post W2 H2 (w1 :: ws) P ⟨v2.rel, fun b o h n t => v2.kp b o (a1.kp b o h n t) (fun z => (a1.fr b z).elim n fun y => by rw [h] at y; cases y) t, fun b h => v2.nt b (a1.nt b h), a1.pre.trans v2.pre, fun b h => ?_, fun p hp => ⟨?_, (v2.new p hp).2⟩, .pv (RF.grow g _ r1') v2.ve⟩
        · rcases v2.fr b h with z | z
          · exact a1.fr b z
          · right
            cases y : H b with
            | none => rfl
            | some u => exact absurd z (a1.nt b (by rw [y]; simp))
        · cases y : H p with
          | none => rfl
          | some u => exact absurd (v2.new p hp).1 (a1.nt p (by rw [y]; simp))
theorem v_N (ha : EOk X tb Wx .N e m) (hr : VOk X tb Wx es ms) (hs : starEach (e :: es) X.env = (false, eval e X.env) :: starEach es X.env := by rfl) : VOk X tb Wx (e :: es) (vN m ms) :=
  PA_mono (pa_cons ha hr hs) fun σ H Q ⟨Mx, W, env, st, rel, post⟩ => by
    refine ⟨Mx, W, env, st, rel, ?_⟩
    unfold vN at post
    cases q : m env st with
    | bad => rw [q] at post; exact post
    | exc x s => rw [q] at post; exact post
    | ok v s =>
      rw [q] at post
      simp only [bindR] at post
      intro W1 H1 w1 a1 r1
      obtain ⟨xs, p, ws1, rfl, rfl, e3, nm, e4, rN, rs⟩ := r1
      refine ⟨_, W1, env, s, rN, ?_⟩
      cases q2 : ms env s with
      | bad => rw [q2] at post; exact post
      | exc x s' => rw [q2] at post; exact fun W' H' cls d a2 rx => post W' H' cls d (a1.trans ⟨a2.rel.less fun b z => .inl z, a2.kp, a2.nt, a2.pre, a2.fr⟩) rx
      | ok evs s' =>
        rw [q2] at post
        intro W2 H2 ws P v2
        have nP : p ∉ P := fun z => (v2.new p z).2 (.inr rfl)
        have nW : p ∉ W1 := fun z => (rN.wo p z).1 (.inr rfl)
        have eqM : ∀ b, (Mx b ∨ b ∈ p :: P) ↔ ((Mx b ∨ b = p) ∨ b ∈ P) := fun b => by simp [or_assoc]
        have g : Grow (Mt (fun b => Mx b ∨ b = p) W1 env σ) (Mt (fun b => Mx b ∨ b ∈ p :: P) W2 env σ) W1 W2 H1 H2 := ⟨fun b o h n t => v2.kp b o h (fun z => n (.inl z)) t, fun b h n z => by
          rcases z with z | z | z
          · rcases v2.fr b z with y | y
            · exact n (.inl y)
            · exact h y
          · rcases (eqM b).mp z with z | z
            · exact n (.inr (.inl z))
            · exact h (v2.new b z).1
          · exact n (.inr (.inr z)), v2.pre⟩
        refine post W2 H2 (.ref p :: ws) (p :: P) ⟨v2.rel.less fun b z => (eqM b).mp z, fun b o h n t => v2.kp b o (a1.kp b o h n t) (fun z => (a1.fr b z).elim n fun y => by rw [h] at y; cases y) t, fun b h => v2.nt b (a1.nt b h), a1.pre.trans v2.pre, fun b h => ?_, fun b hb => ?_, .own ?_ nP (v2.ve.grow (Grow.less fun b z => ?_) fun _ _ _ h _ => h)⟩
        · rcases v2.fr b h with z | z
          · exact a1.fr b z
          · right
            cases y : H b with
            | none => rfl
            | some u => exact absurd z (a1.nt b (by rw [y]; simp))
        · rcases List.mem_cons.mp hb with rfl | hb
          · exact ⟨e3, nm⟩
          · refine ⟨?_, fun z => (v2.new b hb).2 (.inl z)⟩
            cases y : H b with
            | none => rfl
            | some u => exact absurd (v2.new b hb).1 (a1.nt b (by rw [y]; simp))
        · exact ⟨ws1, v2.kp p _ e4 nW noTbl_lst, RFs.grow g _ rs⟩
        · rcases z with z | z | z
          · exact .inl z
          · exact .inr (.inl ((eqM b).mp z))
          · exact .inr (.inr z)
end
def setsE : List Nat → List EV → MEnv → MEnv
  | i :: is, v :: vs, env => setsE is vs (env.set i v)
  | _, _, env => env
def setsS : List Nat → List V → L2.St → L2.St
  | i :: is, v :: vs, σ => setsS is vs (σ.set i (some v))
  | _, _, σ => σ
theorem Rel.sets {K : PySem.W.Frag} {tb : Tbs} {Mx M : Addr → Prop} {W : List Addr} {H : Hp} {st : Sto} {evs : List EV} {ws : List V} {P : List Addr} (h : VE K M W H evs ws P) : ∀ (is : List Nat) {σ : L2.St} {env : MEnv}, is.length = evs.length → Rel K tb (fun b => Mx b ∨ b ∈ P) W σ H env st → (∀ p ∈ P, ¬ Mx p) →
    (∀ b, Mt (fun b => Mx b ∨ b ∈ P) W env σ b → M b) →
    Rel K tb Mx W (setsS is ws σ) H (setsE is evs env) st ∧ ∀ b, Om (setsE is evs env) (setsS is ws σ) b → Om env σ b ∨ b ∈ P := by
  induction h with
  | nil =>
    intro is σ env hl r _ _
    have e : is = [] := List.length_eq_zero_iff.mp hl
    subst e
    exact ⟨r.less fun b z => .inl z, fun b z => .inl z⟩
  | pv rf t ih =>
    intro is σ env hl r hn hM
    match is, hl with
    | i :: is, hl =>
      have r1 := r.setPv (i := i) (RF.grow (Grow.less hM) _ rf)
      obtain ⟨r2, o2⟩ := ih is (by simpa using hl) r1 hn (fun b z => hM b (by
        rcases z with z | z | z
        · exact .inl z
        · exact .inr (.inl z)
        · exact .inr (.inr z.setP)))
      exact ⟨r2, fun b z => (o2 b z).elim (fun y => .inl y.setP) .inr⟩
  | @own o p evs ws P ro np t ih =>
    intro is σ env hl r hn hM
    match is, hl with
    | i :: is, hl =>
      have eqM : ∀ b, (Mx b ∨ b ∈ p :: P) ↔ ((Mx b ∨ b ∈ P) ∨ b = p) := fun b => by simp [or_assoc, or_comm, or_left_comm]
      have ro' : RO K (Mt (fun b => (Mx b ∨ b ∈ P) ∨ b = p) W env σ) W H o p := ro.grow (Grow.less fun b z => hM b (by
        rcases z with z | z | z
        · exact .inl z
        · exact .inr (.inl ((eqM b).mpr z))
        · exact .inr (.inr z))) fun _ h _ => h
      have r1 : Rel K tb (fun b => Mx b ∨ b ∈ P) W (σ.set i (some (.ref p))) H (env.set i (.own o)) st := (r.less fun b z => (eqM b).mpr z).setOwn (fun z => z.elim (hn p List.mem_cons_self) np) ro'
      have om1 : ∀ b, Om (env.set i (.own o)) (σ.set i (some (.ref p))) b → Om env σ b ∨ b = p := fun b z => by
        rcases Om.set z with z | ⟨_, _, z, _⟩
        · exact .inl z
        · cases z; exact .inr rfl
      obtain ⟨r2, o2⟩ := ih is (by simpa using hl) r1 (fun q hq => hn q (List.mem_cons_of_mem _ hq)) (fun b z => hM b (by
        rcases z with z | z | z
        · exact .inl z
        · exact .inr (.inl ((eqM b).mpr (.inl z)))
        · rcases om1 b z with z | z
          · exact .inr (.inr z)
          · exact .inr (.inl ((eqM b).mpr (.inr z)))))
      refine ⟨r2, fun b z => ?_⟩
      rcases o2 b z with y | y
      · rcases om1 b y with y | y
        · exact .inl y
        · rw [y]; exact .inr List.mem_cons_self
      · exact .inr (List.mem_cons_of_mem _ y)
def sPar (is : List Nat) (m : VM) : SM := fun env st => bindF (m env st) fun evs s => if evs.length = is.length then .nx (setsE is evs env) s else .bad
section
variable {X : Cx} {tb : Tbs} {Wx : WX} {m : VM} {s1 : Stmt}
theorem VE.len {K : PySem.W.Frag} {M : Addr → Prop} {W : List Addr} {H : Hp} {evs : List EV} {ws : List V} {P : List Addr} (h : VE K M W H evs ws P) : ws.length = evs.length := by
  induction h with
  | nil => rfl
  | pv _ _ ih => simp [ih]
  | own _ _ _ ih => simp [ih]
theorem par_read {is : List Nat} {D : Ends} {σ : L2.St} {H : Hp} (h : tS X.K X.mg tb Wx (sPar is m) D σ H) : tV X.K X.mg tb Wx m σ H fun ws H1 => ws.length = is.length ∧ D.nx (setsS is ws σ) H1 := by
  obtain ⟨Mx, W0, H0, O0, W, env, st, rel, kb, post⟩ := h
  refine ⟨Mx, W, env, st, rel, ?_⟩
  unfold sPar at post
  cases q : m env st with
  | bad => rw [q] at post; exact post
  | exc x s => rw [q] at post; exact fun W1 H1 cls d a rx => post σ W1 H1 cls d a.rel.bare (kb.trans a.kb).none rx
  | ok evs s =>
    rw [q] at post
    intro W' H' ws P v
    simp only [bindF] at post
    split at post
    · rename_i hl
      have ev := v.ve.len
      obtain ⟨r2, o2⟩ := Rel.sets v.ve is hl.symm v.rel (fun p hp => (v.new p hp).2) (fun _ z => z)
      refine ⟨ev.trans hl, post _ W' H' r2 (kb.trans ⟨fun b o h n _ t => v.kp b o h n t, v.nt, v.pre, v.fr, fun b z => ?_⟩)⟩
      rcases o2 b z with y | y
      · exact .inl y
      · exact .inr (v.new b y).1
    · exact post.elim
theorem s_par2 {i j : Nat} (h : PS X s1 (tPar i j (tV X.K X.mg tb Wx m))) : SOk X tb Wx s1 (sPar [i, j] m) := PS_mono h fun D σ H hs => by
  obtain ⟨Mx, W, env, st, rel, post⟩ := par_read hs
  refine ⟨Mx, W, env, st, rel, ?_⟩
  cases q : m env st with
  | bad => rw [q] at post; exact post
  | exc x s => rw [q] at post; exact post
  | ok evs s =>
    rw [q] at post
    intro W' H' ws P v
    obtain ⟨h1, h2⟩ := post W' H' ws P v
    match ws, h1, h2 with
    | [a, b], _, h2 => exact ⟨a, b, rfl, h2⟩
end
end Mp
end
section
set_option maxRecDepth 100000
set_option maxHeartbeats 1000000
namespace Mp
open PySem PySem.Spec PyProof.Rows L2
structure GnOk (N : List Str) (sc scope : Scope) (own : List (Str × Nat)) : Prop where
  kind : scope.kind = .function
  co : scope.isCoroutine = false
  nocell : ∀ y ∈ scope.names, y.2 ≠ .cell
  dot : scope.names.lookup (".0" : Str) = some NameKind.local
  ix : ∀ p ∈ own, N[p.2]? = some p.1
  free : ∀ y ∈ scope.names, y.2 = .free → sc.names.lookup y.1 = some .cell ∨ sc.names.lookup y.1 = some .free
  own : ∀ y ∈ scope.names, y.2 = .local → y.1 ∈ own.map (·.1) ∨ y.1 ∉ N
abbrev gxOf (X : Cx) (s : Shared) (H : Hp) (cenv : Env) (fp : List Addr) : Cx :=
  { X with A := X.A.in1.in1.deeper cenv, s_0 := s, H_0 := H, env := cenv, outer := X.stack, stack := cenv :: X.stack, ex := fp, fn := fun _ => false, pn := [], xe := fun _ _ => False }
abbrev genE (X : Cx) (scope : Scope) (C : Addr) (code : Value) : Env := genEnv scope (cloFrom X.env.cells scope.names []) C code builtinsNs X.env
section
variable {X : Cx} {pins : List (Addr × Obj)} {σ : L2.St} {H : Hp} {s : Shared}
theorem gen_start {scope : Scope} {own : List (Str × Nat)} {fp : List Addr} (I : Inv X pins σ H s) (ok : GnOk X.N X.env.scope scope own) (hN : X.N.Nodup) (hfp : ∀ b ∈ fp, FpOk X pins H b ∧ b < s.heap.objs.size)
    {h' : Heap} {g' : Array GenState} {t' : Nat} {m : Str → Option Value} (hn : h'.Ns s.heap.objs.size m) (kp : ∀ b o, s.heap.get? b = some o → h'.get? b = some o) (hg : AllBare g') (code : Value) :
    Inv (gxOf X s H (genE X scope s.heap.objs.size code) fp) [] (wipe σ (own.map (·.2))) H { s with heap := h', gens := g', toks := t' } := by
  have hfree : ∀ y ∈ scope.names, y.2 = .free → ∃ c, X.env.cells.lookup y.1 = some c := fun y hy e => by
    rcases ok.free y hy e with k | k
    · exact I.ok.has _ (.inl k)
    · exact I.ok.has _ (.inr k)
  generalize hcenv : genE X scope s.heap.objs.size code = cenv
  have hL : cenv.locals = s.heap.objs.size := by rw [← hcenv]; rfl
  have hcl : cenv.cells = cloFrom X.env.cells scope.names [] := by rw [← hcenv]; rfl
  have hsc : cenv.scope = scope := by rw [← hcenv]; rfl
  have cm : ∀ {y c}, (y, c) ∈ cloFrom X.env.cells scope.names [] → X.env.cells.lookup y = some c ∧ c < s.heap.objs.size := fun {y c} hm => by
    rcases cloFrom_mem hm with hm | ⟨h1, rfl⟩
    · cases hm
    · obtain ⟨c, hc⟩ := hfree _ h1 rfl
      rw [hc]
      obtain ⟨w, z⟩ := I.cell _ _ hc
      exact ⟨rfl, z.lt⟩
  have mem : ∀ {y c}, cenv.cells.lookup y = some c → X.env.cells.lookup y = some c ∧ c < s.heap.objs.size := fun {y c} e => by
    rw [hcl] at e
    exact cm (PySem.mem_of_lookup e)
  have look : ∀ {y}, scope.names.lookup y = some .free → ∃ c, cenv.cells.lookup y = some c ∧ X.env.cells.lookup y = some c := fun {y} hl => by
    have hy : (y, NameKind.free) ∈ scope.names := PySem.mem_of_lookup hl
    obtain ⟨c', e'⟩ := mem_lookup (cloFrom_has (cells := X.env.cells) (acc := []) hy)
    rw [← hcl] at e'
    exact ⟨c', e', (mem e').1⟩
  have okB : (gxOf X s H cenv fp).Ok := by
    refine ⟨I.ok.mod, by show cenv.scope.kind = _; rw [hsc]; exact ok.kind, by show cenv.globals = _; rw [← hcenv]; exact I.ok.glob, by show cenv.builtins = _; rw [← hcenv]; rfl, by show s.heap.objs.size ≤ cenv.locals; rw [hL]; exact Nat.le_refl _,
      fun y z c e1 e2 => I.ok.inj y z c (mem e1).1 (mem e2).1, fun y hy => ?_, fun y c z e => (Bool.false_ne_true z).elim, I.ok.hd, Around.frames_deeper I.ok.frames, .inr ⟨rfl, ?_⟩, fun b hb => ⟨?_, fun y c e z => ?_⟩, I.bs, Nat.le_trans I.ok.bsz I.sz, fun b o e hb => ?_, fun b hb z => ?_, I.stack, I.stkFree⟩
    · show ∃ c, cenv.cells.lookup y = some c
      rcases hy with hy | hy
      · have hy : cenv.scope.names.lookup y = some .cell := hy
        rw [hsc] at hy
        exact absurd rfl (ok.nocell _ (PySem.mem_of_lookup hy))
      · have hy : cenv.scope.names.lookup y = some .free := hy
        rw [hsc] at hy
        obtain ⟨c, h1, _⟩ := look hy
        exact ⟨c, h1⟩
    · show cenv.frame = some cenv.locals
      rw [← hcenv]; rfl
    · show b ≠ cenv.locals
      rw [hL]; exact Nat.ne_of_lt (hfp b hb).2
    · exact (hfp b hb).1.2.2.2.2.1 y c (mem e).1 z
    · rcases (hfp b hb).1.2.2.2.1 with z | z
      · exact I.ok.noex b o e z
      · exact absurd (Nat.lt_of_lt_of_le (Heap.lt_size e) (Nat.le_trans I.ok.bsz z)) (Nat.lt_irrefl _)
    · rcases List.mem_cons.mp (I.stkSub b z) with z | z
      · exact (hfp b hb).1.2.1 z
      · exact (hfp b hb).1.2.2.1 z
  refine ⟨okB, rfl, hg, Un.kept kp, ⟨m, ?_, fun i y av e1 e2 e3 => ?_⟩, fun y c e => ?_, ?_, fun y c e => I.freeC y c (mem e).1, fun p hp => ?_, I.hok.kept kp, by rw [wipe_length]; exact I.len⟩
  · show Heap.Ns _ cenv.locals _
    rw [hL]
    exact hn
  · obtain ⟨e2, hne⟩ := wipe_some e2
    have hfr : scope.names.lookup y = some .free := by
      have e3 : Vis cenv.scope y := e3
      rw [hsc] at e3
      rcases e3 with e3 | e3 | e3
      · rcases ok.own _ (PySem.mem_of_lookup e3) rfl with e' | e'
        · obtain ⟨p, hp, hpy⟩ := List.mem_map.mp e'
          have e3 := ok.ix p hp
          have : p.1 = y := hpy
          rw [this] at e3
          exact absurd (List.mem_map.mpr ⟨p, hp, nodup_ix hN e3 e1⟩) hne
        · exact absurd (List.mem_of_getElem? e1) e'
      · exact absurd rfl (ok.nocell _ (PySem.mem_of_lookup e3))
      · exact e3
    obtain ⟨m, hn, hl⟩ := I.loc
    have hvis : Vis X.env.scope y := (ok.free _ (PySem.mem_of_lookup hfr) rfl).elim (fun k => .inr (.inl k)) (fun k => .inr (.inr k))
    obtain ⟨w, r, q⟩ := hl i y av e1 e2 hvis
    have hk : cenv.kindOf y = some .free := by show cenv.scope.names.lookup y = _; rw [hsc]; exact hfr
    refine ⟨w, r, .inr ⟨.inr hk, ?_⟩⟩
    obtain ⟨c, h1, h2⟩ := look hfr
    rcases q with ⟨k, _⟩ | ⟨_, c', e', z⟩
    · have k : X.env.scope.names.lookup y = some .local := k
      rcases ok.free _ (PySem.mem_of_lookup hfr) rfl with k' | k' <;> rw [show X.env.scope.names.lookup y = _ from k'] at k <;> cases k
    · rw [h2] at e'; cases e'
      exact ⟨c, h1, z.keeps kp⟩
  · obtain ⟨w, z⟩ := I.cell y c (mem e).1
    exact ⟨w, z.keeps kp⟩
  · show H cenv.locals = none
    rw [hL]; exact I.hok.fresh (Nat.le_refl _)
  · exact absurd (show p ∈ ([] : List (Addr × Obj)) ++ [] from hp) (by simp)
theorem over_compL {A : Around} {e : Expr} {it acc : Value} {env : Env} {elt : Expr} {gs : List Comprehension} {sc : Scope} {pos : Pos} (he : e = .GeneratorExp elt gs sc pos) : A.over (.compLoop e 0 it acc env) [] = A.deeper env := by
  subst he
  first
    | rfl
    | (obtain ⟨hd, d, fr, gs, u⟩ := A; simp [Around.over, Around.deeper, marksOver, frameCount, unitsOf, envsOf, guardsOf, pushEnvs, pushGuards, Code.envs, Code.env?, Code.isFrame, Code.guards, Code.isGuard, Code.weight, Code.frames, Code.isCreation, Code.isCaller, Code.cUnits])
theorem inv_gens {g' : Array GenState} {t' : Nat} (I : Inv X pins σ H s) (hg : AllBare g') : Inv X pins σ H { s with gens := g', toks := t' } :=
  ⟨I.ok, I.os, hg, I.base, I.loc, I.cell, I.free, I.freeC, I.pin, I.hok, I.len⟩
def GCourse (J : It) (g : TG) (tt : TT) (te : TE) (vs : List Nat) (σ : L2.St) (sp : Nat → Bool) (Yd : Nat → V → Hp → Prop) (Fin : Hp → Prop) (W : Nat → Nat → Nat → Hp → Prop) : Prop :=
  ∀ i r m H, W i r m H → (J.stop i H ∧ r = 0 ∧ Fin H) ∨ (J.go i H ∧ ∃ Nx : Nat → Hp → Prop, (∀ r' H', Nx r' H' → ∃ m', m' < m ∧ W (i + 1) r' m' H') ∧
    ∀ x H', J.yld i H x H' → g x (wipe σ vs) H' fun σ2 H2 => wipe σ2 vs = wipe σ vs ∧ tt σ2 H2 fun b H3 =>
      if b = true then te σ2 H3 fun y H4 => ∃ r', r = r' + 1 ∧ Yd r' y H4 ∧ (sp r' = false → Nx r' H4) else Nx r H3)
def GYd (Y : Cx) (L : Nat) (Pn : Nat → List (Addr × Obj) → Prop) (sp : Nat → Bool) (Yd : Nat → V → Hp → Prop) : Protocol := fun n s₀ v s kap =>
  ∃ k y H' σ' pk ip, n = k + 1 ∧ Pn (k + 1) pk ∧ (∀ p ∈ ip, p.1 < L) ∧ RelV y v ∧ Inv Y (pk ++ ip) σ' H' s ∧ Yd k y H' ∧ (sp k = false → ∀ pk' s'', Pn k pk' → Inv Y (pk' ++ ip) σ' H' s'' → kap (.send .none) s'')
def GFin (Y : Cx) (Pn : Nat → List (Addr × Obj) → Prop) (Fin : Hp → Prop) : Nat → Shared → Shared → Prop := fun n _ s => n = 1 ∧ ∃ H' σ' pk, Pn 0 pk ∧ Inv Y pk σ' H' s ∧ Fin H'
section
variable {X : Cx} {s0 : Shared} {H0 : Hp} {scope : Scope} {C : Addr} {code : Value} {fp : List Addr} {elt tg iter : Expr} {ifs : List Expr} {pos : Pos} {it : Addr} {tn : Nat → Heap → Prop} {J : It} {g : TG} {tt : TT} {te : TE} {vs : List Nat} {σ : L2.St}
  {Pn : Nat → List (Addr × Obj) → Prop} {sp : Nat → Bool} {Yd : Nat → V → Hp → Prop} {Fin : Hp → Prop} {W : Nat → Nat → Nat → Hp → Prop} {cenv : Env}
theorem gseg_loop (hce : cenv.scope.isCoroutine = false) (hc : X.calm = true) (T : Turn X.prog X.w X.K tg J fp it tn) (hPn : ∀ r pk, Pn r pk → ∀ p ∈ pk, p.1 ∉ fp) (hfL : ∀ b ∈ fp, b < s0.heap.objs.size)
    (pg : PG (gxOf X s0 H0 cenv fp) tg g) (pt : PTs (gxOf X s0 H0 cenv fp) ifs tt) (pe : PE (gxOf X s0 H0 cenv fp) elt te) (hW : GCourse J g tt te vs σ sp Yd Fin W) :
    ∀ (m r i : Nat) (s₀ s : Shared) (H' : Hp) (pk : List (Addr × Obj)), Pn r pk → Inv (gxOf X s0 H0 cenv fp) pk (wipe σ vs) H' s → tn i s.heap → (∀ b ∈ fp, H' b = none) → W i r m H' →
      Seg (model X.prog X.w) X.A.in1.in1 (fun n s₀ r s₁ => r = .ok .next ∧ GFin (gxOf X s0 H0 cenv fp) Pn Fin n s₀ s₁) (GYd (gxOf X s0 H0 cenv fp) s0.heap.objs.size Pn sp Yd) (r + 1) s₀
        (.compLoop (.GeneratorExp elt [⟨tg, iter, ifs, 0⟩] scope pos) 0 (.ref it) .none cenv) ((model X.prog X.w).den (.compLoop (.GeneratorExp elt [⟨tg, iter, ifs, 0⟩] scope pos) 0 (.ref it) .none cenv)) [] s := by
  intro m
  induction m using Nat.strongRecOn with
  | ind m ih =>
  intro r i s₀ s H' pk hpk I5 st5 n5 w5
  have ov : X.A.in1.in1.over (.compLoop (.GeneratorExp elt [⟨tg, iter, ifs, 0⟩] scope pos) 0 (.ref it) .none cenv) [] = X.A.in1.in1.deeper cenv := over_compL rfl
  have stat : ∀ {σ' : L2.St} {H' : Hp} {s' : Shared}, Inv (gxOf X s0 H0 cenv fp) pk σ' H' s' → (∀ b ∈ fp, H' b = none) → ∀ b ∈ fp, FpOk (gxOf X s0 H0 cenv fp) pk H' b := fun {σ' H' s'} I' hn b hb =>
    ⟨hn b hb, (I'.ok.exf b hb).1, I'.ok.exfs b hb, .inl hb, fun x c e => (I'.ok.exf b hb).2 x c e, fun p hp z => hPn r pk hpk p (show p ∈ pk from hp) (z ▸ hb)⟩
  show Seg _ _ _ _ _ s₀ _ ((compTurn (.GeneratorExp elt [⟨tg, iter, ifs, 0⟩] scope pos) 0 (.ref it) .none cenv).onRaise (leaving cenv)) [] s
  rw [compTurn_gen, Sem.onRaise_eq_wrap]
  refine seg_bind_wrap (wpAny_standAt ?_)
  rcases hW i r m H' w5 with ⟨stop, hr, fin⟩ | ⟨go, Nx, hNx, step⟩
  · have td := T.done (gxOf X s0 H0 cenv fp) rfl rfl rfl hc i pk s _ H' (fun _ _ => False) I5 (stat I5 n5) st5 stop
    refine seg_bind_wrap ?_
    rw [ov]
    refine thnF td fun u s6 ⟨hu, I6⟩ => ?_
    subst hu
    exact seg_end (.ok .next) ⟨rfl, by rw [hr], H', _, pk, hr ▸ hpk, I6, fin⟩
  · have ti := T.item (gxOf X s0 H0 cenv fp) rfl rfl rfl hc i pk s _ H' (fun _ _ => False) I5 (stat I5 n5) st5 go
    refine seg_bind_wrap ?_
    rw [ov]
    refine thnF ti fun u s6 ⟨v, hu, h6⟩ => ?_
    subst hu
    refine seg_bind_wrap ?_
    rw [ov]
    refine thnF h6 fun _ s7 ⟨x, H7, I7, r7, y7, st7, n7⟩ => ?_
    have I7' := I7.pinned (stat I7 n7) (T.obj _ _ st7)
    refine seg_bind_wrap ?_
    rw [ov]
    refine thnF (pg.run _ s7 _ H7 x v _ I7' r7 (step x H7 y7)) fun _ s8 ⟨σ8, H8, I8, hw8, q8⟩ => ?_
    refine seg_bind_wrap ?_
    rw [ov]
    refine thnF (pt.run _ s8 σ8 H8 _ I8 q8) fun b s9 ⟨H9, I9, q9⟩ => ?_
    have fin : ∀ {s' s₀' : Shared} {H' : Hp} {r' : Nat} {pk' : List (Addr × Obj)}, Pn r' pk' → Inv (gxOf X s0 H0 cenv fp) (pk' ++ pinsAt fp s7.heap) σ8 H' s' → Nx r' H' →
        Seg (model X.prog X.w) X.A.in1.in1 (fun n s₀ r s₁ => r = .ok .next ∧ GFin (gxOf X s0 H0 cenv fp) Pn Fin n s₀ s₁) (GYd (gxOf X s0 H0 cenv fp) s0.heap.objs.size Pn sp Yd) (r' + 1) s₀'
        (.compLoop (.GeneratorExp elt [⟨tg, iter, ifs, 0⟩] scope pos) 0 (.ref it) .none cenv) ((model X.prog X.w).den (.compLoop (.GeneratorExp elt [⟨tg, iter, ifs, 0⟩] scope pos) 0 (.ref it) .none cenv)) [] s' := fun {s' s₀' H' r' pk'} hpk' I' nx => by
      obtain ⟨m', hm, w'⟩ := hNx r' H' nx
      have pin' : ∀ b ∈ fp, ∀ o, s7.heap.get? b = some o → s'.heap.get? b = some o ∧ H' b = none := fun b hb o e =>
        let z := I'.pin (b, o) (List.mem_append_right _ (List.mem_append_right _ (mem_pinsAt hb e)))
        ⟨z.1, z.2.1⟩
      have hl : (wipe σ vs).length = σ8.length := by rw [← hw8, wipe_length]
      refine ih m' hm r' (i + 1) s₀' s' H' pk' hpk' ((I'.unpinned (pins := pk')).weak hl (fun j v e => ?_)) (T.keep _ _ _ st7 fun b hb o e => (pin' b hb o e).1) (fun b hb => ?_) w'
      · rw [← hw8] at e
        exact (wipe_some e).1
      · obtain ⟨o, e, _⟩ := T.obj _ _ st7 b hb
        exact (pin' b hb o e).2
    cases b with
    | false =>
      simp only [Bool.false_eq_true, if_false] at q9 ⊢
      exact seg_again rfl (fin hpk I9 q9)
    | true =>
      simp only [if_true] at q9 ⊢
      have hy : ∀ v, yieldOut cenv v = yieldValue v := fun v => by simp only [yieldOut, hce, Bool.false_eq_true, if_false]
      simp only [hy]
      rw [Sem.bind_eq_wrap', Sem.bind_eq_wrap', Sem.wrap_wrap, Sem.wrap_wrap]
      refine seg_wrap ?_
      rw [ov]
      refine thnF (pe.run _ s9 σ8 H9 _ I9 q9) fun z s10 ⟨yv, H10, I10, r10, r', hr, yd, nx⟩ => ?_
      subst hr
      refine seg_at (seg_yield rfl rfl rfl ⟨r', yv, H10, σ8, pk, pinsAt fp s7.heap, rfl, hpk, fun p hp => hfL _ (of_pinsAt hp).1, r10, I10, yd, fun hsp pk' s'' hpk' I'' => ?_⟩)
      exact seg_again rfl (fin hpk' I'' (nx hsp))
theorem gseg_start (hce : cenv.scope.isCoroutine = false) (hc : X.calm = true) (T : Turn X.prog X.w X.K tg J fp it tn) (hPn : ∀ r pk, Pn r pk → ∀ p ∈ pk, p.1 ∉ fp) (hfL : ∀ b ∈ fp, b < s0.heap.objs.size)
    (pg : PG (gxOf X s0 H0 cenv fp) tg g) (pt : PTs (gxOf X s0 H0 cenv fp) ifs tt) (pe : PE (gxOf X s0 H0 cenv fp) elt te) (hW : GCourse J g tt te vs σ sp Yd Fin W)
    (m r i : Nat) (s₀ s : Shared) (H' : Hp) (pk : List (Addr × Obj)) (hpk : Pn r pk) (I5 : Inv (gxOf X s0 H0 cenv fp) pk (wipe σ vs) H' s) (st5 : tn i s.heap) (n5 : ∀ b ∈ fp, H' b = none) (w5 : W i r m H') :
      Seg (model X.prog X.w) X.A.in1.in1 (fun n s₀ r s₁ => r = .ok .next ∧ GFin (gxOf X s0 H0 cenv fp) Pn Fin n s₀ s₁) (GYd (gxOf X s0 H0 cenv fp) s0.heap.objs.size Pn sp Yd) (r + 1) s₀
        (.compStart (.GeneratorExp elt [⟨tg, iter, ifs, 0⟩] scope pos) 0 (.ref it) .none cenv) ((model X.prog X.w).den (.compStart (.GeneratorExp elt [⟨tg, iter, ifs, 0⟩] scope pos) 0 (.ref it) .none cenv)) [] s := by
  have loop := gseg_loop (iter := iter) (scope := scope) (pos := pos) hce hc T hPn hfL pg pt pe hW m r i s₀ s H' pk hpk I5 st5 n5 w5
  show Seg _ _ _ _ _ s₀ _ ((compStart (.GeneratorExp elt [⟨tg, iter, ifs, 0⟩] scope pos) 0 (.ref it) .none cenv).onRaise (leaving cenv)) [] s
  unfold compStart
  rw [Sem.onRaise_eq_wrap]
  show Seg _ _ _ _ _ s₀ _ ((ask >>= _).wrap _ _ _ _) [] s
  refine seg_bind_wrap (wpAny_askSetting ?_)
  split
  · exact seg_again rfl loop
  · first
      | exact seg_bind_wrap (wpAny_rule (seg_bind_wrap (wpAny_standAt (seg_bind_wrap (T.self _ i s _ _ st5 (seg_again rfl loop))))))
      | (refine seg_bind_wrap (wpAny_rule ?_); show Seg _ _ _ _ _ s₀ _ ((standAt iter.pos >>= _).wrap _ _ _ _) [] s; exact seg_bind_wrap (wpAny_standAt (seg_bind_wrap (T.self _ i s _ _ st5 (seg_again rfl loop)))))
end
end
end Mp
end
section
set_option maxRecDepth 100000
set_option maxHeartbeats 1000000
namespace Mp
open PySem PySem.Spec PyProof.Rows L2 GenW
section
variable {X Y : Cx} {L a : Nat} {gi : Nat} {Pn : Nat → List (Addr × Obj) → Prop} {sp : Nat → Bool} {Yd : Nat → V → Hp → Prop} {Fin : Hp → Prop} {r : Nat} {s : Shared}
abbrev GGo (X Y : Cx) (L : Nat) (Pn : Nat → List (Addr × Obj) → Prop) (sp : Nat → Bool) (Yd : Nat → V → Hp → Prop) (Fin : Hp → Prop) (gs : GenState) (r : Nat) (s : Shared) : Prop :=
  gs.Goes (model X.prog X.w) X.A.in1.in1 (fun n s₀ r s₁ => r = .ok .next ∧ GFin Y Pn Fin n s₀ s₁) (GYd Y L Pn sp Yd) (r + 1) (.send .none) s
def GAt (X Y : Cx) (L gi : Nat) (Pn : Nat → List (Addr × Obj) → Prop) (sp : Nat → Bool) (Yd : Nat → V → Hp → Prop) (Fin : Hp → Prop) (r : Nat) (s : Shared) : Prop :=
  ∃ gs pk ip σ' H', s.gens[gi]? = some gs ∧ Pn r pk ∧ (∀ p ∈ ip, p.1 < L) ∧ Inv Y (pk ++ ip) σ' H' s ∧ ∀ pk' s', Pn r pk' → Inv Y (pk' ++ ip) σ' H' s' → GGo X Y L Pn sp Yd Fin gs r s'
theorem inv_setGen {pins : List (Addr × Obj)} {σ : L2.St} {H : Hp} {x : GenState} (I : Inv Y pins σ H s) (hx : x.bare = true) : Inv Y pins σ H (s.setGen gi x) :=
  inv_gens (t' := s.toks) I (allBare_setGen I.bare hx)
theorem gnext {Q : Option Value → Shared → Prop} {E : Value → Shared → Prop} (hh : X.A.handled = none) (hroom : X.A.depth < recursionLimit)
    (hga : ∀ r pk, Pn r pk → ∃ o, (a, o) ∈ pk ∧ ∀ h : Heap, h.get? a = some o → h.IsGen a gi) (h : GAt X Y L gi Pn sp Yd Fin r s)
    (hY : ∀ n v s1 y H' σ' pk ip, r = n + 1 → Pn r pk → (∀ p ∈ ip, p.1 < L) → RelV y v → Inv Y (pk ++ ip) σ' H' s1 → Yd n y H' →
      (sp n = false → ∀ pk' h' t', Pn n pk' → Inv Y (pk' ++ ip) σ' H' { s1 with heap := h', toks := t' } → GAt X Y L gi Pn sp Yd Fin n { s1 with heap := h', toks := t' }) → Q (some v) s1)
    (hP : r = 0 → ∀ s1 H' σ' pk, Pn 0 pk → Inv Y pk σ' H' s1 → Fin H' → Q none s1) : wpAny (model X.prog X.w) X.A.in1 (pyNext (.ref a)) Q E s := by
  obtain ⟨gs, pk, ip, σ', H', hgs, hpk, hip, I, hgo⟩ := h
  obtain ⟨o, ho, hog⟩ := hga r pk hpk
  have hpin := I.pin (a, o) (List.mem_append_right _ (List.mem_append_left _ ho))
  have hgl : gi < s.gens.size := (Array.getElem?_eq_some_iff.mp hgs).1
  refine wpAny_gsz (n := gi + 1) hgl ?_
  refine wpAny_pyNext_genexpQ (A := X.A.in1) (n := r + 1) (P := GFin Y Pn Fin) (Y := GYd Y L Pn sp Yd) hh I.nolimit hroom (hog _ hpin.1) hgs (hgo pk _ hpk (inv_setGen I rfl)) (fun v s₁ gs' hb hv => ?_) (fun s₁ hp h' hk => ?_)
  · intro hsz
    have hsz1 : gi < s₁.gens.size := by
      have q : (s₁.setGen gi gs').gens.size = s₁.gens.size := setGen_size _ _ _
      have hsz' : gi + 1 ≤ (s₁.setGen gi gs').gens.size := hsz
      omega
    obtain ⟨n, y, H1, σ1, pk1, ip1, hr, hpk1, hip1, rv, I1, yd, kap⟩ := hv
    have hr' : r = n + 1 := hr
    subst hr'
    refine hY n v _ y H1 σ1 pk1 ip1 rfl hpk1 hip1 rv (inv_setGen I1 hb) yd fun hsp pk' h' t' hpk' I' => ?_
    exact ⟨gs', pk', ip1, σ1, H1, setGen_at hsz1, hpk', hip1, I', fun pk2 s2 hpk2 I2 => kap hsp pk2 s2 hpk2 I2⟩
  · intro _
    obtain ⟨hr, H1, σ1, pk1, hpk1, I1, fin⟩ := hp
    have J := (inv_setGen (gi := gi) (x := .finished) I1 rfl).kept (h' := h') (t' := s₁.toks) hk
    exact hP (by omega) _ H1 σ1 pk1 hpk1 J fin
theorem any_loop {R : Result → Shared → Prop} (hh : X.A.handled = none) (hroom : X.A.depth < recursionLimit)
    (hga : ∀ r pk, Pn r pk → ∃ o, (a, o) ∈ pk ∧ ∀ h : Heap, h.get? a = some o → h.IsGen a gi) (hpn : ∀ r r' pk, Pn r pk → Pn r' pk) (hb : ∀ n y H, Yd n y H → y = .bl (sp n))
    (hT : ∀ n y s' H' σ' pins, Inv Y pins σ' H' s' → Yd n y H' → sp n = true → R (.ok (.ret (.bool true))) s') (hF : ∀ s' H' σ' pins, Inv Y pins σ' H' s' → Fin H' → R (.ok (.ret (.bool false))) s') :
    ∀ (r : Nat) (s : Shared), GAt X Y L gi Pn sp Yd Fin r s → codeAny (model X.prog X.w) X.A (.builtin "any.loop" ⟨[.ref a], []⟩) R s := by
  intro r
  induction r with
  | zero =>
    intro s h
    refine codeAny_builtin F.entry_any_loop ?_
    rw [Around.under_plainId F.plain_any_loop _]
    show wpAny _ X.A.in1 (pyNext (.ref a) >>= _) _ _ s
    refine wpAny_bind (gnext hh hroom hga h (fun n v s1 y H' σ' pk ip hr hpk hip rv I yd go => by omega) fun _ s1 H' σ' pk hpk I fin => ?_)
    exact wpAny_bind (wpAny_rule (wpAny_pure (hF s1 H' σ' pk I fin)))
  | succ k ih =>
    intro s h
    refine codeAny_builtin F.entry_any_loop ?_
    rw [Around.under_plainId F.plain_any_loop _]
    show wpAny _ X.A.in1 (pyNext (.ref a) >>= _) _ _ s
    refine wpAny_bind (gnext hh hroom hga h (fun n v s1 y H' σ' pk ip hr hpk hip rv I yd go => ?_) fun hr => by omega)
    have hn : k = n := by omega
    subst hn
    have e := hb k y H' yd
    subst e
    have rv : v = .bool (sp k) := rv
    subst rv
    refine wpAny_bind (wpAny_holding (wpAny_truthy_bool ?_))
    refine wpAny_bind (wpAny_letGo ?_)
    cases q : sp k with
    | true =>
      simp only [if_true]
      exact wpAny_bind (wpAny_rule (wpAny_pure (hT k _ s1 H' σ' _ I yd q)))
    | false =>
      simp only [Bool.false_eq_true, if_false]
      exact wpAny_pure ⟨plainId_quiet F.plain_any_loop _, ih _ (go q pk s1.heap s1.toks (hpn _ _ _ hpk) I)⟩
theorem all_loop {R : Result → Shared → Prop} (hh : X.A.handled = none) (hroom : X.A.depth < recursionLimit)
    (hga : ∀ r pk, Pn r pk → ∃ o, (a, o) ∈ pk ∧ ∀ h : Heap, h.get? a = some o → h.IsGen a gi) (hpn : ∀ r r' pk, Pn r pk → Pn r' pk) (hb : ∀ n y H, Yd n y H → y = .bl (!sp n))
    (hT : ∀ n y s' H' σ' pins, Inv Y pins σ' H' s' → Yd n y H' → sp n = true → R (.ok (.ret (.bool false))) s') (hF : ∀ s' H' σ' pins, Inv Y pins σ' H' s' → Fin H' → R (.ok (.ret (.bool true))) s') :
    ∀ (r : Nat) (s : Shared), GAt X Y L gi Pn sp Yd Fin r s → codeAny (model X.prog X.w) X.A (.builtin "all.loop" ⟨[.ref a], []⟩) R s := by
  intro r
  induction r with
  | zero =>
    intro s h
    refine codeAny_builtin F.entry_all_loop ?_
    rw [Around.under_plainId F.plain_all_loop _]
    show wpAny _ X.A.in1 (pyNext (.ref a) >>= _) _ _ s
    refine wpAny_bind (gnext hh hroom hga h (fun n v s1 y H' σ' pk ip hr hpk hip rv I yd go => by omega) fun _ s1 H' σ' pk hpk I fin => ?_)
    exact wpAny_bind (wpAny_rule (wpAny_pure (hF s1 H' σ' pk I fin)))
  | succ k ih =>
    intro s h
    refine codeAny_builtin F.entry_all_loop ?_
    rw [Around.under_plainId F.plain_all_loop _]
    show wpAny _ X.A.in1 (pyNext (.ref a) >>= _) _ _ s
    refine wpAny_bind (gnext hh hroom hga h (fun n v s1 y H' σ' pk ip hr hpk hip rv I yd go => ?_) fun hr => by omega)
    have hn : k = n := by omega
    subst hn
    have e := hb k y H' yd
    subst e
    have rv : v = .bool (!sp k) := rv
    subst rv
    refine wpAny_bind (wpAny_holding (wpAny_truthy_bool ?_))
    refine wpAny_bind (wpAny_letGo ?_)
    cases q : sp k with
    | true =>
      simp only [Bool.not_true, Bool.false_eq_true, if_false]
      exact wpAny_bind (wpAny_rule (wpAny_pure (hT k _ s1 H' σ' _ I yd q)))
    | false =>
      simp only [Bool.not_false, if_true]
      exact wpAny_pure ⟨plainId_quiet F.plain_all_loop _, ih _ (go q pk s1.heap s1.toks (hpn _ _ _ hpk) I)⟩
end
end Mp
end
section
set_option maxRecDepth 100000
set_option maxHeartbeats 1000000
namespace Mp
open PySem PySem.Spec PyProof.Rows L2 GenW GxR
structure GM (X : Cx) (pins : List (Addr × Obj)) (σ : L2.St) (vs : List Nat) (scope : Scope) (elt tg iter : Expr) (ifs : List Expr) (pos : Pos) (J : It) (H2 : Hp) (s4 : Shared) (code : Value) (fp : List Addr) (it : Addr) (tn : Nat → Heap → Prop) (a gi : Nat) (o : Obj) (s5 : Shared) : Prop where
  inv : Inv X pins σ H2 s4
  turn : Turn X.prog X.w X.K tg J fp it tn
  fpo : ∀ b ∈ fp, FpOk X pins H2 b ∧ b < s4.heap.objs.size
  st : tn 0 s5.heap
  invG : Inv (gxOf X s4 H2 (genE X scope s4.heap.objs.size code) fp) [] (wipe σ vs) H2 s5
  obj : s5.heap.get? a = some o
  isG : ∀ h : Heap, h.get? a = some o → h.IsGen a gi
  above : s4.heap.objs.size < a
  cel : ∀ v, o.data ≠ .cell v
  gen : s5.gens[gi]? = some (.fresh (.compStart (.GeneratorExp elt [⟨tg, iter, ifs, 0⟩] scope pos) 0 (.ref it) .none (genE X scope s4.heap.objs.size code)))
section
variable {X : Cx} {pins : List (Addr × Obj)} {σ : L2.St} {H : Hp} {s : Shared}
theorem gen_make {c P : Addr} {elt tg iter : Expr} {ifs : List Expr} {gpos : Pos} {scope : Scope} {own : List (Str × Nat)} {wi : TI} {Q' : Value → Shared → Prop} {R : It → Hp → Prop}
    (hh : X.calm = true) (hroom : X.A.depth < recursionLimit) (TB : TabB X.base X.mg c P) (hcode : X.env.code = .ref c) (S : GnOk X.N X.env.scope scope own) (hN : X.N.Nodup) (hi : PI X tg iter wi)
    (hs : ∀ v, genFold iter X.env v = pure v) (I : Inv X pins σ H s) (h : wi σ H fun J H1 => TabG H1 P ∧ R J H1)
    (hQ : ∀ J H1 H2 s4 code fp it tn a gi o s5, R J H1 → Tabbed P H1 H2 → GM X pins σ (own.map (·.2)) scope elt tg iter ifs gpos J H2 s4 code fp it tn a gi o s5 → Q' (.ref a) s5) :
    wpAny (model X.prog X.w) X.A (eval (.GeneratorExp elt [⟨tg, iter, ifs, 0⟩] scope gpos) X.env) Q' X.xe s := by
  have hfree : ∀ y ∈ scope.names, y.2 = .free → ∃ c, X.env.cells.lookup y.1 = some c := fun y hy e => by
    rcases S.free y hy e with k | k
    · exact I.ok.has _ (.inl k)
    · exact I.ok.has _ (.inr k)
  refine wpAny_GeneratorExp_make S.co (closure_ok hfree) S.nocell S.dot S.kind hroom ?_ hs
  refine thn (hi.run pins s σ H _ I h) fun xv s1 hx => thn hx fun itv s2 h2 => ?_
  obtain ⟨it, fp, tn, J, H1, e, I1, T, st1, f1, ⟨ps, hP, ht⟩, hR⟩ := h2
  subst e
  have hPs : s2.heap.get? P = some { cls := .none, data := .fields ps } := I1.hok P _ hP
  have cd : PySem.W.CodeHd s2.heap c P := TB.code.keeps I1.bk
  have nP : ∀ b ∈ fp, b ≠ P := fun b hb z => by
    have := (f1 b hb).1
    rw [z, hP] at this; cases this
  refine ⟨I1.nolimit, ?_⟩
  have cont : ∀ (code : Value) (h3 : Heap) (tk : Nat) (ps' : Array Value), Heap.ExtBut P s2.heap h3 → s2.heap.objs.size ≤ h3.objs.size → h3.get? P = some { cls := .none, data := .fields ps' } → (∃ more, ps' = ps ++ more) → TriplesOk ps'.toList →
      wpAny (model X.prog X.w) X.A (builtinsFor X.env.globals X.env.builtins) (fun bi s₄ =>
        ∀ h', h'.Ns s₄.heap.objs.size (fun y => if y = ".0" then some (.ref it) else none) → Heap.SameBut s₄.heap.objs.size (s₄.heap.push { cls := .type "frame", data := .dict #[] }) h' →
          Q' (.ref h'.objs.size) { s₄ with
            gens := s₄.gens.push (.fresh (.compStart (.GeneratorExp elt [⟨tg, iter, ifs, 0⟩] scope gpos) 0 (.ref it) .none (genEnv scope (cloFrom X.env.cells scope.names []) s₄.heap.objs.size code bi X.env))),
            toks := s₄.toks + 1 + 1 + 1,
            heap := h'.push { cls := .type "generator", data := .fields #[.int s₄.gens.size 0, .str "<genexpr>" (s₄.toks + 1), .str (X.env.qual ++ "<genexpr>") (s₄.toks + 1 + 1)] } }) X.xe { s2 with heap := h3, toks := tk } := by
    intro code h3 tk ps' hx hsz hP3 ⟨more, em⟩ ht3
    obtain ⟨bm, ob, e1, e2, e3, e4, e5, e6, e7, e8⟩ := TB.bm
    refine wpAny_builtinsFor (m := X.mg) (by rw [I1.ok.glob]; exact (I1.mod.glob.keeps I1.bk).extBut hx TB.gP) e1 e2 (hx _ _ e4 (I1.bk _ _ e5)) e6 e7 e8 ?_
    intro h' hn' hs'
    have I4 : Inv X pins σ (upd H1 P (.tbl (ps ++ more))) { s2 with heap := h3, toks := tk } :=
      inv_tab (more := more) (h' := h3) (g' := s2.gens) (d' := s2.drawn) (t' := tk) I1 hP (fun b u hb e => hx b u hb e) (by rw [← em]; exact hP3) I1.bare
    have hsz' : h'.objs.size = h3.objs.size + 1 := by rw [hs'.1, Heap.size_push]
    have keep' : ∀ b o, h3.get? b = some o → h'.get? b = some o := fun b o e => hs'.extBut b o (Nat.ne_of_lt (Heap.lt_size e)) (Heap.get?_push_of_some _ e)
    have fpo : ∀ b ∈ fp, FpOk X pins (upd H1 P (.tbl (ps ++ more))) b ∧ b < h3.objs.size := fun b hb => by
      obtain ⟨ob, eb, _⟩ := T.obj _ _ st1 b hb
      refine ⟨⟨?_, (f1 b hb).2⟩, Nat.lt_of_lt_of_le (Heap.lt_size eb) hsz⟩
      rw [upd_ne (nP b hb)]; exact (f1 b hb).1
    refine hQ J H1 _ _ code fp it tn _ s2.gens.size _ _ hR ⟨⟨ps ++ more, upd_same, by rw [← em]; exact ht3⟩, fun b hb => upd_ne hb⟩ ⟨I4, T, fpo, ?_, ?_, Heap.get?_push_size _ rfl, fun h eh => ⟨_, _, _, eh, rfl, rfl, rfl⟩, ?_, (fun v q => by cases q), Array.getElem?_push_size ..⟩
    · refine T.keep _ _ _ st1 fun b hb o e => ?_
      exact Heap.get?_push_of_some _ (keep' b o (hx b o (nP b hb) e))
    · refine gen_start (s := { s2 with heap := h3, toks := tk }) (fp := fp) I4 S hN fpo (m := fun y => if y = ".0" then some (.ref it) else none) (hn'.push _) (fun b o e => Heap.get?_push_of_some _ (keep' b o e)) (I1.bare.push rfl) code
    · show h3.objs.size < h'.objs.size
      omega
  cases hf : codeAmong gpos ps.toList with
  | none =>
    refine wpAny_genexprCodeX hcode (cd.code hPs ht) (cd.tab hPs) hf fun c' h' tk hx hge hlt hco' _ htab' _ => ?_
    obtain ⟨o1, vs, f1, tf, fl, tg, inF, tx, tt, op, _, _, _, _, _, _, _, _, _, htr, _⟩ := hco'
    exact cont _ h' tk _ hx (Nat.le_trans hge (Nat.le_of_lt hlt)) htab'.2 ⟨_, rfl⟩ htr
  | some cv =>
    refine wpAny_genexprCode_hit hcode (cd.code hPs ht) hf ?_
    exact cont cv s2.heap s2.toks ps (Heap.ExtBut.refl _ _) (Nat.le_refl _) hPs ⟨#[], by simp⟩ ht
def GRest (P : Addr) (g : TG) (tt : TT) (te : TE) (vs : List Nat) (cons : Nat → (Nat → Bool) → (Nat → V → Hp → Prop) → (Hp → Prop) → VK → Prop) (σ : L2.St) (Q : VK) (J : It) (H1 : Hp) : Prop := ∀ H2, Tabbed P H1 H2 →
  ∃ T sp Yd Fin, ∃ W : Nat → Nat → Nat → Hp → Prop, cons T sp Yd Fin Q ∧ (∃ m, W 0 T m H2) ∧ GCourse J g tt te vs σ sp Yd Fin W
def tGen (P : Addr) (wi : TI) (g : TG) (tt : TT) (te : TE) (vs : List Nat) (cons : Nat → (Nat → Bool) → (Nat → V → Hp → Prop) → (Hp → Prop) → VK → Prop) : TE := fun σ H Q => wi σ H fun J H1 => TabG H1 P ∧ GRest P g tt te vs cons σ Q J H1
def cAny (T : Nat) (sp : Nat → Bool) (Yd : Nat → V → Hp → Prop) (Fin : Hp → Prop) (Q : VK) : Prop := (∀ n y H, Yd n y H → y = .bl (sp n)) ∧ (∀ n y H, Yd n y H → sp n = true → Q (.bl true) H) ∧ ∀ H, Fin H → Q (.bl false) H
def cAll (T : Nat) (sp : Nat → Bool) (Yd : Nat → V → Hp → Prop) (Fin : Hp → Prop) (Q : VK) : Prop := (∀ n y H, Yd n y H → y = .bl (!sp n)) ∧ (∀ n y H, Yd n y H → sp n = true → Q (.bl false) H) ∧ ∀ H, Fin H → Q (.bl true) H
section
variable {c P : Addr} {elt tg iter : Expr} {ifs : List Expr} {gpos p pos : Pos} {scope : Scope} {own : List (Str × Nat)} {wi : TI} {g : TG} {tt : TT} {te : TE}
theorem gm_at {vs : List Nat} {J : It} {H2 : Hp} {s4 s' : Shared} {code : Value} {fp : List Addr} {it : Addr} {tn : Nat → Heap → Prop} {a gi : Nat} {o : Obj} {s5 : Shared} {Pn : Nat → List (Addr × Obj) → Prop} {sp : Nat → Bool} {Yd : Nat → V → Hp → Prop} {Fin : Hp → Prop} {W : Nat → Nat → Nat → Hp → Prop} {T m : Nat} {pk : List (Addr × Obj)}
    (hco : scope.isCoroutine = false) (hh : X.calm = true) (G : GM X pins σ vs scope elt tg iter ifs gpos J H2 s4 code fp it tn a gi o s5) (hPn : ∀ r pk, Pn r pk → ∀ p ∈ pk, p.1 ∉ fp)
    (pg : PG (gxOf X s4 H2 (genE X scope s4.heap.objs.size code) fp) tg g) (pt : PTs (gxOf X s4 H2 (genE X scope s4.heap.objs.size code) fp) ifs tt) (pe : PE (gxOf X s4 H2 (genE X scope s4.heap.objs.size code) fp) elt te)
    (hW : GCourse J g tt te vs σ sp Yd Fin W) (w0 : W 0 T m H2) (hpk : Pn T pk) (I' : Inv (gxOf X s4 H2 (genE X scope s4.heap.objs.size code) fp) pk (wipe σ vs) H2 s') (hg : s'.gens = s5.gens) (hk : ∀ b ∈ fp, ∀ ob, s5.heap.get? b = some ob → s'.heap.get? b = some ob) :
    GAt X (gxOf X s4 H2 (genE X scope s4.heap.objs.size code) fp) s4.heap.objs.size gi Pn sp Yd Fin T s' := by
  have st' : tn 0 s'.heap := G.turn.keep _ _ _ G.st hk
  refine ⟨_, pk, pinsAt fp s'.heap, _, H2, by rw [hg]; exact G.gen, hpk, fun p hp => (G.fpo _ (of_pinsAt hp).1).2, I'.pinned (fun b hb => ?_) (G.turn.obj _ _ st'), fun pk' s'' hpk' I'' => ?_⟩
  · exact ⟨(G.fpo b hb).1.1, (I'.ok.exf b hb).1, I'.ok.exfs b hb, .inl hb, fun x c e => (I'.ok.exf b hb).2 x c e, fun p hp z => hPn T pk hpk p (show p ∈ pk from hp) (z ▸ hb)⟩
  · refine ⟨rfl, gseg_start hco hh G.turn hPn (fun b hb => (G.fpo b hb).2) pg pt pe hW m T 0 s'' s'' H2 pk' hpk' I''.unpinned ?_ (fun b hb => (G.fpo b hb).1.1) w0⟩
    exact G.turn.keep _ _ _ st' fun b hb ob e => (I''.pin (b, ob) (List.mem_append_right _ (List.mem_append_right _ (mem_pinsAt hb e)))).1
theorem gm_back {vs : List Nat} {J : It} {H2 H' : Hp} {s4 s' : Shared} {code : Value} {fp : List Addr} {it : Addr} {tn : Nat → Heap → Prop} {a gi : Nat} {o : Obj} {s5 : Shared} {pins' : List (Addr × Obj)} {σ' : L2.St}
    (G : GM X pins σ vs scope elt tg iter ifs gpos J H2 s4 code fp it tn a gi o s5) (I : Inv (gxOf X s4 H2 (genE X scope s4.heap.objs.size code) fp) pins' σ' H' s') : Inv X pins σ H' s' :=
  G.inv.call' (ch := fp) I.os I.base I.hok I.bare fun b hb => ⟨(G.fpo b hb).1.2.2.2.1, (G.fpo b hb).1.2.1, (G.fpo b hb).1.2.2.2.2.1, (G.fpo b hb).1.2.2.2.2.2⟩
abbrev gxPs (X : Cx) (scope : Scope) (F : Cx → Prop) : Prop := ∀ (s : Shared) (H : Hp) (C : Addr) (code : Value) (fp : List Addr), F (gxOf X s H (genE X scope C code) fp)
theorem pe_anyG (hh : X.calm = true) (hroom : X.A.depth < recursionLimit) (hg : Gl X "any") (hm : X.mg "any" = none) (TB : TabB X.base X.mg c P) (hcode : X.env.code = .ref c) (S : GnOk X.N X.env.scope scope own) (hN : X.N.Nodup) (hi : PI X tg iter wi)
    (pg : gxPs X scope fun Y => PG Y tg g) (pt : gxPs X scope fun Y => PTs Y ifs tt) (pe : gxPs X scope fun Y => PE Y elt te)
    (hs : ∀ v, genFold iter X.env v = pure v := by intro _; rfl)
    (he : starEach [.GeneratorExp elt [⟨tg, iter, ifs, 0⟩] scope gpos] X.env = (false, eval (.GeneratorExp elt [⟨tg, iter, ifs, 0⟩] scope gpos) X.env) :: starEach [] X.env := by rfl) :
    PE X (.Call (.Name "any" p) [.GeneratorExp elt [⟨tg, iter, ifs, 0⟩] scope gpos] [] pos) (tGen P wi g tt te (own.map (·.2)) cAny) := by
  refine ⟨fun pins s σ H Q I h => ?_⟩
  have hd : X.A.handled = none := I.ok.hd hh
  refine wpAny_Call_Name_kw (ld_blt I hg hm boot_any ?_)
  refine PyProof.Rows.callWith_builtin1 ?_ he (by rfl)
  rw [he]
  show wpAny _ _ (spliced ((false, eval (.GeneratorExp elt [⟨tg, iter, ifs, 0⟩] scope gpos) X.env) :: backTo pos (starEach [] X.env))) _ _ s
  refine Calls.spliced_cons (gen_make hh hroom TB hcode S hN hi hs I (show wi σ H (fun J H1 => TabG H1 P ∧ GRest P g tt te (own.map (·.2)) cAny σ Q J H1) from h) fun J H1 H2 s4 code fp it tn a gi o s5 hR hT G => ?_)
  obtain ⟨T, sp, Yd, Fin, W, ⟨c1, c2, c3⟩, ⟨m, w0⟩, hW⟩ := hR H2 hT
  refine Calls.spliced_nil ?_
  have na : ∀ b ∈ fp, b ≠ a := fun b hb z => by
    have h1 := (G.fpo b hb).2; have h2 := G.above
    rw [z] at h1
    exact absurd (Nat.lt_trans h1 h2) (Nat.lt_irrefl _)
  refine call_function_tree F.kind_any F.plain_any F.entry_any (F.args_any1 _) ?_
  unfold Builtin.«any»
  refine wpAny_bind (m := oneArg "any" _) (wpAny_pure ?_)
  refine wpAny_bind (wpAny_pyIter_gen (s := s5) (G.isG _ G.obj) ?_)
  have Ip : Inv (gxOf X s4 H2 (genE X scope s4.heap.objs.size code) fp) [(a, o)] (wipe σ (own.map (·.2))) H2 s5 := G.invG.pins_of fun p hp => by
    rw [List.mem_singleton.mp hp]
    exact ⟨G.obj, G.inv.hok.fresh (Nat.le_of_lt G.above), Nat.ne_of_gt G.above, fun z => by
      obtain ⟨_, ob, ho, _⟩ := G.invG.ok.funs.mem z
      exact absurd (Nat.lt_trans (Heap.lt_size ho) G.above) (Nat.lt_irrefl _), G.cel⟩
  have at0 := gm_at (s' := s5) (Pn := fun _ pk => pk = [(a, o)]) S.co hh G (fun r pk e p hp => by rw [e] at hp; rw [List.mem_singleton.mp hp]; exact fun z => na _ z rfl) (pg _ _ _ _ _) (pt _ _ _ _ _) (pe _ _ _ _ _) hW w0 rfl Ip rfl (fun _ _ _ e => e)
  refine wpAny_pure ⟨plainId_quiet F.plain_any_loop _, any_loop hd hroom (fun r pk e => ⟨o, by rw [e]; exact List.mem_cons_self, G.isG⟩) (fun _ _ _ e => e) c1 (fun n y s' H' σ' pins' I' yd hsp => ?_) (fun s' H' σ' pins' I' fin => ?_) T s5 at0⟩
  · exact ⟨.bl true, H', gm_back G I', rfl, c2 n y H' yd hsp⟩
  · exact ⟨.bl false, H', gm_back G I', rfl, c3 H' fin⟩
theorem pe_allG (hb : bootBuiltins "all" = some (.builtin "all")) (hh : X.calm = true) (hroom : X.A.depth < recursionLimit) (hg : Gl X "all") (hm : X.mg "all" = none) (TB : TabB X.base X.mg c P) (hcode : X.env.code = .ref c) (S : GnOk X.N X.env.scope scope own) (hN : X.N.Nodup) (hi : PI X tg iter wi)
    (pg : gxPs X scope fun Y => PG Y tg g) (pt : gxPs X scope fun Y => PTs Y ifs tt) (pe : gxPs X scope fun Y => PE Y elt te)
    (hs : ∀ v, genFold iter X.env v = pure v := by intro _; rfl)
    (he : starEach [.GeneratorExp elt [⟨tg, iter, ifs, 0⟩] scope gpos] X.env = (false, eval (.GeneratorExp elt [⟨tg, iter, ifs, 0⟩] scope gpos) X.env) :: starEach [] X.env := by rfl) :
    PE X (.Call (.Name "all" p) [.GeneratorExp elt [⟨tg, iter, ifs, 0⟩] scope gpos] [] pos) (tGen P wi g tt te (own.map (·.2)) cAll) := by
  refine ⟨fun pins s σ H Q I h => ?_⟩
  have hd : X.A.handled = none := I.ok.hd hh
  refine wpAny_Call_Name_kw (ld_blt I hg hm hb ?_)
  refine PyProof.Rows.callWith_builtin1 ?_ he (by rfl)
  rw [he]
  show wpAny _ _ (spliced ((false, eval (.GeneratorExp elt [⟨tg, iter, ifs, 0⟩] scope gpos) X.env) :: backTo pos (starEach [] X.env))) _ _ s
  refine Calls.spliced_cons (gen_make hh hroom TB hcode S hN hi hs I (show wi σ H (fun J H1 => TabG H1 P ∧ GRest P g tt te (own.map (·.2)) cAll σ Q J H1) from h) fun J H1 H2 s4 code fp it tn a gi o s5 hR hT G => ?_)
  obtain ⟨T, sp, Yd, Fin, W, ⟨c1, c2, c3⟩, ⟨m, w0⟩, hW⟩ := hR H2 hT
  refine Calls.spliced_nil ?_
  have na : ∀ b ∈ fp, b ≠ a := fun b hb z => by
    have h1 := (G.fpo b hb).2; have h2 := G.above
    rw [z] at h1
    exact absurd (Nat.lt_trans h1 h2) (Nat.lt_irrefl _)
  refine call_function_tree F.kind_all F.plain_all F.entry_all (F.args_all1 _) ?_
  unfold Builtin.«all»
  refine wpAny_bind (m := oneArg "all" _) (wpAny_pure ?_)
  refine wpAny_bind (wpAny_pyIter_gen (s := s5) (G.isG _ G.obj) ?_)
  have Ip : Inv (gxOf X s4 H2 (genE X scope s4.heap.objs.size code) fp) [(a, o)] (wipe σ (own.map (·.2))) H2 s5 := G.invG.pins_of fun p hp => by
    rw [List.mem_singleton.mp hp]
    exact ⟨G.obj, G.inv.hok.fresh (Nat.le_of_lt G.above), Nat.ne_of_gt G.above, fun z => by
      obtain ⟨_, ob, ho, _⟩ := G.invG.ok.funs.mem z
      exact absurd (Nat.lt_trans (Heap.lt_size ho) G.above) (Nat.lt_irrefl _), G.cel⟩
  have at0 := gm_at (s' := s5) (Pn := fun _ pk => pk = [(a, o)]) S.co hh G (fun r pk e p hp => by rw [e] at hp; rw [List.mem_singleton.mp hp]; exact fun z => na _ z rfl) (pg _ _ _ _ _) (pt _ _ _ _ _) (pe _ _ _ _ _) hW w0 rfl Ip rfl (fun _ _ _ e => e)
  refine wpAny_pure ⟨plainId_quiet F.plain_all_loop _, all_loop hd hroom (fun r pk e => ⟨o, by rw [e]; exact List.mem_cons_self, G.isG⟩) (fun _ _ _ e => e) c1 (fun n y s' H' σ' pins' I' yd hsp => ?_) (fun s' H' σ' pins' I' fin => ?_) T s5 at0⟩
  · exact ⟨.bl false, H', gm_back G I', rfl, c2 n y H' yd hsp⟩
  · exact ⟨.bl true, H', gm_back G I', rfl, c3 H' fin⟩
end
end
end Mp
end
section
set_option maxRecDepth 100000
set_option maxHeartbeats 1000000
namespace Mp
open PySem PySem.Spec PyProof.Rows L2 GenW GxR
def genT (gt : PV → MEnv → Option MEnv) (tc : TM) (me : EM) (stp : PV → Bool) : List PV → MEnv → Sto → MRes (List PV)
  | [], _, st => .ok [] st
  | x :: xs, env, st => match gt x env with
    | none => .bad
    | some e1 => bindX (tc e1 st) fun c s => if c then bindX (me e1 s) fun v s' => if stp v then .ok [v] s' else bindX (genT gt tc me stp xs env s') fun r s'' => .ok (v :: r) s'' else genT gt tc me stp xs env s
def anyL (gt : PV → MEnv → Option MEnv) (tc : TM) (me : EM) : List PV → MEnv → Sto → MRes Bool
  | [], _, st => .ok false st
  | x :: xs, env, st => match gt x env with
    | none => .bad
    | some e1 => bindX (tc e1 st) fun c s => if c then bindX (me e1 s) fun v s' => match v with
      | .bl true => .ok true s'
      | .bl false => anyL gt tc me xs env s'
      | _ => .bad else anyL gt tc me xs env s
def allL (gt : PV → MEnv → Option MEnv) (tc : TM) (me : EM) : List PV → MEnv → Sto → MRes Bool
  | [], _, st => .ok true st
  | x :: xs, env, st => match gt x env with
    | none => .bad
    | some e1 => bindX (tc e1 st) fun c s => if c then bindX (me e1 s) fun v s' => match v with
      | .bl true => allL gt tc me xs env s'
      | .bl false => .ok false s'
      | _ => .bad else allL gt tc me xs env s
def isTV (v : PV) : Bool := match v with | .bl true => true | _ => false
def isFV (v : PV) : Bool := match v with | .bl false => true | _ => false
def mAnyG (mi : AM) (gt : PV → MEnv → Option MEnv) (tc : TM) (me : EM) (vs : List Nat) : EM := fun env st => bindR (mi env st) fun xs s => if noOwn vs env then bindX (anyL gt tc me xs (killE vs env) s) fun r s' => .ok (.bl r) s' else .bad
def mAllG (mi : AM) (gt : PV → MEnv → Option MEnv) (tc : TM) (me : EM) (vs : List Nat) : EM := fun env st => bindR (mi env st) fun xs s => if noOwn vs env then bindX (allL gt tc me xs (killE vs env) s) fun r s' => .ok (.bl r) s' else .bad
theorem bindX_ok {α β : Type} {r : MRes α} {f : α → Sto → MRes β} {b : β} {s : Sto} (h : bindX r f = .ok b s) : ∃ a s1, r = .ok a s1 ∧ f a s1 = .ok b s := by
  cases r with
  | ok a s1 => exact ⟨a, s1, rfl, h⟩
  | exc _ _ => cases h
  | bad => cases h
section
variable {gt : PV → MEnv → Option MEnv} {tc : TM} {me : EM}
theorem anyL_T : ∀ (xs : List PV) (env : MEnv) (st : Sto) (b : Bool) (sF : Sto), anyL gt tc me xs env st = .ok b sF →
    ∃ ys, genT gt tc me isTV xs env st = .ok ys sF ∧ (∀ y ∈ ys, ∃ c, y = .bl c) ∧ b = (ys.any isTV)
  | [], env, st, b, sF, h => by cases h; exact ⟨[], rfl, (fun y z => by cases z), rfl⟩
  | x :: xs, env, st, b, sF, h => by
    simp only [anyL] at h
    simp only [genT]
    cases q : gt x env with
    | none => rw [q] at h; cases h
    | some e1 =>
      rw [q] at h
      obtain ⟨c, s1, q1, h⟩ := bindX_ok h
      simp only [q1, bindX]
      cases c with
      | false => exact anyL_T xs env s1 b sF h
      | true =>
        simp only [if_true] at h ⊢
        obtain ⟨v, s2, q2, h⟩ := bindX_ok h
        simp only [q2, bindX]
        match v, h with
        | .bl true, h => cases h; exact ⟨[.bl true], rfl, (fun y z => ⟨true, List.mem_singleton.mp z⟩), rfl⟩
        | .bl false, h =>
          obtain ⟨ys, g1, g2, g3⟩ := anyL_T xs env s2 b sF h
          simp only [g1]
          refine ⟨.bl false :: ys, rfl, fun y z => ?_, ?_⟩
          · rcases List.mem_cons.mp z with z | z
            · exact ⟨_, z⟩
            · exact g2 y z
          · rw [List.any_cons]; exact g3
theorem allL_T : ∀ (xs : List PV) (env : MEnv) (st : Sto) (b : Bool) (sF : Sto), allL gt tc me xs env st = .ok b sF →
    ∃ ys, genT gt tc me isFV xs env st = .ok ys sF ∧ (∀ y ∈ ys, ∃ c, y = .bl c) ∧ b = !(ys.any isFV)
  | [], env, st, b, sF, h => by cases h; exact ⟨[], rfl, (fun y z => by cases z), rfl⟩
  | x :: xs, env, st, b, sF, h => by
    simp only [allL] at h
    simp only [genT]
    cases q : gt x env with
    | none => rw [q] at h; cases h
    | some e1 =>
      rw [q] at h
      obtain ⟨c, s1, q1, h⟩ := bindX_ok h
      simp only [q1, bindX]
      cases c with
      | false => exact allL_T xs env s1 b sF h
      | true =>
        simp only [if_true] at h ⊢
        obtain ⟨v, s2, q2, h⟩ := bindX_ok h
        simp only [q2, bindX]
        match v, h with
        | .bl false, h => cases h; exact ⟨[.bl false], rfl, (fun y z => ⟨false, List.mem_singleton.mp z⟩), rfl⟩
        | .bl true, h =>
          obtain ⟨ys, g1, g2, g3⟩ := allL_T xs env s2 b sF h
          simp only [g1]
          refine ⟨.bl true :: ys, rfl, fun y z => ?_, ?_⟩
          · rcases List.mem_cons.mp z with z | z
            · exact ⟨_, z⟩
            · exact g2 y z
          · rw [List.any_cons]; exact g3
end
section
variable {K : PySem.W.Frag} {mg : Str → Option Value} {tb : Tbs} {Mx M : Addr → Prop} {W W' W1 W0 : List Addr} {σ σ' : L2.St} {H H' H1 H0 H2 : Hp} {env env' : MEnv} {st st' st1 : Sto} {Wx : WX}
theorem Rel.tabbed {P : Addr} (r : Rel K tb Mx W σ H1 env st) (hP : TabG H1 P) (hg : tb.tg P = none) (t : Tabbed P H1 H2) : Stp K tb Mx env σ W H1 W H2 st := by
  obtain ⟨ps, hp, ht⟩ := hP
  obtain ⟨⟨ps', hp', ht'⟩, hk⟩ := t
  have nP : ∀ b u, H1 b = some u → NoTbl u → b ≠ P := fun b u e n z => by rw [z, hp] at e; exact n ps (Option.some.inj e).symm
  have g : Grow (Mt Mx W env σ) (Mt Mx W env σ) W W H1 H2 := ⟨fun b u h _ n => by rw [hk b (nP b u h n)]; exact h, fun _ _ n => n, List.prefix_refl _⟩
  have ex : ∀ b, H1 b ≠ none → H2 b ≠ none := fun b h => by
    by_cases e : b = P
    · rw [e, hp']; simp
    · rw [hk b e]; exact h
  refine ⟨⟨fun Q hQ => ?_, fun b h => ex b (r.mx b h), r.nd, r.wo, r.om, r.inj, r.el, r.len, fun j q u h1 h2 => (r.sto j q u h1 h2).grow g fun x hx n => by rw [hk q (nP q x hx n)]; exact hx, fun j u h => ?_, fun j u h => ?_⟩,
    fun b u h _ n => by rw [hk b (nP b u h n)]; exact h, fun b h => ex b h, List.prefix_refl _, fun b h => .inl h⟩
  · by_cases e : Q = P
    · rw [e]; exact ⟨ps', hp', ht', fun q z => by rw [hg] at z; cases z⟩
    · obtain ⟨q, h1, h2, h3⟩ := r.tab Q hQ
      refine ⟨q, by rw [hk Q e]; exact h1, h2, fun n z pos cv hc => ?_⟩
      obtain ⟨c, e1, e2⟩ := h3 n z pos cv hc
      exact ⟨c, e1, by rw [hk c (nP c _ e2 (fun ps z => LamX.codeO_ne ps z))]; exact e2⟩
  · obtain ⟨x, e2, rf⟩ := r.pv j u h
    exact ⟨x, e2, RF.grow g _ rf⟩
  · obtain ⟨x, e2, rf⟩ := r.own j u h
    exact ⟨x, e2, rf.grow g fun y hy n => by rw [hk x (nP x y hy n)]; exact hy⟩
def YdM (K : PySem.W.Frag) (tb : Tbs) (Mx : Addr → Prop) (env : MEnv) (σ : L2.St) (W1 : List Addr) (H1 : Hp) (stp : PV → Bool) (ys : List PV) (sF : Sto) (k : Nat) (y : V) (H : Hp) : Prop :=
  ∃ v, ys[ys.length - 1 - k]? = some v ∧ (∃ M W, RF K M W H v y) ∧ (stp v = true → ∃ W', Stp K tb Mx env σ W1 H1 W' H sF)
def FinM (K : PySem.W.Frag) (tb : Tbs) (Mx : Addr → Prop) (env : MEnv) (σ : L2.St) (W1 : List Addr) (H1 : Hp) (stp : PV → Bool) (ys : List PV) (sF : Sto) (H : Hp) : Prop := (ys.any stp = false) ∧ ∃ W', Stp K tb Mx env σ W1 H1 W' H sF
def spM' (stp : PV → Bool) (ys : List PV) (k : Nat) : Bool := match ys[ys.length - 1 - k]? with | some v => stp v | none => false
def WM (K : PySem.W.Frag) (tb : Tbs) (Mx : Addr → Prop) (env : MEnv) (σ : L2.St) (W1 : List Addr) (H1 : Hp) (g : PV → MEnv → Option MEnv) (tc : TM) (me : EM) (stp : PV → Bool) (vs : List Nat) (xs ys : List PV) (sF : Sto) (i r m : Nat) (H' : Hp) : Prop :=
  ∃ W' st' ys' pre, Rel K tb Mx W' (wipe σ vs) H' (killE vs env) st' ∧ KB W1 H1 No W' H' No ∧ i + m = xs.length ∧ r = ys'.length ∧ ys = pre ++ ys' ∧ pre.any stp = false ∧ genT g tc me stp (xs.drop i) (killE vs env) st' = .ok ys' sF
theorem gen_course {J : It} {g : PV → MEnv → Option MEnv} {tc : TM} {me : EM} {is vs : List Nat} {stp : PV → Bool} {xs ys : List PV} {s sF : Sto} (hsub : ∀ j ∈ is, j ∈ vs) (hno : noOwn vs env = true) (rel : Rel K tb Mx W1 σ H1 env s) (wk : WlkI K J xs (Mt Mx W1 env σ) W1 H1)
    : GCourse J (tG K tb is g) (tMT K mg tb WN tc) (tM K mg tb WN .F me) vs σ (spM' stp ys) (YdM K tb Mx env σ W1 H1 stp ys sF) (FinM K tb Mx env σ W1 H1 stp ys sF) (WM K tb Mx env σ W1 H1 g tc me stp vs xs ys sF) := by
  have omw : ∀ p, Om (killE vs env) (wipe σ vs) p ↔ Om env σ p := fun p => om_wipe hno
  intro i r m H' ⟨W', st', ys', pre, rel', kb', en, er, ey, hpre, gT⟩
  have gr : Grow (Mt Mx W1 env σ) (Mt Mx W' (killE vs env) (wipe σ vs)) W1 W' H1 H' := ⟨fun b o h n t => kb'.kp b o h (fun z => n (.inl z)) (fun z => z) t, fun b h n z => by
    rcases z with z | z | z
    · rcases kb'.fr b z with y | y
      · exact n (.inl y)
      · exact h y
    · exact n (.inr (.inl z))
    · exact n (.inr (.inr ((omw b).mp z))), kb'.pre⟩
  have outer : ∀ {W4 : List Addr} {H4 : Hp} {s4 : Sto}, Rel K tb Mx W4 (wipe σ vs) H4 (killE vs env) s4 → KB W1 H1 No W4 H4 No → Stp K tb Mx env σ W1 H1 W4 H4 s4 := fun {W4 H4 s4} r4 k4 =>
    rel.back (r4.toCall.less fun b z => z.elim .inl fun z => .inr ((omw b).mpr z)) k4
  by_cases hi : i < xs.length
  · refine .inr ⟨wk.go i _ _ _ gr hi, fun r' H2 => ∃ m', m' < m ∧ WM K tb Mx env σ W1 H1 g tc me stp vs xs ys sF (i + 1) r' m' H2, fun r' H2 h => h, fun x H2 hy => ?_⟩
    have hx : xs[i]? = some xs[i] := List.getElem?_eq_getElem hi
    obtain ⟨al, rf⟩ := wk.yl i _ _ _ x H2 xs[i] gr (fun p z => rel'.mtS z) hx hy
    have a2 := al.stp rel'
    rw [List.drop_eq_getElem_cons hi] at gT
    simp only [genT] at gT
    cases qg : g xs[i] (killE vs env) with
    | none => rw [qg] at gT; cases gT
    | some e1 =>
      rw [qg] at gT
      refine ⟨_, W', killE vs env, st', xs[i], e1, a2.rel, rf, qg, fun σ2 r2 om2 c2 => ?_⟩
      have om2' : ∀ p, Om (killE vs env) (wipe σ vs) p → Om e1 σ2 p := fun p ⟨j, o, h1, h2⟩ => by
        have hj : j ∉ is := fun z => absurd (killE_un vs env j _ (hsub j z) h1) (fun y => nomatch y)
        exact ⟨j, o, (c2.at_ j hj).1.trans h1, (c2.at_ j hj).2.trans h2⟩
      refine ⟨?_, _, W', e1, st', r2, ?_⟩
      · refine List.ext_getElem? fun j => ?_
        by_cases hj : j ∈ vs
        · have : ∀ (τ : L2.St), τ.length = σ.length → (wipe τ vs)[j]? = if j < σ.length then some none else none := fun τ hτ => by
            by_cases hl : j < σ.length
            · rw [if_pos hl]
              cases q : (wipe τ vs)[j]? with
              | none =>
                have := List.getElem?_eq_none_iff.mp q
                rw [wipe_length, hτ] at this
                omega
              | some u =>
                cases u with
                | none => rfl
                | some v => exact absurd hj (wipe_some q).2
            · rw [if_neg hl, List.getElem?_eq_none (by rw [wipe_length, hτ]; omega)]
          rw [this σ2 (c2.len.trans (wipe_length σ vs)), this σ rfl]
        · rw [wipe_at hj, wipe_at hj, (c2.at_ j fun z => hj (hsub j z)).2, wipe_at hj]
      have back : ∀ {W4 : List Addr} {H4 : Hp} {s4 : Sto}, Stp K tb Mx e1 σ2 W' H2 W4 H4 s4 → Rel K tb Mx W4 (wipe σ vs) H4 (killE vs env) s4 ∧ KB W1 H1 No W4 H4 No := fun {W4 H4 s4} a4 => by
        have kk : KB W' H' No W4 H4 No := (a2.kb (O := No)).trans a4.kb
        have q : Rel K tb (fun b => Mx b ∨ Om (killE vs env) (wipe σ vs) b) W4 [] H4 [] s4 := a4.rel.toCall.less fun b z => z.elim .inl fun z => .inr (om2' b z)
        exact ⟨(rel'.back q kk).rel, kb'.trans kk⟩
      dsimp only at gT
      obtain ⟨c, s2, qt, gT⟩ := bindX_ok gT
      rw [qt]
      intro W3 H3 a3
      cases c with
      | false =>
        rw [if_neg Bool.false_ne_true] at gT ⊢
        obtain ⟨r3, k3⟩ := back a3
        exact ⟨m - 1, by omega, W3, s2, ys', pre, r3, k3, by omega, er, ey, hpre, gT⟩
      | true =>
        rw [if_pos rfl] at gT ⊢
        refine ⟨_, W3, e1, s2, a3.rel, ?_⟩
        obtain ⟨v, s3, qe, gT⟩ := bindX_ok gT
        rw [qe]
        intro W4 H4 w a4 rm
        have a34 := a3.trans a4
        obtain ⟨r4, k4⟩ := back a34
        have rmF : RF K (Mt Mx W4 e1 σ2) W4 H4 v w := rm
        cases hs : stp v with
        | true =>
          rw [if_pos hs] at gT
          cases gT
          have lst : ys[ys.length - 1 - 0]? = some v := by rw [ey]; simp
          refine ⟨0, er, ⟨v, lst, ⟨_, _, rmF⟩, fun _ => ⟨W4, outer r4 k4⟩⟩, fun q => ?_⟩
          unfold spM' at q
          rw [lst] at q
          have q : stp v = false := q
          rw [hs] at q; cases q
        | false =>
          rw [if_neg (by rw [hs]; exact Bool.false_ne_true)] at gT
          obtain ⟨r2s, s5, qr, gT⟩ := bindX_ok gT
          cases gT
          have lst : ys[ys.length - 1 - r2s.length]? = some v := by
            rw [ey, List.length_append, List.length_cons, List.getElem?_append_right (by omega)]
            rw [show pre.length + (r2s.length + 1) - 1 - r2s.length - pre.length = 0 by omega]
            rfl
          refine ⟨r2s.length, er, ⟨v, lst, ⟨_, _, rmF⟩, fun q => by rw [hs] at q; cases q⟩, fun _ => ⟨m - 1, by omega, W4, s3, r2s, pre ++ [v], r4, k4, by omega, rfl, by rw [ey]; simp, ?_, qr⟩⟩
          rw [List.any_append, hpre]; simp [hs]
  · have e : i = xs.length := by omega
    subst e
    rw [List.drop_length] at gT
    simp only [genT] at gT
    cases gT
    exact .inl ⟨wk.st _ _ _ gr, by rw [er]; rfl, by rw [ey, List.append_nil]; exact hpre, W', outer rel' kb'⟩
end
end Mp
end
section
set_option maxRecDepth 100000
set_option maxHeartbeats 1000000
namespace Mp
open PySem PySem.Spec PyProof.Rows L2 GenW GxR
theorem WlkI.mono {K : PySem.W.Frag} {J : It} {xs : List PV} {M M' : Addr → Prop} {W W' : List Addr} {H H' : Hp} (w : WlkI K J xs M W H) (g : Grow M M' W W' H H') (nt : ∀ b o, H b = some o → ¬ M b → H' b ≠ none) : WlkI K J xs M' W' H' where
  go := fun i M2 W2 H2 g2 => w.go i M2 W2 H2 (g.trans g2 nt)
  yl := fun i M2 W2 H2 x H3 y g2 => w.yl i M2 W2 H2 x H3 y (g.trans g2 nt)
  st := fun M2 W2 H2 g2 => w.st M2 W2 H2 (g.trans g2 nt)
section
variable {X : Cx} {tb : Tbs} {Wx : WX} {elt tg iter : Expr} {ifs : List Expr} {scope : Scope} {own : List (Str × Nat)} {p gpos pos : Pos} {mi : AM} {g : PV → MEnv → Option MEnv} {tc : TM} {me : EM} {is : List Nat} {c P : Addr}
theorem gen_post {K : PySem.W.Frag} {mg : Str → Option Value} {Mx : Addr → Prop} {W : List Addr} {σ : L2.St} {H : Hp} {env : MEnv} {Wx : WX} {v : PV} {sF : Sto} {w : V} {H' : Hp} {Q : VK} (post : EPost K mg tb Mx W σ H env Wx .F (.ok v sF) Q)
    (h : ∃ W', Stp K tb Mx env σ W H W' H' sF) (rm : ∀ M W, RF K M W H' v w) : Q w H' := by
  obtain ⟨W', a⟩ := h
  exact post W' H' w a (rm _ _)
theorem e_anyG (hP : P ∈ tb.ps ∧ tb.tg P = none) (hh : X.calm = true) (hroom : X.A.depth < recursionLimit) (hg : Gl X "any") (hm : X.mg "any" = none) (TB : TabB X.base X.mg c P) (hcode : X.env.code = .ref c) (S : GnOk X.N X.env.scope scope own) (hN : X.N.Nodup) (hi : IOk X tb Wx tg iter mi)
    (pg : gxPs X scope fun Y => GOk Y tb is tg g) (pt : gxPs X scope fun Y => TsOk Y tb WN ifs tc) (pe : gxPs X scope fun Y => EOk Y tb WN .F elt me) (hsub : ∀ j ∈ is, j ∈ own.map (·.2) := by decide)
    (hs : ∀ v, genFold iter X.env v = pure v := by intro _; rfl)
    (he : starEach [.GeneratorExp elt [⟨tg, iter, ifs, 0⟩] scope gpos] X.env = (false, eval (.GeneratorExp elt [⟨tg, iter, ifs, 0⟩] scope gpos) X.env) :: starEach [] X.env := by rfl) :
    EOk X tb Wx .F (.Call (.Name "any" p) [.GeneratorExp elt [⟨tg, iter, ifs, 0⟩] scope gpos] [] pos) (mAnyG mi g tc me (own.map (·.2))) :=
  PE_mono (pe_anyG hh hroom hg hm TB hcode S hN hi pg (fun s H C code fp => (pt s H C code fp).h) pe hs he) fun σ H Q ⟨Mx, W, env, st, rel, post⟩ => by
    refine ⟨Mx, W, env, st, rel, ?_⟩
    unfold mAnyG at post
    cases qi : mi env st with
    | bad => rw [qi] at post; exact post
    | exc x s => rw [qi] at post; exact post
    | ok xs s =>
      rw [qi] at post
      simp only [bindR] at post
      split at post
      rotate_left
      · exact post.elim
      rename_i hno
      intro W1 H1 J a1 wk
      refine ⟨(a1.rel.tab P hP.1).g, fun H2 hT => ?_⟩
      have a2 := a1.rel.tabbed (a1.rel.tab P hP.1).g hP.2 hT
      have post := EPost.from (a1.trans a2) post
      cases qr : anyL g tc me xs (killE (own.map (·.2)) env) s with
      | bad => rw [qr] at post; exact post.elim
      | exc x s => rw [qr] at post; exact post.elim
      | ok b sF =>
        rw [qr] at post
        obtain ⟨ys, q1, q2, q3⟩ := anyL_T xs _ s b sF qr
        have hbool : ∀ n y H, YdM X.K tb Mx env σ W1 H2 isTV ys sF n y H → y = .bl (spM' isTV ys n) := fun n y H ⟨v, e, ⟨M, W, rf⟩, _⟩ => by
          obtain ⟨cc, e2⟩ := q2 v (List.mem_of_getElem? e)
          subst e2
          have := RV.bl (.inl rf)
          rw [this]
          unfold spM'
          rw [e]
          cases cc <;> rfl
        refine ⟨ys.length, spM' isTV ys, YdM X.K tb Mx env σ W1 H2 isTV ys sF, FinM X.K tb Mx env σ W1 H2 isTV ys sF, WM X.K tb Mx env σ W1 H2 g tc me isTV (List.map (fun x : Str × Nat => x.2) own) xs ys sF, ⟨hbool, fun n y H hy hsp => ?_, fun H hf => ?_⟩, ⟨xs.length, W1, s, ys, [], a2.rel.wipes _, KB.refl, Nat.zero_add _, rfl, rfl, rfl, q1⟩, gen_course (mg := X.mg) hsub hno a2.rel (wk.mono a2.grow fun b u e _ => a2.nt b (by rw [e]; simp))⟩
        · obtain ⟨v, e, ⟨M, W, rf⟩, hst⟩ := hy
          unfold spM' at hsp
          rw [e] at hsp
          have : b = true := by rw [q3, List.any_eq_true.mpr ⟨v, List.mem_of_getElem? e, hsp⟩]; try rfl
          subst this
          exact gen_post post (hst hsp) fun M W => rf_bl
        · have : b = false := by rw [q3, hf.1]; try rfl
          subst this
          exact gen_post post hf.2 fun M W => rf_bl
theorem e_allG (hb : bootBuiltins "all" = some (.builtin "all")) (hP : P ∈ tb.ps ∧ tb.tg P = none) (hh : X.calm = true) (hroom : X.A.depth < recursionLimit) (hg : Gl X "all") (hm : X.mg "all" = none) (TB : TabB X.base X.mg c P) (hcode : X.env.code = .ref c) (S : GnOk X.N X.env.scope scope own) (hN : X.N.Nodup) (hi : IOk X tb Wx tg iter mi)
    (pg : gxPs X scope fun Y => GOk Y tb is tg g) (pt : gxPs X scope fun Y => TsOk Y tb WN ifs tc) (pe : gxPs X scope fun Y => EOk Y tb WN .F elt me) (hsub : ∀ j ∈ is, j ∈ own.map (·.2) := by decide)
    (hs : ∀ v, genFold iter X.env v = pure v := by intro _; rfl)
    (he : starEach [.GeneratorExp elt [⟨tg, iter, ifs, 0⟩] scope gpos] X.env = (false, eval (.GeneratorExp elt [⟨tg, iter, ifs, 0⟩] scope gpos) X.env) :: starEach [] X.env := by rfl) :
    EOk X tb Wx .F (.Call (.Name "all" p) [.GeneratorExp elt [⟨tg, iter, ifs, 0⟩] scope gpos] [] pos) (mAllG mi g tc me (own.map (·.2))) :=
  PE_mono (pe_allG hb hh hroom hg hm TB hcode S hN hi pg (fun s H C code fp => (pt s H C code fp).h) pe hs he) fun σ H Q ⟨Mx, W, env, st, rel, post⟩ => by
    refine ⟨Mx, W, env, st, rel, ?_⟩
    unfold mAllG at post
    cases qi : mi env st with
    | bad => rw [qi] at post; exact post
    | exc x s => rw [qi] at post; exact post
    | ok xs s =>
      rw [qi] at post
      simp only [bindR] at post
      split at post
      rotate_left
      · exact post.elim
      rename_i hno
      intro W1 H1 J a1 wk
      refine ⟨(a1.rel.tab P hP.1).g, fun H2 hT => ?_⟩
      have a2 := a1.rel.tabbed (a1.rel.tab P hP.1).g hP.2 hT
      have post := EPost.from (a1.trans a2) post
      cases qr : allL g tc me xs (killE (own.map (·.2)) env) s with
      | bad => rw [qr] at post; exact post.elim
      | exc x s => rw [qr] at post; exact post.elim
      | ok b sF =>
        rw [qr] at post
        obtain ⟨ys, q1, q2, q3⟩ := allL_T xs _ s b sF qr
        have hbool : ∀ n y H, YdM X.K tb Mx env σ W1 H2 isFV ys sF n y H → y = .bl (!spM' isFV ys n) := fun n y H ⟨v, e, ⟨M, W, rf⟩, _⟩ => by
          obtain ⟨cc, e2⟩ := q2 v (List.mem_of_getElem? e)
          subst e2
          have := RV.bl (.inl rf)
          rw [this]
          unfold spM'
          rw [e]
          cases cc <;> rfl
        refine ⟨ys.length, spM' isFV ys, YdM X.K tb Mx env σ W1 H2 isFV ys sF, FinM X.K tb Mx env σ W1 H2 isFV ys sF, WM X.K tb Mx env σ W1 H2 g tc me isFV (List.map (fun x : Str × Nat => x.2) own) xs ys sF, ⟨hbool, fun n y H hy hsp => ?_, fun H hf => ?_⟩, ⟨xs.length, W1, s, ys, [], a2.rel.wipes _, KB.refl, Nat.zero_add _, rfl, rfl, rfl, q1⟩, gen_course (mg := X.mg) hsub hno a2.rel (wk.mono a2.grow fun b u e _ => a2.nt b (by rw [e]; simp))⟩
        · obtain ⟨v, e, ⟨M, W, rf⟩, hst⟩ := hy
          unfold spM' at hsp
          rw [e] at hsp
          have : b = false := by rw [q3, List.any_eq_true.mpr ⟨v, List.mem_of_getElem? e, hsp⟩]; try rfl
          subst this
          exact gen_post post (hst hsp) fun M W => rf_bl
        · have : b = true := by rw [q3, hf.1]; try rfl
          subst this
          exact gen_post post hf.2 fun M W => rf_bl
end
end Mp
end
section
set_option maxRecDepth 100000
set_option maxHeartbeats 1000000
namespace Mp
open PySem PySem.Spec PyProof.Rows L2 GxR
structure DX (X : Cx) (tb : Tbs) (Wx : WX) (k : Nat) (c P : Addr) (lt : Option Str) : Prop where
  tk : Takes X Wx
  cm : X.calm = true
  hr : Room k X.A
  cd : X.env.code = .ref c
  tab : TabB X.base X.mg c P
  mem : P ∈ tb.ps ∧ tb.tg P = lt
section
variable {X : Cx} {tb : Tbs} {Wx : WX} {k : Nat} {c P : Addr} {lt : Option Str}
theorem DX.dp (D : DX X tb Wx k c P lt) : X.A.depth < recursionLimit := by have := D.hr.dp; omega
theorem takesN {X : Cx} : Takes X (fun _ _ _ _ => False) := fun _ _ ⟨_, _, _, _, _, _, _, _, _, _, _, _, _, _, _, _, w⟩ => w.elim
theorem DX.blk (D : DX X tb Wx k c P lt) {s : Shared} {H : Hp} {scope : Scope} {cl : List (Str × Addr)} {C : Addr} {fp : List Addr} : DX (X.blk s H scope (compEnvC scope cl C X.env) fp) tb WN k c P lt :=
  ⟨takesN, D.cm, D.hr, D.cd, D.tab, D.mem⟩
structure GX (X : Cx) (tb : Tbs) (k : Nat) : Prop where
  cm : X.calm = true
  hr : Room k X.A
theorem DX.gx (D : DX X tb Wx (k + 3) c P lt) {s : Shared} {H : Hp} {scope : Scope} {code : Value} {C : Addr} {fp : List Addr} : GX (gxOf X s H (genE X scope C code) fp) tb k :=
  ⟨D.cm, (D.hr.in1.in1).deeper _⟩
theorem GX.tk (D : GX X tb k) : Takes X WN := takesN
theorem GX.blk (D : GX X tb k) {s : Shared} {H : Hp} {scope : Scope} {cl : List (Str × Addr)} {C : Addr} {fp : List Addr} : GX (X.blk s H scope (compEnvC scope cl C X.env) fp) tb k := ⟨D.cm, D.hr⟩
end
structure FnAt (K : PySem.W.Frag) (mg : Str → Option Value) (cs : List (Addr × Addr)) (tg : Addr → Option Str) (lt : Option Str) (x : Str) (st : Stmt) (f : Addr) (fd : FuncData) (c P : Addr) : Prop where
  fun_ : FunD K x x (defArgs st) (defBody st) (defScope st) [] [] f fd
  code : fd.code = .ref c
  mem : (c, P) ∈ cs
  glo : mg x = some (.ref f)
  tag : tg P = lt
abbrev tbO (cs : List (Addr × Addr)) (tg : Addr → Option Str) : Tbs := ⟨cs.map (·.2), tg⟩
section
variable {P : Program} {w : World} {K : PySem.W.Frag} {mg : Str → Option Value} {base : Heap} {cs : List (Addr × Addr)} {tg : Addr → Option Str} {lt : Option Str} {x : Str} {st : Stmt}
abbrev dX (P : Program) (w : World) (K : PySem.W.Frag) (mg : Str → Option Value) (base : Heap) (N : List Str) (x : Str) (st : Stmt) (f : Addr) (c : Addr) (A : Around) (outer : List Env) (s : Shared) (H : Hp) (E : XK) : Cx :=
  cxOf (L2.CX P w) P w K mg base N x (defScope st) f (.ref c) A outer s H E
theorem mk_fn {N ps : List Str} {k : Nat} {body : SM} {f : Addr} {fd : FuncData} {c T : Addr} (F : FnAt K mg cs tg lt x st f fd c T) (S : FnScope N ps (defScope st)) (TB : ∀ p ∈ cs, TabB base mg p.1 p.2)
    (hb : ∀ (A : Around) (outer : List Env) (s : Shared) (H : Hp) (E : XK), DX (dX P w K mg base N x st f c A outer s H E) (tbO cs tg) (fun cls d _ H' => E cls d H') k c T lt →
      BOk (dX P w K mg base N x st f c A outer s H E) (tbO cs tg) (fun cls d _ H' => E cls d H') (defBody st) body) :
    FnOk P w K mg base (L2.CX P w) (k + 1) f fd ps (spM K mg (tbO cs tg) ps.length (fnM N.length body)) := by
  obtain ⟨oc, od, dV, kV, doc, pm, an, cdv, ct, osl, rfl, lk, hcd, _, _⟩ := F.fun_.ex
  obtain rfl : cdv = .ref c := F.code
  refine fn_of lk hcd S (fun vs H Q E h => ?_) fun A outer s H vs Q E hr hsp => ⟨_, hb A outer s H E ⟨?_, rfl, hr, rfl, TB _ F.mem, List.mem_map.mpr ⟨_, F.mem, rfl⟩, F.tag⟩, body_read hsp⟩
  · obtain ⟨_, _, _, args, hl, _, ra, _⟩ := h
    rw [ra.len]; exact hl
  · exact takes_of (X := dX P w K mg base N x st f c A outer s H E) rfl rfl rfl (E₁ := fun e' s'' => L2.CX P w outer H s E e' s'') rfl
theorem mk_cal {N ps : List Str} {k : Nat} {body : SM} {f : Addr} {fd : FuncData} {c T : Addr} (F : FnAt K mg cs tg lt x st f fd c T) (S : FnScope N ps (defScope st)) (TB : ∀ p ∈ cs, TabB base mg p.1 p.2)
    (hbind : ∀ (kV doc pm : Value) (an : Option Addr) (cdv ct : Value) (us : List Value), us.length = ps.length → bindArgs (PySem.W.fnOf x x (defArgs st) (defBody st) (defScope st) .none kV doc pm an cdv ct) ⟨us, []⟩ = pure (ps.zip us))
    (hb : ∀ (A : Around) (outer : List Env) (s : Shared) (H : Hp) (E : XK), DX (dX P w K mg base N x st f c A outer s H E) (tbO cs tg) (fun cls d _ H' => E cls d H') k c T lt →
      BOk (dX P w K mg base N x st f c A outer s H E) (tbO cs tg) (fun cls d _ H' => E cls d H') (defBody st) body) :
    CalM P w K mg base (tbO cs tg) (k + 1) x ps.length (fnM N.length body) :=
  ⟨f, fd, ps, mk_fn F S TB hb, F.glo, F.fun_.kp, F.fun_.bindsN hbind⟩
end
def isTab : Option Obj → Bool
  | some ⟨.none, _, .fields _, _⟩ => true
  | _ => false
def emTab : Option Obj → Bool
  | some ⟨.none, none, .fields vs, sl⟩ => vs.toList.isEmpty && sl.toList.isEmpty
  | _ => false
def isStrV : Value → Bool
  | .str _ _ => true
  | _ => false
def isIntV : Value → Bool
  | .int _ _ => true
  | _ => false
def isBoolV : Value → Bool
  | .bool _ => true
  | _ => false
def frT (g : Addr → Option Obj) (n : Nat) : PySem.W.Frag := He.frG g (cStatics :: (He.asD g n).filter fun a => !isTab (g a))
theorem emTab_ok {o : Option Obj} (h : emTab o = true) : o = some { cls := .none, data := .fields #[] } := by
  unfold emTab at h
  split at h
  · rename_i vs sl
    obtain ⟨h1, h2⟩ := Bool.and_eq_true_iff.mp h
    have e1 : vs = #[] := by
      cases vs with | mk l => cases l with
        | nil => rfl
        | cons _ _ => cases h1
    have e2 : sl = #[] := by
      cases sl with | mk l => cases l with
        | nil => rfl
        | cons _ _ => cases h2
    subst e1 e2; rfl
  · cases h
def tabOf (g : Addr → Option Obj) (K : PySem.W.Frag) (d : He.DefD) : Option (Addr × Addr) := match K.lookup (He.fAd K d.at_) with
  | some ⟨_, _, .func fd, _⟩ => (match fd.code with
    | .ref c => (match g c with
      | some ⟨.type t, _, .fields vs, _⟩ => (match (vs.toList[11]? : Option Value) with
        | some (.ref P) => if decide (t = "code") && (isStrV (vs.toList.getD 18 .none) && (isIntV (vs.toList.getD 7 .none) && (isBoolV (vs.toList.getD 9 .none) && (isIntV (vs.toList.getD 10 .none) && (!Nat.beq c P && (emTab (g P) && (K.lookup P).isNone)))))) then some (c, P) else none
        | _ => none)
      | _ => none)
    | _ => none)
  | _ => none
structure TabAt (h : Heap) (K : PySem.W.Frag) (d : He.DefD) (c P : Addr) : Prop where
  fn : ∃ oc od fd osl, K.lookup (He.fAd K d.at_) = some ⟨oc, od, .func fd, osl⟩ ∧ fd.code = .ref c
  hd : PySem.W.CodeHd h c P
  em : h.get? P = some { cls := .none, data := .fields #[] }
  no : K.lookup P = none
theorem tabOf_ok {h : Heap} {K : PySem.W.Frag} {d : He.DefD} {c P : Addr} (e : tabOf h.get? K d = some (c, P)) : TabAt h K d c P := by
  unfold tabOf at e
  split at e
  · rename_i oc od fd osl hk
    split at e
    · rename_i c0 hc0
      split at e
      · rename_i t od2 vs sl2 hg
        split at e
        · rename_i P0 hP0
          split at e
          · rename_i hh
            cases e
            obtain ⟨h1, hh⟩ := Bool.and_eq_true_iff.mp hh
            obtain ⟨h2, hh⟩ := Bool.and_eq_true_iff.mp hh
            obtain ⟨h3, hh⟩ := Bool.and_eq_true_iff.mp hh
            obtain ⟨h4, hh⟩ := Bool.and_eq_true_iff.mp hh
            obtain ⟨h5, hh⟩ := Bool.and_eq_true_iff.mp hh
            obtain ⟨h6, hh⟩ := Bool.and_eq_true_iff.mp hh
            obtain ⟨h7, h8⟩ := Bool.and_eq_true_iff.mp hh
            have h1 := of_decide_eq_true h1
            subst h1
            have gd : ∀ (i : Nat), vs.getD i .none = vs.toList.getD i .none := fun i => by simp [Array.getD_eq_getD_getElem?, List.getD_eq_getElem?_getD]
            have hP1 : vs[11]? = some (.ref P) := by rw [← Array.getElem?_toList]; exact hP0
            have hcP : c ≠ P := fun z => by
              rw [z] at h6
              have : Nat.beq P P = true := Nat.beq_refl P
              rw [this] at h6; cases h6
            refine ⟨⟨oc, od, fd, osl, hk, hc0⟩, ?_, emTab_ok h7, by
              cases q : K.lookup P with
              | none => rfl
              | some u => rw [q] at h8; cases h8⟩
            rw [← gd] at h2 h3 h4 h5
            cases q2 : vs.getD 18 .none with
            | str f tf =>
              cases q3 : vs.getD 7 .none with
              | int fl tg =>
                cases q4 : vs.getD 9 .none with
                | bool ib =>
                  cases q5 : vs.getD 10 .none with
                  | int tx tt =>
                    refine ⟨_, vs, f, tf, fl, tg, ib, tx, tt, hg, rfl, rfl, hP1, ?_, q2, q3, q4, q5, hcP⟩
                    rw [gd, List.getD_eq_getElem?_getD, hP0]; rfl
                  | _ => rw [q5] at h5; cases h5
                | _ => rw [q4] at h4; cases h4
              | _ => rw [q3] at h3; cases h3
            | _ => rw [q2] at h2; cases h2
          · cases e
        · cases e
      · cases e
    · cases e
  · cases e
abbrev AlT : Type := Bool × He.AlD
def csOf (g : Addr → Option Obj) (K : PySem.W.Frag) (fn : List He.DefD) : List (Addr × Addr) := fn.map fun d => (tabOf g K d).getD (0, 0)
def ndB : List Addr → Bool
  | [] => true
  | a :: r => (r.all fun b => !Nat.beq a b) && ndB r
theorem ndB_ok : ∀ {l : List Addr}, ndB l = true → l.Nodup
  | [], _ => List.nodup_nil
  | a :: r, h => by
    unfold ndB at h
    obtain ⟨h1, h2⟩ := Bool.and_eq_true_iff.mp h
    refine List.nodup_cons.mpr ⟨fun z => ?_, ndB_ok h2⟩
    have := List.all_eq_true.mp h1 a z
    rw [Nat.beq_refl] at this; cases this
def obsP (n : Nat) (fa : List He.Fa) (fn : List He.DefD) (pb : PySem.W.Frag → Bool) (g : Addr → Option Obj) : AlT := let K := frT g n; ((fn.all fun d => (tabOf g K d).isSome) && (ndB ((csOf g K fn).map (·.2)) && pb K), He.obsD fa fn K)
structure SaysP (fa : List He.Fa) (fn : List He.DefD) (pb : PySem.W.Frag → Bool) (h : Heap) (K : PySem.W.Frag) (cs : List (Addr × Addr)) : Prop where
  kin : K.In h
  says : He.SaysD fa fn K
  len : cs.length = fn.length
  tabs : ∀ (i : Nat) (d : He.DefD) (p : Addr × Addr), fn[i]? = some d → cs[i]? = some p → TabAt h K d p.1 p.2
  nd : (cs.map (·.2)).Nodup
  pb_ : pb K = true
def hookP (n : Nat) (fa : List He.Fa) (fn : List He.DefD) (pb : PySem.W.Frag → Bool) : PySem.W.Hook where
  α := AlT
  obs := fun s => obsP n fa fn pb s.heap.get?
  val := fun _ => (true, He.valD fn)
  says := fun _ h => ∃ (K : PySem.W.Frag) (cs : List (Addr × Addr)), SaysP fa fn pb h K cs
  of := fun _ s e => by
    have e0 : ((fn.all fun d => (tabOf s.heap.get? (frT s.heap.get? n) d).isSome) && (ndB ((csOf s.heap.get? (frT s.heap.get? n) fn).map (·.2)) && pb (frT s.heap.get? n))) = true := congrArg (fun z : AlT => z.1) e
    obtain ⟨e1, e2⟩ := Bool.and_eq_true_iff.mp e0
    obtain ⟨e2, e3⟩ := Bool.and_eq_true_iff.mp e2
    refine ⟨frT s.heap.get? n, csOf s.heap.get? (frT s.heap.get? n) fn, He.frG_in, congrArg (fun z : AlT => z.2) e, by simp [csOf], fun i d p hd hp => ?_, ndB_ok e2, e3⟩
    have := List.all_eq_true.mp e1 d (List.mem_of_getElem? hd)
    obtain ⟨⟨c, P⟩, h⟩ := Option.isSome_iff_exists.mp this
    unfold csOf at hp
    rw [List.getElem?_map, hd, Option.map_some, h] at hp
    cases hp
    exact tabOf_ok h
  keeps := fun _ h h' ⟨K, cs, S⟩ k => ⟨K, cs, PySem.W.Frag.In.keeps S.kin k, S.says, S.len, fun i d p hd hp => let T := S.tabs i d p hd hp; ⟨T.fn, T.hd.keeps k, k _ _ T.em, T.no⟩, S.nd, S.pb_⟩
theorem obsP_eq {n : Nat} {fa : List He.Fa} {fn : List He.DefD} {pb : PySem.W.Frag → Bool} {g : Addr → Option Obj} {s : Shared} (h : ∀ a, g a = s.heap.get? a) : obsP n fa fn pb g = (hookP n fa fn pb).obs s := by
  have e : g = s.heap.get? := funext h
  rw [e] <;> rfl
def tgOf (cs : List (Addr × Addr)) (lts : List (Option Str)) (P : Addr) : Option Str := (((cs.map (·.2)).zip lts).lookup P).getD none
theorem lookup_zip : ∀ (l : List Addr) (m : List (Option Str)) (i : Nat) (P : Addr) (o : Option Str), l.Nodup → l[i]? = some P → m[i]? = some o → (l.zip m).lookup P = some o
  | [], _, i, P, o, _, h, _ => by simp at h
  | a :: l, [], i, P, o, _, _, h => by simp at h
  | a :: l, b :: m, 0, P, o, _, h1, h2 => by
    simp at h1 h2; subst h1 h2
    simp [List.lookup]
  | a :: l, b :: m, i + 1, P, o, nd, h1, h2 => by
    simp at h1 h2
    obtain ⟨n1, n2⟩ := List.nodup_cons.mp nd
    have ne : P ≠ a := fun z => n1 (z ▸ List.mem_of_getElem? h1)
    rw [List.zip_cons_cons, List.lookup_cons]
    rw [show (P == a) = false from beq_false_of_ne ne]
    exact lookup_zip l m i P o n2 h1 h2
theorem SaysP.at {fa : List He.Fa} {fn : List He.DefD} {pb : PySem.W.Frag → Bool} {h : Heap} {K : PySem.W.Frag} {cs : List (Addr × Addr)} (S : SaysP fa fn pb h K cs) {lts : List (Option Str)} (i : Nat) {d : He.DefD} {o : Option Str} (hd : fn[i]? = some d) (ho : lts[i]? = some o) : ∃ c P, TabAt h K d c P ∧ (c, P) ∈ cs ∧ tgOf cs lts P = o := by
  have hi : i < cs.length := by rw [S.len]; exact (List.getElem?_eq_some_iff.mp hd).1
  have hp : cs[i]? = some cs[i] := List.getElem?_eq_getElem hi
  refine ⟨cs[i].1, cs[i].2, S.tabs i d _ hd hp, List.mem_of_getElem? hp, ?_⟩
  unfold tgOf
  rw [lookup_zip _ _ i cs[i].2 o S.nd (by rw [List.getElem?_map, hp]; rfl) ho]; rfl
def pInts (ns : List Int) : PV := .lst (ns.map PV.int)
theorem law_endP {l : PySem.W.OpenLaw} {n k : Nat} {q : Program} {loose : List Str} {XP : (Str → Option Value) → Heap → Prop} {fa : List He.Fa} {fn : List He.DefD} {pb : PySem.W.Frag → Bool} {lts : List (Option Str)} {m : Nat} {d : DefRec} {M : FM} {pn x : Str}
    (hn : l.most = some n) (hn2 : n ≤ sizeLine) (hdf : d.params.defaults = []) (hr : Room k callerA) (hnm : d.name = x)
    (F : ∀ (w : World) (K : PySem.W.Frag) (mg : Str → Option Value) (h : Heap) (cs : List (Addr × Addr)), h.Ns mainGlobals mg → SaysP fa fn pb h K cs →
      ∃ (f : Addr) (fd : FuncData), mg x = some (.ref f) ∧ (∀ (s : Shared) (u : Value), BindsTo s fd ⟨[u], []⟩ [(pn, u)]) ∧
        ∀ base : Heap, K.In base → base.Ns mainGlobals mg → (∀ p ∈ cs, TabB base mg p.1 p.2) → FnOk l.prog w K mg base (L2.CX l.prog w) k f fd [pn] (spM K mg (tbO cs (tgOf cs lts)) 1 M))
    (hlaw : ∀ ns : List Int, ns.length ≤ n → (∀ z ∈ ns, Builtin.Int.intBits z ≤ 1048576) → ∃ s', M [pInts ns] [] = .ok (.bl true) s') :
    PySem.W.WalkO q loose XP (hookP m fa fn pb).says l.row.toRowW d [] (fun f vs => PySem.call f vs) := by
  refine Att.attach_callB hn hdf fun w s₀ s₁ mg mb fa' o pm cd doc a vs ns G Y ho hd hcd hmg hobj hints hlen hbits hg => ?_
  obtain ⟨K, cs, S⟩ := Y
  have KX := S.kin
  have h2 : ∀ p ∈ cs, ∃ d, TabAt s₁.heap K d p.1 p.2 := fun p hp => by
    obtain ⟨i, hi, e⟩ := List.getElem_of_mem hp
    have hi2 : i < fn.length := by rw [← S.len]; exact hi
    exact ⟨fn[i], S.tabs i _ p (List.getElem?_eq_getElem hi2) (by rw [List.getElem?_eq_getElem hi, e])⟩
  obtain ⟨f, fd, hf, hb, hF⟩ := F w K mg s₁.heap cs G.T.g S
  have ef : f = fa' := by
    rw [hnm, hf] at hmg
    cases hmg; rfl
  subst ef
  refine LamX.law_callTs (cs := cs) KX G.T.g G.T.b G.T.builtins G.T.nolimit hg (fun p hp => (h2 p hp).elim fun d T => T.em) (fun p hp => (h2 p hp).elim fun d T => T.no) (fun p hp => (h2 p hp).elim fun d T => T.hd) G.T.bmain hobj hints (Nat.le_trans hlen hn2) hr (CX := L2.CX l.prog w) (sp := spM K mg (tbO cs (tgOf cs lts)) 1 M) (fun base b1 b2 b3 => hF base b1 b2 fun p hp => ⟨(b3 p hp).code, (b3 p hp).bm, (b3 p hp).gP⟩) hb (fun H hH hS => ?_) fun H e s' z => ?_
  rotate_left
  · obtain ⟨_, _, _, _, _, _, _, _, _, _, _, _, z⟩ := z
    exact z
  obtain ⟨s', hs'⟩ := hlaw ns hlen hbits
  refine ⟨fun _ => False, [], [], [pInts ns], rfl, ⟨fun P hP => ?_, fun p z => z.elim, List.nodup_nil, (fun p z => by cases z), (fun p z => fun y => y), (fun i j o o' p z => by simp at z), rfl, rfl, (fun i p o z => by simp at z), (fun i v z => by simp at z), fun i o z => by simp at z⟩, ?_, ?_⟩
  · obtain ⟨p, hp, e⟩ := List.mem_map.mp hP
    rw [← e]
    exact ⟨#[], hH p hp, by trivial, fun q _ pos cv hc => by have z : codeAmong pos [] = some cv := hc; simp [codeAmong] at z⟩
  · refine RFs.cons ?_ RFs.nil
    unfold pInts
    refine rf_lst (ws := ns.map V.int) ?_ (RFs.ints ns)
    have nM : ¬ Mt (fun _ => False) [] [] [] a := fun z => by
      rcases z with z | z | ⟨i, o, z, _⟩
      · cases z
      · exact z
      · simp at z
    rcases hS with h | ⟨o', its, nn, e1, e2, e3, e4, e5, e6⟩
    · exact .inl ⟨h, nM⟩
    · have := KX a o' e1
      rw [hobj] at this
      cases this
      cases e4
      exact .inr ⟨_, _, e1, e5, e6⟩
  · rw [hs']
    intro W' H' w' _ _ rf
    exact RV.bl (.inl rf)
end Mp
end
section
set_option maxRecDepth 100000
set_option maxHeartbeats 1000000
namespace Mp
open PySem PySem.Spec PyProof.Rows L2 RT
section
variable {prog : Program} {w : World} {A : Around} {s : Shared}
end
section
variable {X : Cx}
end
section
variable {X : Cx} {tb : Tbs} {Wx : WX} {a b : Expr} {ma mb : EM} {p p2 pos pos2 : Pos}
end
def intsOf : List PV → Option (List Int)
  | [] => some []
  | .int i :: r => (intsOf r).map (i :: ·)
  | _ :: _ => none
def bMax (s : Sto) : List PV → Option PV
  | [.int i, .int j] => some (.int (if j > i then j else i))
  | [.lst xs] => match intsOf xs with | some (n :: ns) => some (.int (ns.foldl max n)) | _ => none
  | _ => none
def bMin (s : Sto) : List PV → Option PV
  | [.int i, .int j] => some (.int (if j < i then j else i))
  | [.lst xs] => match intsOf xs with | some (n :: ns) => some (.int (ns.foldl min n)) | _ => none
  | _ => none
end Mp
end
section
set_option maxRecDepth 100000
namespace Mp
open PySem PySem.Spec PyProof.Rows L2 GxR
section
variable {k : Nat} {A : Around}
theorem u64_of (r : Room k A) : A.units + 64 < cLine := by have := r.un; omega
theorem u65_of (r : Room k A) : A.units + 65 < cLine := by have := r.un; omega
theorem u100_of (r : Room k A) : A.units + 100 < cLine := by have := r.un; omega
theorem dp_of (r : Room k A) : A.depth < recursionLimit := by have := r.dp; omega
end
def eqN (a : Option NameKind) (b : Option NameKind) : Bool := decide (a = b)
def scB (N P : List Str) (sc : Scope) : Bool := decide (sc.kind = .function) && (!sc.isCoroutine && (!sc.isGenerator && (decide N.Nodup && (decide (N.take P.length = P) && ((P.all fun x => eqN (sc.names.lookup x) (some .local) || eqN (sc.names.lookup x) (some .cell)) && sc.names.all fun y => !decide (y.2 = NameKind.free))))))
theorem sc_ok {N P : List Str} {sc : Scope} (h : scB N P sc = true) : FnScope N P sc := by
  unfold scB at h
  simp only [Bool.and_eq_true, decide_eq_true_eq, Bool.not_eq_true', List.all_eq_true, Bool.or_eq_true, eqN, decide_eq_false_iff_not] at h
  obtain ⟨h1, h2, h3, h4, h5, h6, h7⟩ := h
  exact ⟨h1, h2, h3, h4, h5, h6, h7⟩
def blkB (N : List Str) (sc scope : Scope) (own : List (Str × Nat)) : Bool := decide (scope.kind = .function) && ((scope.names.all fun y => eqN (scope.names.lookup y.1) (some y.2)) && ((own.all fun p => decide (N[p.2]? = some p.1)) &&
  ((scope.names.all fun y => !decide (y.2 = NameKind.free) || (eqN (sc.names.lookup y.1) (some .cell) || eqN (sc.names.lookup y.1) (some .free))) && scope.names.all fun y => !(decide (y.2 = NameKind.local) || decide (y.2 = NameKind.cell)) || (decide (y.1 ∈ own.map (·.1)) || !decide (y.1 ∈ N)))))
theorem blk_ok {N : List Str} {sc scope : Scope} {own : List (Str × Nat)} (h : blkB N sc scope own = true) : BlkOk N sc scope own := by
  unfold blkB at h
  simp only [Bool.and_eq_true, decide_eq_true_eq, Bool.not_eq_true', List.all_eq_true, Bool.or_eq_true, eqN, decide_eq_false_iff_not, Bool.or_eq_false_iff] at h
  obtain ⟨h1, h2, h3, h4, h5⟩ := h
  refine ⟨h1, h2, h3, fun y hy e => ?_, fun y hy e => ?_⟩
  · rcases h4 y hy with z | z
    · exact absurd e z
    · exact z
  · rcases h5 y hy with z | z
    · rcases e with e | e
      · exact absurd e z.1
      · exact absurd e z.2
    · exact z
def gnB (N : List Str) (sc scope : Scope) (own : List (Str × Nat)) : Bool := decide (scope.kind = .function) && (!scope.isCoroutine && ((scope.names.all fun y => !decide (y.2 = NameKind.cell)) && (eqN (scope.names.lookup (".0" : Str)) (some .local) && ((own.all fun p => decide (N[p.2]? = some p.1)) &&
  ((scope.names.all fun y => !decide (y.2 = NameKind.free) || (eqN (sc.names.lookup y.1) (some .cell) || eqN (sc.names.lookup y.1) (some .free))) && scope.names.all fun y => !decide (y.2 = NameKind.local) || (decide (y.1 ∈ own.map (·.1)) || !decide (y.1 ∈ N)))))))
theorem gn_ok {N : List Str} {sc scope : Scope} {own : List (Str × Nat)} (h : gnB N sc scope own = true) : GnOk N sc scope own := by
  unfold gnB at h
  simp only [Bool.and_eq_true, decide_eq_true_eq, Bool.not_eq_true', List.all_eq_true, Bool.or_eq_true, eqN, decide_eq_false_iff_not] at h
  obtain ⟨h1, h2, h3, h4, h5, h6, h7⟩ := h
  refine ⟨h1, h2, h3, h4, h5, fun y hy e => ?_, fun y hy e => ?_⟩
  · rcases h6 y hy with z | z
    · exact absurd e z
    · exact z
  · rcases h7 y hy with z | z
    · exact absurd e z
    · exact z
theorem fnAt_of {K : PySem.W.Frag} {h : Heap} {mg : Str → Option Value} {cs : List (Addr × Addr)} {tg : Addr → Option Str} {lt : Option Str} {d : He.DefD} {st : Stmt} {x : Str} (hd : ∃ fd, FunD K d.name d.qual d.params d.body d.scope (d.dvs K) (d.kws K) (He.fAd K d.at_) fd) (t : ∃ c P, TabAt h K d c P ∧ (c, P) ∈ cs ∧ tg P = lt)
    (g : mg x = some (.ref (He.ga K x))) (e1 : d.at_ = (x, none) := by rfl) (e2 : d.name = x := by rfl) (e3 : d.qual = x := by rfl) (e4 : d.params = defArgs st := by rfl) (e5 : d.body = defBody st := by rfl) (e6 : d.scope = defScope st := by rfl) (e7 : d.dfl = [] := by rfl) (e8 : d.kwd = [] := by rfl) :
    ∃ f fd c T, FnAt K mg cs tg lt x st f fd c T := by
  obtain ⟨fd, F⟩ := hd
  obtain ⟨c, P, T, m, tgE⟩ := t
  obtain ⟨at_, name, qual, params, body, scope, dfl, kwd⟩ := d
  dsimp only at e1 e2 e3 e4 e5 e6 e7 e8
  subst e1 e2 e3 e4 e5 e6 e7 e8
  refine ⟨_, fd, c, P, F, ?_, m, g, tgE⟩
  obtain ⟨oc, od, fd2, osl, lk, hc⟩ := T.fn
  obtain ⟨oc', od', dV, kV, doc, pm, an, cdv, ct, osl', e, lk', _⟩ := F.ex
  rw [lk] at lk'
  cases lk'
  exact hc
end Mp
end
section
set_option maxRecDepth 100000
set_option maxHeartbeats 1000000
namespace Mp
open PySem PySem.Spec PyProof.Rows L2 GxR
def sBadM : SM := fun _ _ => .bad
section
variable {X : Cx} {tb : Tbs} {Wx : WX} {e : Expr} {s1 : Stmt} {md : Md}
end
def tyN : PV → String
  | .non => "NoneType" | .bl _ => "bool" | .int _ => "int" | .str _ => "str" | .tup _ => "tuple" | .lst _ => "list" | .ref _ => "list" | .fn _ => "function" | .dct _ _ => "dict" | .nti _ => "tuple"
def isiB (T : String) (v : PV) : Bool := tyN v == T || (T == "int" && tyN v == "bool")
def isFn : PV → Bool | .fn _ => true | .dct _ _ => true | .ref _ => true | .nti _ => true | _ => false
def isiO (T : String) (v : PV) : Option PV := if isFn v then none else some (.bl (isiB T v))
def mIsi (T : String) (m : EM) : EM := fun env st => bindR (m env st) fun v s => optR (isiO T v) s
theorem kit_all {T : String} (hT : T ∈ ["int", "bool", "tuple", "list", "str"]) : ∀ a ∈ ["NoneType", "bool", "int", "str", "tuple", "list"], kitB a T = some (a == T || (T == "int" && a == "bool")) := by
  simp only [List.mem_cons, List.not_mem_nil, or_false] at hT
  rcases hT with rfl | rfl | rfl | rfl | rfl <;> decide +kernel
theorem tyX_of {K : PySem.W.Frag} {tb : Tbs} {Mx : Addr → Prop} {W : List Addr} {σ : L2.St} {H : Hp} {env : MEnv} {st : Sto} {v : PV} {w : V} (rel : Rel K tb Mx W σ H env st) (h : RV K (Mt Mx W env σ) W H v w) (nf : isFn v = false) : TyX K H w (.type (tyN v)) := by
  cases v with
  | fn x => cases nf
  | dct _ _ => cases nf
  | nti _ => cases nf
  | non => rw [h.non]; exact .base .non
  | bl b => rw [h.bl]; exact .base (.bl b)
  | int i => rw [h.int]; exact .base (.int i)
  | str s => rw [h.str]; exact .base (.str s)
  | tup xs =>
    obtain ⟨p, ws, rfl, h1, _⟩ := h.tup
    rcases h1 with (h1 | ⟨o, h1⟩) | ⟨o, its, n, h1, h2, _⟩
    · exact .base (.tup h1)
    · exact .fTuple h1
    · exact .kTuple h1 h2
  | lst xs =>
    obtain ⟨p, ws, rfl, h1, _⟩ := h.lst
    rcases h1 with (h1 | ⟨o, h1⟩) | ⟨o, its, n, h1, h2, _⟩
    · exact .base (.lst h1)
    · exact .base (.frz h1)
    · exact .kList h1 h2
  | ref n => cases nf
section
variable {X : Cx} {tb : Tbs} {Wx : WX} {a : Expr} {m : EM} {p p2 pos : Pos} {T : Str} {Ts : String}
theorem e_isi (hT : Ts ∈ ["int", "bool", "tuple", "list", "str"]) (hg : Gl X "isinstance") (hm : X.mg "isinstance" = none) (hb : bootBuiltins "isinstance" = some (.builtin "isinstance")) (hgT : Gl X T) (hmT : X.mg T = none) (hbT : bootBuiltins T = some (.type Ts)) (ha : EOk X tb Wx .R a m)
    (hn : T ≠ "__name__" := by decide) (hd : (T == ("__debug__" : Str)) = false := by decide)
    (he : starEach [a, .Name T p2] X.env = (false, eval a X.env) :: starEach [.Name T p2] X.env := by rfl) (he2 : starEach [.Name T p2] X.env = (false, eval (.Name T p2) X.env) :: starEach [] X.env := by rfl)
    (hpl : (backTo pos (starEach [.Name T p2] X.env)).any (·.1) = false := by rfl) :
    EOk X tb Wx .F (.Call (.Name "isinstance" p) [a, .Name T p2] [] pos) (mIsi Ts m) :=
  PE_mono (pe_callB call_isi hg hm hb (pa_cons ha (pa_cons (pe_bltn hgT hmT hbT (v := .ty Ts) rfl hn hd) pa_nil he2) he) (by decide) (by decide) he hpl) fun σ H Q ⟨Mx, W, env, st, rel, post⟩ => by
    refine ebindE rel post fun v s W1 H1 w1 a1 r1 post => ?_
    unfold isiO at post
    cases q : isFn v with
    | true => rw [q] at post; exact post.elim
    | false =>
      rw [q] at post
      refine ⟨w1, .ty Ts, _, _, isiB Ts v, rfl, .ty Ts, tyX_of a1.rel r1 q, ?_, post W1 H1 _ (.refl a1.rel) rm_bl⟩
      refine kit_ty ?_
      have := kit_all hT (tyN v) (by cases v <;> first | (cases q; done) | simp [tyN])
      exact this
end
mutual
def cnV (K : PySem.W.Frag) : PV → Value → Bool
  | .non, .none => true
  | .bl b, .bool c => b == c
  | .int i, .int j _ => decide (i = j)
  | .str x, .str y _ => decide (x = y)
  | .tup xs, .ref a => (match K.lookup a with
    | some ⟨.type c, _, .seq its _, _⟩ => decide (c = "tuple") && (decide (its.size ≤ 1000) && cnVs K xs its.toList)
    | _ => false)
  | _, _ => false
def cnVs (K : PySem.W.Frag) : List PV → List Value → Bool
  | [], [] => true
  | x :: xs, u :: us => cnV K x u && cnVs K xs us
  | _, _ => false
end
mutual
theorem cnV_ok {K : PySem.W.Frag} : ∀ (v : PV) (u : Value), cnV K v u = true → ∃ w, RelV w u ∧ ∀ M W H, RF K M W H v w
  | .non, u, h => by cases u <;> first | exact ⟨.non, rfl, fun _ _ _ => rf_non⟩ | (simp [cnV] at h)
  | .bl b, u, h => by
    cases u with
    | bool c => simp [cnV] at h; exact ⟨.bl c, rfl, fun _ _ _ => h ▸ rf_bl⟩
    | _ => simp [cnV] at h
  | .int i, u, h => by
    cases u with
    | int j t => simp [cnV] at h; exact ⟨.int j, ⟨t, rfl⟩, fun _ _ _ => h ▸ rf_int⟩
    | _ => simp [cnV] at h
  | .str x, u, h => by
    cases u with
    | str y t => simp [cnV] at h; exact ⟨.str y, ⟨t, rfl⟩, fun _ _ _ => h ▸ rf_str⟩
    | _ => simp [cnV] at h
  | .tup xs, u, h => by
    cases u with
    | ref a =>
      unfold cnV at h
      split at h
      · rename_i c od its n sl hk
        obtain ⟨h1, h2⟩ := Bool.and_eq_true_iff.mp h
        obtain ⟨h3, h4⟩ := Bool.and_eq_true_iff.mp h2
        have h1 := of_decide_eq_true h1
        subst h1
        obtain ⟨ws, r, q⟩ := cnVs_ok xs its.toList h4
        refine ⟨.ref a, rfl, fun M W H => rf_tup (.inr ⟨_, its, n, hk, rfl, rfl, small1000' (of_decide_eq_true h3), r⟩) (q M W H)⟩
      · cases h
    | _ => simp [cnV] at h
  | .lst xs, u, h => by simp [cnV] at h
  | .ref n, u, h => by simp [cnV] at h
  | .fn n, u, h => by simp [cnV] at h
  | .dct _ _, u, h => by simp [cnV] at h
  | .nti _, u, h => by simp [cnV] at h
theorem cnVs_ok {K : PySem.W.Frag} : ∀ (vs : List PV) (us : List Value), cnVs K vs us = true → ∃ ws, Vals ws us ∧ ∀ M W H, RFs K M W H vs ws
  | [], [], _ => ⟨[], .nil, fun _ _ _ => RFs.nil⟩
  | [], _ :: _, h => by simp [cnVs] at h
  | _ :: _, [], h => by simp [cnVs] at h
  | v :: vs, u :: us, h => by
    unfold cnVs at h
    obtain ⟨h1, h2⟩ := Bool.and_eq_true_iff.mp h
    obtain ⟨w, r, q⟩ := cnV_ok v u h1
    obtain ⟨ws, rs, qs⟩ := cnVs_ok vs us h2
    exact ⟨w :: ws, .cons r rs, fun M W H => RFs.cons (q M W H) (qs M W H)⟩
end
theorem e_glo {X : Cx} {tb : Tbs} {Wx : WX} {x : Str} {pos : Pos} {v : PV} (hg : Gl X x) (hm : ∃ u, X.mg x = some u ∧ cnV X.K v u = true) (hd : (x == ("__debug__" : Str)) = false := by decide) : EOk X tb Wx .F (.Name x pos) (mC v) := by
  obtain ⟨u, e, h⟩ := hm
  obtain ⟨w, r, q⟩ := cnV_ok v u h
  exact PE_mono (pe_glob hg e r hd) fun σ H Q ⟨Mx, W, env, st, rel, post⟩ => post W H w (.refl rel) (q _ _ _)
def cnB (K : PySem.W.Frag) (c : Str × PV) : Bool := match PySem.W.nsIn K mainGlobals c.1 with
  | some (some u) => cnV K c.2 u
  | _ => false
theorem con_ok {K : PySem.W.Frag} {h : Heap} {mg : Str → Option Value} {x : Str} {v : PV} (X : K.In h) (G : h.Ns mainGlobals mg) (c : cnB K (x, v) = true) : ∃ u, mg x = some u ∧ cnV K v u = true := by
  unfold cnB at c
  split at c
  · rename_i u e
    exact ⟨u, PySem.W.mg_of X G e, c⟩
  · cases c
section
variable {X : Cx} {tb : Tbs} {Wx : WX} {m : VM} {s1 : Stmt}
theorem VRel.newT {K : PySem.W.Frag} {tb : Tbs} {Mx : Addr → Prop} {W W' : List Addr} {σ : L2.St} {H H' : Hp} {env : MEnv} {st' : Sto} {evs : List EV} {ws us : List V} {P : List Addr} {p : Addr} (v : VRel K tb Mx W σ H env W' H' st' evs ws P) (hp : H' p = none) :
    VRel K tb Mx W σ H env W' (upd H' p (.tup us)) st' evs ws P := by
  have nt : NoTbl (.tup us) := fun ps z => by cases z
  have ne : ∀ b, H' b ≠ none → b ≠ p := fun b h z => h (by rw [z]; exact hp)
  have a := Stp.new (o := .tup us) v.rel hp nt
  refine ⟨a.rel, fun b o h n t => by rw [upd_ne (ne b (by rw [v.kp b o h n t]; simp))]; exact v.kp b o h n t, fun b h => by rw [upd_ne (ne b (v.nt b h))]; exact v.nt b h, v.pre, v.fr, v.new, v.ve.grow a.grow fun q hq u hu _ => ?_⟩
  rw [upd_ne (ne q (by rw [hu]; simp))]; exact hu
theorem s_parT2 {i j : Nat} (h : PS X s1 (tAsg (tTup (tV X.K X.mg tb Wx m)) (gTup X.K 2 (gCons (gName i) (gCons (gName j) gNil))))) : SOk X tb Wx s1 (sPar [i, j] m) := PS_mono h fun D σ H hs => by
  obtain ⟨Mx, W, env, st, rel, post⟩ := par_read hs
  refine ⟨Mx, W, env, st, rel, ?_⟩
  cases q : m env st with
  | bad => rw [q] at post; exact post
  | exc x s => rw [q] at post; exact post
  | ok evs s =>
    rw [q] at post
    intro W' H' ws P v
    have h0 := (post W' H' ws P v).1
    refine ⟨Nat.le_trans (Nat.le_of_eq h0) (small1000' (by simp)), fun p hp => ⟨p, ws, rfl, .inl (.inl upd_same), h0, ?_⟩⟩
    obtain ⟨h1, h2⟩ := post W' _ ws P (v.newT (us := ws) hp)
    match ws, h1, h2 with
    | [a, b], _, h2 => exact ⟨a, [b], rfl, b, [], rfl, rfl, h2⟩
end
end Mp
end
section
set_option maxRecDepth 100000
set_option maxHeartbeats 1000000
namespace Mp
open PySem PySem.Spec PyProof.Rows L2
section
variable {K : PySem.W.Frag} {mg : Str → Option Value} {tb : Tbs} {Mx : Addr → Prop} {W W' W1 : List Addr} {σ : L2.St} {H H' H1 : Hp} {env : MEnv} {st st' : Sto} {D : Addr}
structure LcI (K : PySem.W.Frag) (tb : Tbs) (Mx : Addr → Prop) (D : Addr) (W1 : List Addr) (H1 : Hp) (σ : L2.St) (env : MEnv) (W' : List Addr) (H' : Hp) (st' : Sto) (acc : List PV) : Prop where
  rel : Rel K tb (fun b => Mx b ∨ b = D) W' σ H' env st'
  kb : KB W1 H1 No W' H' No
  acc : ∃ wacc, H' D = some (.lst wacc) ∧ RFs K (Mt (fun b => Mx b ∨ b = D) W' env σ) W' H' acc wacc
theorem LcI.stp {env1 : MEnv} {σ1 : L2.St} {W2 : List Addr} {H2 : Hp} {s2 : Sto} {acc : List PV} (l : LcI K tb Mx D W1 H1 σ env W' H' st' acc) (a : Stp K tb (fun b => Mx b ∨ b = D) env σ W' H' W2 H2 s2) : LcI K tb Mx D W1 H1 σ env W2 H2 s2 acc := by
  obtain ⟨wacc, h1, h2⟩ := l.acc
  have nD : D ∉ W' := fun z => (l.rel.wo D z).1 (.inr rfl)
  exact ⟨a.rel, l.kb.trans a.kb, wacc, a.kp D _ h1 nD noTbl_lst, RFs.grow a.grow _ h2⟩
theorem LcI.turn {env1 : MEnv} {σ1 : L2.St} {acc : List PV} (l : LcI K tb Mx D W1 H1 σ env W' H' st' acc) (r : Rel K tb (fun b => Mx b ∨ b = D) W' σ1 H' env1 st') (om : ∀ p, Om env1 σ1 p → Om env σ p) : LcI K tb Mx D W1 H1 σ1 env1 W' H' st' acc := by
  obtain ⟨wacc, h1, h2⟩ := l.acc
  refine ⟨r, l.kb, wacc, h1, RFs.grow (Grow.less fun b z => ?_) _ h2⟩
  rcases z with z | z | z
  · exact .inl z
  · exact .inr (.inl z)
  · exact .inr (.inr (om b z))
theorem LcI.push {acc : List PV} {v : PV} {w : V} (hD : H1 D = none) (l : LcI K tb Mx D W1 H1 σ env W' H' st' acc) (rf : RF K (Mt (fun b => Mx b ∨ b = D) W' env σ) W' H' v w) :
    ∃ wacc, H' D = some (.lst wacc) ∧ wacc.length = acc.length ∧ LcI K tb Mx D W1 H1 σ env W' (upd H' D (.lst (wacc ++ [w]))) st' (acc ++ [v]) := by
  obtain ⟨wacc, h1, h2⟩ := l.acc
  have gD : Grow (Mt (fun b => Mx b ∨ b = D) W' env σ) (Mt (fun b => Mx b ∨ b = D) W' env σ) W' W' H' (upd H' D (.lst (wacc ++ [w]))) :=
    ⟨fun b u h n _ => by rw [upd_ne (fun z => n (.inr (.inl (.inr z))))]; exact h, fun b _ n => n, List.prefix_refl _⟩
  refine ⟨wacc, h1, h2.len, l.rel.putMx (.inr rfl) h1, ⟨fun b o h n1 n2 t => by rw [upd_ne (fun z => by rw [z, hD] at h; cases h)]; exact l.kb.kp b o h n1 n2 t, fun b h => ?_, l.kb.pre, l.kb.fr, fun _ h => h.elim⟩, _, upd_same, RFs.grow gD _ (h2.append (RFs.cons rf RFs.nil))⟩
  by_cases q : b = D
  · rw [q, upd_same]; simp
  · rw [upd_ne q]; exact l.kb.nt b h
end
section
variable {K : PySem.W.Frag} {mg : Str → Option Value} {tb : Tbs} {Wx : WX} {mi mi1 : AM} {g g1 : PV → MEnv → Option MEnv} {tc tc1 : TM} {me : EM} {is is1 vs vs1 : List Nat}
theorem Om.wipe1 {env e1 : MEnv} {σ σ2 : L2.St} {is vs : List Nat} (hsub : ∀ j ∈ is, j ∈ vs) (c2 : Chg is (killE vs env) (wipe σ vs) e1 σ2) : ∀ p, Om (killE vs env) (wipe σ vs) p → Om e1 σ2 p := fun p ⟨j, o, h1, h2⟩ => by
  have hj : j ∉ is := fun z => absurd (killE_un vs env j _ (hsub j z) h1) (fun y => nomatch y)
  exact ⟨j, o, (c2.at_ j hj).1.trans h1, (c2.at_ j hj).2.trans h2⟩
end
section
variable {X : Cx} {tb : Tbs} {Wx : WX} {elt tg iter tg1 iter1 : Expr} {ifs ifs1 : List Expr} {scope : Scope} {own : List (Str × Nat)} {pos : Pos} {mi mi1 : AM} {g g1 : PV → MEnv → Option MEnv} {tc tc1 : TM} {me : EM} {is is1 vs1 : List Nat}
end
end Mp
end
section
set_option maxRecDepth 100000
set_option maxHeartbeats 1000000
namespace Mp
open PySem PySem.Spec PyProof.Rows L2 GxR
def VEs : List Value := [.type "ValueError", .type "Exception", .type "BaseException", .type "object"]
structure XcF (K : PySem.W.Frag) (mg : Str → Option Value) (x : Str) (C : Addr) : Prop where
  gl : mg x = some (.ref C)
  ex : PySem.W.excIn K C VEs "ValueError.__new__" = true
  kp : PySem.W.keepIn K (.ref C) = true
  sb : PySem.W.subIn K (.ref C) (.type "BaseException") = some true
  ty : PySem.W.typeIn K (.ref C) = some (.type "type")
def isTyp : Option Value → Bool
  | some (.type t) => decide (t = "type")
  | _ => false
def isTru : Option Bool → Bool
  | some true => true
  | _ => false
def isFls : Option Bool → Bool
  | some false => true
  | _ => false
theorem isTyp_ok {o : Option Value} (h : isTyp o = true) : o = some (.type "type") := by
  unfold isTyp at h
  split at h
  · rw [of_decide_eq_true h]
  · cases h
theorem isTru_ok {o : Option Bool} (h : isTru o = true) : o = some true := by
  unfold isTru at h; split at h
  · rfl
  · cases h
theorem isFls_ok {o : Option Bool} (h : isFls o = true) : o = some false := by
  unfold isFls at h; split at h
  · rfl
  · cases h
def clsAt (K : PySem.W.Frag) (x : Str) : Option Addr := match PySem.W.nsIn K mainGlobals x with
  | some (some (.ref C)) => some C
  | _ => none
theorem clsAt_ok {K : PySem.W.Frag} {h : Heap} {mg : Str → Option Value} {x : Str} {C : Addr} (X : K.In h) (G : h.Ns mainGlobals mg) (e : clsAt K x = some C) : mg x = some (.ref C) := by
  unfold clsAt at e
  split at e
  · rename_i C' q; cases e; exact PySem.W.mg_of X G q
  · cases e
def xcB (K : PySem.W.Frag) (x : Str) : Bool := match clsAt K x with
  | some C => PySem.W.excIn K C VEs "ValueError.__new__" && (PySem.W.keepIn K (.ref C) && (isTru (PySem.W.subIn K (.ref C) (.type "BaseException")) && isTyp (PySem.W.typeIn K (.ref C))))
  | none => false
theorem xc_ok {K : PySem.W.Frag} {h : Heap} {mg : Str → Option Value} {x : Str} (X : K.In h) (G : h.Ns mainGlobals mg) (c : xcB K x = true) : ∃ C, XcF K mg x C := by
  unfold xcB at c
  split at c
  · rename_i C e
    simp only [Bool.and_eq_true] at c
    exact ⟨C, clsAt_ok X G e, c.1, c.2.1, isTru_ok c.2.2.1, isTyp_ok c.2.2.2⟩
  · cases c
def xmB (K : PySem.W.Frag) (p : Str × Str) : Bool := match clsAt K p.1, clsAt K p.2 with
  | some C, some D => if p.1 = p.2 then isTru (PySem.W.exmOne K (.ref C) (.ref D)) else isFls (PySem.W.exmOne K (.ref C) (.ref D))
  | _, _ => false
def XmF (K : PySem.W.Frag) (mg : Str → Option Value) (x h : Str) : Prop := ∃ C D, mg x = some (.ref C) ∧ mg h = some (.ref D) ∧ PySem.W.exmOne K (.ref C) (.ref D) = some (decide (x = h))
theorem xm_ok {K : PySem.W.Frag} {h : Heap} {mg : Str → Option Value} {x y : Str} (X : K.In h) (G : h.Ns mainGlobals mg) (c : xmB K (x, y) = true) : XmF K mg x y := by
  unfold xmB at c
  split at c
  · rename_i C D e1 e2
    refine ⟨C, D, clsAt_ok X G e1, clsAt_ok X G e2, ?_⟩
    split at c
    · rename_i e; rw [isTru_ok c, decide_eq_true e]
    · rename_i e; rw [isFls_ok c, decide_eq_false e]
  · cases c
def sRaise (x : Str) : SM := fun _ st => .ex ⟨x, .non⟩ st
theorem s_raise {X : Cx} {tb : Tbs} {Wx : WX} {x m : Str} {j : Nat} {p p2 pos pos' : Pos} (F : ∃ C, XcF X.K X.mg x C) (cm : X.calm = true) (tk : Takes X Wx) (hg : Gl X x) (hdb : (x == ("__debug__" : Str)) = false := by decide) :
    SOk X tb Wx (.Raise (some (.Call (.Name x p) [.Constant (.str m) j p2] [] pos)) none pos') (sRaise x) := by
  obtain ⟨C, F⟩ := F
  refine PS_mono (ps_raise cm tk (pmk_own PySem.F.excBase_ValueError F.ex F.gl F.kp (raises_own F.sb F.ty) hg hdb)) fun D σ H ⟨Mx, W0, H0, O0, W, env, st, rel, kb, post⟩ => ?_
  exact post σ W H (.ref C) none rel.bare kb.none ⟨F.gl, .inl ⟨rfl, rfl⟩⟩
theorem Rel.tabd {K : PySem.W.Frag} {tb : Tbs} {Mx : Addr → Prop} {W : List Addr} {σ : L2.St} {H1 H2 : Hp} {env : MEnv} {st : Sto} {P : Addr} {ps ps' : Array Value} (r : Rel K tb Mx W σ H1 env st) (hp : H1 P = some (.tbl ps)) (hp' : H2 P = some (.tbl ps')) (hk : ∀ b, b ≠ P → H2 b = H1 b) (hT : TabOk tb.tg H2 P) : Stp K tb Mx env σ W H1 W H2 st := by
  have nP : ∀ b u, H1 b = some u → NoTbl u → b ≠ P := fun b u e n z => by rw [z, hp] at e; exact n ps (Option.some.inj e).symm
  have g : Grow (Mt Mx W env σ) (Mt Mx W env σ) W W H1 H2 := ⟨fun b u h _ n => by rw [hk b (nP b u h n)]; exact h, fun _ _ n => n, List.prefix_refl _⟩
  have ex : ∀ b, H1 b ≠ none → H2 b ≠ none := fun b h => by
    by_cases e : b = P
    · rw [e, hp']; simp
    · rw [hk b e]; exact h
  refine ⟨⟨fun Q hQ => ?_, fun b h => ex b (r.mx b h), r.nd, r.wo, r.om, r.inj, r.el, r.len, fun j q u h1 h2 => (r.sto j q u h1 h2).grow g fun x hx n => by rw [hk q (nP q x hx n)]; exact hx, fun j u h => ?_, fun j u h => ?_⟩,
    fun b u h _ n => by rw [hk b (nP b u h n)]; exact h, fun b h => ex b h, List.prefix_refl _, fun b h => .inl h⟩
  · by_cases e : Q = P
    · rw [e]; exact hT
    · obtain ⟨q, h1, h2, h3⟩ := r.tab Q hQ
      refine ⟨q, by rw [hk Q e]; exact h1, h2, fun n z pos cv hc => ?_⟩
      obtain ⟨c, e1, e2⟩ := h3 n z pos cv hc
      exact ⟨c, e1, by rw [hk c (nP c _ e2 (fun ps z => LamX.codeO_ne ps z))]; exact e2⟩
  · obtain ⟨x, e2, rf⟩ := r.pv j u h
    exact ⟨x, e2, RF.grow g _ rf⟩
  · obtain ⟨x, e2, rf⟩ := r.own j u h
    exact ⟨x, e2, rf.grow g fun y hy n => by rw [hk x (nP x y hy n)]; exact hy⟩
def LamSt (tg : Addr → Option Str) (P : Addr) (q : Str) (H H1 : Hp) : Prop := H1 = H ∨ ∃ (c' : Addr) (ps ps' : Array Value), H P = some (.tbl ps) ∧ H c' = none ∧ H1 = upd (upd H P (.tbl ps')) c' (LamX.CodeO c' q) ∧ TabOk tg H1 P
theorem LamSt.stp {K : PySem.W.Frag} {tb : Tbs} {Mx : Addr → Prop} {W : List Addr} {σ : L2.St} {H H1 : Hp} {env : MEnv} {st : Sto} {P : Addr} {q : Str} (l : LamSt tb.tg P q H H1) (r : Rel K tb Mx W σ H env st) : Stp K tb Mx env σ W H W H1 st := by
  rcases l with rfl | ⟨c', ps, ps', hP, hc, e, hT⟩
  · exact .refl r
  · have ne : P ≠ c' := fun z => by rw [z, hc] at hP; cases hP
    have s1 : Stp K tb Mx env σ W H W (upd H c' (LamX.CodeO c' q)) st := .new r hc fun ps z => LamX.codeO_ne ps z
    refine s1.trans (Rel.tabd (P := P) (ps := ps) (ps' := ps') s1.rel (by rw [upd_ne ne]; exact hP) (by rw [e, upd_ne ne, upd_same]) (fun b hb => ?_) hT)
    rw [e]
    by_cases z : b = c'
    · rw [z, upd_same, upd_same]
    · rw [upd_ne z, upd_ne z, upd_ne hb]
end Mp
end
section
set_option maxRecDepth 100000
set_option maxHeartbeats 2000000
namespace Mp
open PySem PySem.Spec PyProof.Rows L2 GxR LamX
section
variable {X : Cx} {pn : List (Addr × Obj)} {σ : L2.St} {H : Hp} {s : Shared}
abbrev lamQ (X : Cx) : Str := X.env.qual ++ "<lambda>"
theorem frs_new (I : Inv X pn σ H s) {a : Addr} (ha : s.heap.objs.size ≤ a) : a ∉ frs X.stack := fun z => by
  rcases List.mem_cons.mp (I.stkSub _ z) with e | e
  · have l := I.lt
    rw [← e] at l
    exact absurd l (Nat.not_lt.mpr ha)
  · exact I.nofs ha e
theorem lam_mk {tg : Addr → Option Str} {c P : Addr} {params : Arguments} {bd : Expr} {sc : Scope} {pos : Pos} {E Q : Value → Shared → Prop} (I : Inv X pn σ H s) (TB : LamX.TabB X.base X.mg c P) (hcode : X.env.code = .ref c) (hT : TabOk tg H P) (hg : tg P = some (lamQ X))
    (hdf : defaultsOf params X.env = ([], [])) (hfr : ∀ y ∈ sc.names, y.2 = .free → ∃ c, X.env.cells.lookup y.1 = some c)
    (k : ∀ (f c' : Addr) (pm ctv : Value) (H1 : Hp) (s' : Shared), Inv X pn σ H1 s' → LamSt tg P (lamQ X) H H1 → s'.heap.get? f = some (PySem.W.kla_obj "<lambda>" (lamQ X) params bd sc (cloFrom X.env.cells sc.names []) pm c' ctv) → H1 f = none → f ∉ frs X.stack → H1 c' = some (CodeO c' (lamQ X)) → s.heap.objs.size ≤ f → Q (.ref f) s') :
    wpAny (model X.prog X.w) X.A (eval (.Lambda params bd sc pos) X.env) Q E s := by
  obtain ⟨ps, hP, ht, ha⟩ := hT
  have ha := ha _ hg
  refine PySem.W.kla_eval hdf ?_
  have bP := TB.bm.keeps I.bk
  have gP := I.hok P _ hP
  cases hc : codeAmong pos ps.toList with
  | some cv =>
    obtain ⟨c', e, hco⟩ := ha pos cv hc
    subst e
    refine PySem.W.kla_makeFunctionHit (c := c) (P := P) (ps := ps) (closure_ok hfr) I.ok.glob (I.mod.glob.keeps I.bk) hcode (TB.code.keeps I.bk) gP ht hc bP fun ctv h' tk hx hsz => ?_
    refine k h'.objs.size c' ((X.mg "__name__").getD .none) ctv H _ (I.kept (t' := tk) (h' := h'.push (PySem.W.kla_obj "<lambda>" (lamQ X) params bd sc (cloFrom X.env.cells sc.names []) ((X.mg "__name__").getD .none) c' ctv)) fun b o e => Heap.get?_push_of_some _ (hx b o e)) (.inl rfl) (Heap.get?_push_size _ rfl) (I.hok.fresh hsz) (frs_new I hsz) hco hsz
  | none =>
    refine PySem.W.kla_makeFunction (c := c) (P := P) (ps := ps) (closure_ok hfr) I.ok.glob (I.mod.glob.keeps I.bk) hcode (TB.code.keeps I.bk) gP ht hc TB.gP bP fun c' ctv h' tk hx hge hlt hrec htb => ?_
    obtain ⟨c2, oc, vs, t, e2, hoc, hd, hv⟩ := hrec
    cases e2
    have sz : s.heap.objs.size ≤ h'.objs.size := by omega
    have nC : H c' = none := I.hok.fresh hge
    have neP : P ≠ c' := fun z => by rw [z, nC] at hP; cases hP
    have lst : (ps ++ #[rawInt pos.line, rawInt pos.col, .ref c']).toList = ps.toList ++ [rawInt pos.line, rawInt pos.col, .ref c'] := by simp
    have J := inv_table (t' := tk) (q := lamQ X) (more := #[rawInt pos.line, rawInt pos.col, .ref c']) (h' := h'.push (PySem.W.kla_obj "<lambda>" (lamQ X) params bd sc (cloFrom X.env.cells sc.names []) ((X.mg "__name__").getD .none) c' ctv)) I hP (fun b o hb e => Heap.get?_push_of_some _ (hx b o hb e)) (Heap.get?_push_of_some _ htb) hge ⟨oc, vs, t, Heap.get?_push_of_some _ hoc, hd, hv⟩
    refine k h'.objs.size c' ((X.mg "__name__").getD .none) ctv _ _ J (.inr ⟨c', ps, _, hP, nC, rfl, ?_⟩) (Heap.get?_push_size _ rfl) ?_ (frs_new I sz) upd_same sz
    · refine ⟨_, by rw [upd_ne neP, upd_same], by rw [lst]; exact PySem.TriplesOk_snoc _ _ _ _ ht, fun q hq p' cv hcv => ?_⟩
      rw [hg] at hq; cases hq
      rw [lst] at hcv
      rcases among_app _ ht hcv with z | z
      · obtain ⟨c0, e1, e2⟩ := ha p' cv z
        refine ⟨c0, e1, ?_⟩
        by_cases w : c0 = c'
        · rw [w, upd_same]
        · rw [upd_ne w, upd_ne (fun y => by rw [y, hP] at e2; cases e2)]; exact e2
      · exact ⟨c', z, upd_same⟩
    · have l2 : P < s.heap.objs.size := Heap.lt_size gP
      have n2 : h'.objs.size ≠ P := Nat.ne_of_gt (Nat.lt_of_lt_of_le l2 sz)
      have n1 : h'.objs.size ≠ c' := Nat.ne_of_gt hlt
      rw [upd_ne n1, upd_ne n2]
      exact I.hok.fresh sz
end
end Mp
end
section
set_option maxRecDepth 100000
set_option maxHeartbeats 2000000
namespace Mp
open PySem PySem.Spec PyProof.Rows L2 GxR LamX
inductive HdT (mg : Str → Option Value) (sg : Scope) : List ExceptHandler → List (Value × V) → Prop
  | nil : HdT mg sg [] []
  | cons {x : Str} {c : Value} {v : V} {e : Expr} {np p pos' : Pos} {hds : List ExceptHandler} {l : List (Value × V)} (hg : sg.names.lookup x = some .globalImplicit) (hd : (x == ("__debug__" : Str)) = false) (hm : mg x = some c) (he : ∀ Y : Cx, PE Y e (tC v)) (r : HdT mg sg hds l) :
      HdT mg sg (.ExceptHandler (some (.Name x np)) none [.Return (some e) p] pos' :: hds) ((c, v) :: l)
def hdL (l : List (Value × V)) : List (Value × (Addr → Value → Option Addr → TS)) := l.map fun p => (p.1, fun _ _ _ => tRet (tC p.2))
theorem HdT.ok {Z : Cx} {hds : List ExceptHandler} {l : List (Value × V)} (h : HdT Z.mg Z.env.scope hds l) : HdsOk Z hds (hdL l) := by
  generalize e1 : Z.mg = mg at h
  generalize e2 : Z.env.scope = sg at h
  induction h with
  | nil => exact .nil
  | cons hg hd hm he r ih =>
    subst e1 e2
    exact .cons ⟨hg, hd, .inl hm⟩ (fun a oe cls d pn _ _ => pss_one (ps_ret (he _))) ih
def wT (K : PySem.W.Frag) (Q : VK) : List (Value × V) → Value → Hp → Prop
  | [], _, _ => False
  | (c, v) :: r, cls, H => ∃ b, PySem.W.exmOne K cls c = some b ∧ (b = true → Q v H) ∧ (b = false → wT K Q r cls H)
section
variable {X : Cx} {Ng : List Str} {x a q : Str} {sg : Scope} {g : Addr} {cdg : Value} {hd : ExceptHandler} {hds : List ExceptHandler} {l : List (Value × V)} {p1 p2 p3 p8 p9 : Pos}
end
def cV : PV → Option V
  | .non => some .non
  | .bl b => some (.bl b)
  | .int i => some (.int i)
  | .str s => some (.str s)
  | _ => none
structure HsT (mg : Str → Option Value) (hs : List (Str × PV)) (l : List (Value × V)) : Prop where
  len : hs.length = l.length
  at_ : ∀ (i : Nat) (p : Str × PV) (u : Value × V), hs[i]? = some p → l[i]? = some u → mg p.1 = some u.1 ∧ cV p.2 = some u.2
section
variable {X : Cx} {tb : Tbs} {Wx : WX} {x a : Str} {g c P : Addr} {k : Nat} {pg : Arguments} {bg : List Stmt} {sg : Scope} {fd : FuncData} {Ng : List Str} {params : Arguments} {body : Expr} {scope : Scope} {p lpos pos : Pos} {m : EM} {hs : List (Str × PV)} {l : List (Value × V)} {df : PV} {dfV : V} {cl : List Str} {rt : Bool}
end
end Mp
namespace Mp
open PySem PySem.Spec PyProof.Rows L2 GxR LamX
theorem HsT.nil {mg : Str → Option Value} : HsT mg [] [] := ⟨rfl, fun i p u h => by simp at h⟩
theorem HsT.cons {mg : Str → Option Value} {h : Str} {v : PV} {c : Value} {w : V} {hs : List (Str × PV)} {l : List (Value × V)} (e1 : mg h = some c) (e2 : cV v = some w) (r : HsT mg hs l) : HsT mg ((h, v) :: hs) ((c, w) :: l) :=
  ⟨by simp [r.len], fun i p u h1 h2 => by
    cases i with
    | zero => simp at h1 h2; subst h1 h2; exact ⟨e1, e2⟩
    | succ i => exact r.at_ i p u (by simpa using h1) (by simpa using h2)⟩
section
variable {X : Cx} {tb : Tbs} {Wx : WX} {x a : Str} {c P : Addr} {params : Arguments} {body : Expr} {scope : Scope} {p lpos pos : Pos} {m : EM} {hs : List (Str × PV)} {df : PV} {cl : List Str} {rt : Bool}
end
section
variable {X : Cx} {tb : Tbs} {Wx : WX} {hd : ExceptHandler} {hds : List ExceptHandler} {body : List Stmt} {mb : SM} {hs : List (Str × PV)} {l : List (Value × V)} {cl : List Str} {pos : Pos}
theorem DX.tr {k : Nat} {c P : Addr} {lt : Option Str} {W : WX} {pn : List (Addr × Obj)} {xe : Value → Shared → Prop} (D : DX X tb Wx k c P lt) (tk : Takes (X.tr pn xe) W) : DX (X.tr pn xe) tb W k c P lt := ⟨tk, D.cm, D.hr, D.cd, D.tab, D.mem⟩
end
end Mp
namespace Mp
open PySem PySem.Spec PyProof.Rows L2 GxR
theorem b_bad {X : Cx} {tb : Tbs} {Wx : WX} {ss : List Stmt} : BOk X tb Wx ss sBadM := ⟨fun pins s σ H D I ⟨_, _, _, _, _, _, _, _, _, post⟩ => post.elim⟩
end Mp
end
section
set_option maxRecDepth 100000
set_option maxHeartbeats 1000000
namespace Mp
open PySem PySem.Spec PyProof.Rows L2 GxR
theorem RFs.rep {K : PySem.W.Frag} {M : Addr → Prop} {W : List Addr} {H : Hp} {xs : List PV} {ws : List V} (h : RFs K M W H xs ws) : ∀ n : Nat, RFs K M W H (List.replicate n xs).flatten (List.replicate n ws).flatten
  | 0 => RFs.nil
  | n + 1 => by
    simp only [List.replicate_succ, List.flatten_cons]
    exact RFs.append h (RFs.rep h n)
def mRep (ma mb : EM) : EM := fun env st => bindR (ma env st) fun a s => bindR (mb env s) fun b s' => match a, b with
  | .lst xs, .int k => if xs.length * k.toNat ≤ 1000000 ∧ -1000000 ≤ k ∧ k ≤ 1000000 then .ok (.lst (List.replicate k.toNat xs).flatten) s' else .bad
  | _, _ => .bad
def mRepT (ma mb : EM) : EM := fun env st => bindR (ma env st) fun a s => bindR (mb env s) fun b s' => match a, b with
  | .tup xs, .int k => if xs ≠ [] ∧ xs.length ≤ 1000 ∧ 2 ≤ k ∧ k ≤ 1000 then .ok (.tup (List.replicate k.toNat xs).flatten) s' else .bad
  | _, _ => .bad
section
variable {X : Cx} {tb : Tbs} {Wx : WX} {a b : Expr} {ma mb : EM} {pos : Pos}
theorem sz1m {n : Nat} (h : n ≤ 1000000) : n ≤ sizeLine := Nat.le_trans h (by decide)
theorem e_rep (ha : EOk X tb Wx .N a ma) (hb : EOk X tb Wx .R b mb) : EOk X tb Wx .N (.BinOp a .Mult b pos) (mRep ma mb) :=
  PE_mono (pe_op op_rep ha hb) fun σ H Q ⟨Mx, W, env, st, rel, post⟩ => by
    refine ebindE rel post fun v1 s1 W1 H1 w1 a1 r1 post => ebindE a1.rel post fun v2 s2 W2 H2 w2 a2 r2 post => ?_
    obtain ⟨xs, p, ws, rfl, rfl, e3, nm, e4, r, rs⟩ := r1
    have npW : p ∉ W1 := fun z => (r.wo p z).1 (.inr rfl)
    have hp2 := a2.kp p _ e4 npW (fun ps z => nomatch z)
    have rs2 : RFs X.K (Mt Mx W2 env σ) W2 H2 xs ws := RFs.grow a2.grow _ (RFs.grow (Grow.less fun b z => by
      rcases z with z | z | z
      · exact .inl z
      · exact .inr (.inl (.inl z))
      · exact .inr (.inr z)) _ rs)
    cases v2 with
    | int k =>
      cases (RV.int r2)
      dsimp only at post
      split at post
      · rename_i hk
        have hl := rs2.len
        exact ⟨p, k, ws, rfl, rfl, hp2, by omega, by omega, by rw [hl]; exact sz1m hk.1, fun q hq => post W2 _ _ (.new a2.rel hq fun ps z => nomatch z) (rm_newL a2.rel hq (RFs.rep rs2 _))⟩
      · exact post.elim
    | _ => exact post.elim
end
@[simp] theorem ev_rep {ma mb : EM} {env : MEnv} {st : Sto} : mRep ma mb env st = bindR (ma env st) fun a s => bindR (mb env s) fun b s' => match a, b with
  | .lst xs, .int k => if xs.length * k.toNat ≤ 1000000 ∧ -1000000 ≤ k ∧ k ≤ 1000000 then .ok (.lst (List.replicate k.toNat xs).flatten) s' else .bad
  | _, _ => .bad := rfl
@[simp] theorem ev_repT {ma mb : EM} {env : MEnv} {st : Sto} : mRepT ma mb env st = bindR (ma env st) fun a s => bindR (mb env s) fun b s' => match a, b with
  | .tup xs, .int k => if xs ≠ [] ∧ xs.length ≤ 1000 ∧ 2 ≤ k ∧ k ≤ 1000 then .ok (.tup (List.replicate k.toNat xs).flatten) s' else .bad
  | _, _ => .bad := rfl
end Mp
end
section
set_option maxRecDepth 100000
set_option maxHeartbeats 2000000
namespace Mp
open PySem PySem.Spec PyProof.Rows L2 GxR LamX
def isBI (o : Option (Option Value)) (s : String) : Bool := match o with
  | some (some (.builtin t)) => decide (t = s)
  | _ => false
theorem isBI_ok {o : Option (Option Value)} {s : String} (h : isBI o s = true) : o = some (some (.builtin s)) := by
  unfold isBI at h
  split at h
  · rw [of_decide_eq_true h]
  · cases h
def isNN (o : Option (Option Value)) : Bool := match o with
  | some none => true
  | _ => false
theorem isNN_ok {o : Option (Option Value)} (h : isNN o = true) : o = some none := by
  unfold isNN at h
  split at h
  · rfl
  · cases h
def excCB (K : PySem.W.Frag) (D : Addr) : Bool := isBI (PySem.W.findIn K (.ref D) "__getattribute__") "BaseException.__getattribute__" && (isNN (PySem.W.findIn K (.ref D) "__getattr__") && (isTru (PySem.W.subIn K (.ref D) (.type "BaseException")) && (PySem.W.hasDictIn K D &&
  (isBI (PySem.W.findIn K (.ref D) "__class__") "object.__class__" && (isBI (PySem.W.specialIn K (.builtin "object.__class__") "__get__") "getset_descriptor.__get__" && (isTru (PySem.W.takesIn K (.builtin "object.__class__")) && isTru (PySem.W.mroIn K D (.type "object"))))))))
theorem excCB_ok {K : PySem.W.Frag} {D : Addr} (h : excCB K D = true) : ExcC K D := by
  unfold excCB at h
  simp only [Bool.and_eq_true] at h
  obtain ⟨h1, h2, h3, h4, h5, h6, h7, h8⟩ := h
  exact ⟨isBI_ok h1, isNN_ok h2, isTru_ok h3, h4, isBI_ok h5, isBI_ok h6, isTru_ok h7, isTru_ok h8⟩
def xaB (K : PySem.W.Frag) (x A : Str) (B : String) : Bool := match clsAt K x, clsAt K A with
  | some C, some D => excCB K C && (isTru (PySem.W.kitOne K (.ref C) (.ref D)) && (isTru (PySem.W.kitOne K (.ref C) (.type B)) && isTru (PySem.W.exmOne K (.ref C) (.ref C))))
  | _, _ => false
section
variable {X : Cx} {Ng : List Str} {x a q en hx A : Str} {B : Str} {Bt : String} {sg : Scope} {g C D : Addr} {cdg : Value} {p1 p2 p3 p4 p5 p6 p7 p8 p9 r1 r2 r3 r4 r5 r6 r7 r8 : Pos} {e : Expr} {df : V}
end
end Mp
namespace Mp
open PySem PySem.Spec PyProof.Rows L2 GxR LamX
section
variable {X : Cx} {tb : Tbs} {Wx : WX} {x a h : Str} {c P : Addr} {params : Arguments} {body : Expr} {scope : Scope} {p lpos pos : Pos} {m : EM} {df : PV} {cl : List Str}
end
end Mp
end
section
set_option maxRecDepth 100000
set_option maxHeartbeats 1000000
namespace Mp
open PySem PySem.Spec PyProof.Rows L2 GxR
def fgB (K : PySem.W.Frag) (x : Str) : Bool := (clsAt K x).isSome
def mCallF (i : Nat) (x : Str) (n : Nat) (m : FM) (ms : AM) : EM := fun env st => match env[i]? with
  | some (.pv (.fn y)) => if y = x then mCall n m ms env st else .bad
  | _ => .bad
section
variable {X : Cx} {tb : Tbs} {Wx : WX} {e : Expr} {es : List Expr} {ms : AM} {pos p : Pos} {k j n i : Nat} {x t : Str} {m : FM}
variable {CX : CXT} {f : Addr} {fd : FuncData} {ps : List Str} {sp : Sp} {E : L2.St → XK} {ta : TA}
end
@[simp] theorem ev_callF {i n : Nat} {x : Str} {m : FM} {ms : AM} {env : MEnv} {st : Sto} (h : env[i]? = some (.pv (.fn x))) : mCallF i x n m ms env st = mCall n m ms env st := by
  unfold mCallF; rw [h]; simp
end Mp
namespace Mp
open PySem PySem.Spec PyProof.Rows L2 GxR
section
variable {X : Cx}
end
end Mp
namespace Mp
open PySem PySem.Spec PyProof.Rows L2 GxR
end Mp
end
section
set_option maxRecDepth 100000
set_option maxHeartbeats 1000000
namespace Mp
open PySem PySem.Spec PyProof.Rows L2
section
variable {X : Cx}
end
end Mp
end
section
set_option maxRecDepth 100000
set_option maxHeartbeats 1000000
namespace Mp
open PySem PySem.Spec PyProof.Rows L2
def updW {α : Type} (k : List Int) (z : α) : List (List Int) → List α → List α
  | k' :: ks, w :: ws => (if k' = k then z else w) :: updW k z ks ws
  | _, ws => ws
theorem new_dct {P : Program} {w : World} (h : Heap) (G : Hp) (hb : sysModules < h.objs.size) : ObjOk P w G (h.push { cls := .type "dict", data := .dict #[] }) h.objs.size (dctO h.objs.size [] [] []) :=
  dctO_ok ⟨beq_eq_false_iff_ne.mpr (Ne.symm (Nat.ne_of_lt hb)), Nat.zero_le _, List.nodup_nil, [], rfl, rfl, .nil, _, #[], 0, Heap.get?_push_size _ rfl, ⟨rfl, rfl, rfl⟩, rfl, rfl⟩
theorem RFs.updW {K M W H} {k : List Int} {v : PV} {z : V} (hz : RF K M W H v z) : ∀ {ks : List (List Int)} {vs : List PV} {ws : List V}, RFs K M W H vs ws → RFs K M W H (updW k v ks vs) (updW k z ks ws)
  | [], _, _, h => by unfold Mp.updW; exact h
  | k' :: ks, [], _, h => by rw [h.nil_inv]; unfold Mp.updW; exact RFs.nil
  | k' :: ks, x :: vs, _, h => by
    obtain ⟨w, r, rfl, h1, h2⟩ := h.inv
    unfold Mp.updW
    refine RFs.cons ?_ (RFs.updW hz h2)
    split
    · exact hz
    · exact h1
theorem KsOk.snoc {K M H} {k : List Int} {b : Addr} (h : FzT K M H b (k.map V.int)) : ∀ {ks : List (List Int)} {as : List Addr}, KsOk K M H ks as → KsOk K M H (ks ++ [k]) (as ++ [b])
  | [], _, e => by cases (show _ = [] from e); exact ⟨b, [], rfl, h, rfl⟩
  | _ :: _, _, ⟨a, r, e, h1, h2⟩ => ⟨a, r ++ [b], by rw [e]; rfl, h1, KsOk.snoc h h2⟩
theorem noTbl_dct {p : Addr} {ks : List (List Int)} {as : List Addr} {ws : List V} : NoTbl (dctO p ks as ws) := fun ps e => nomatch e
section
variable {X : Cx} {tb : Tbs} {Wx : WX} {kx vx tg iter : Expr} {ifs : List Expr} {sc : Scope} {own : List (Str × Nat)} {pos : Pos} {mi : AM} {g : PV → MEnv → Option MEnv} {tc : TM} {mk mv : EM} {is vs : List Nat}
end
end Mp
end
section
set_option maxRecDepth 100000
set_option maxHeartbeats 1000000
namespace Mp
open PySem PySem.Spec PyProof.Rows L2 RZ
section
variable {K : PySem.W.Frag} {M : Addr → Prop} {W : List Addr} {H : Hp}
end
end Mp
end
section
set_option maxRecDepth 100000
set_option maxHeartbeats 1000000
namespace Mp
open PySem PySem.Spec PyProof.Rows L2
variable {X : Cx} {tb : Tbs} {pos : Pos} {Wx : WX}
end Mp
end
section
namespace Mp
open PySem PySem.Spec PyProof.Rows L2
section
variable {k : Nat} {A : Around}
end
end Mp
end
section
set_option maxRecDepth 100000
namespace Mp
open PySem L2
theorem compL_map {α : Type} {gt : PV → MEnv → Option MEnv} {tc : TM} {me : EM} {env : MEnv} {st : Sto} (f : α → PV) (p : α → Bool) (g : α → PV) :
    ∀ xs : List α, (∀ a ∈ xs, ∃ e1, gt (f a) env = some e1 ∧ tc e1 st = .ok (p a) st ∧ (p a = true → me e1 st = .ok (g a) st)) → compL gt tc me (xs.map f) env st = .ok ((xs.filter p).map g) st
  | [], _ => rfl
  | x :: xs, h => by
    obtain ⟨e1, h1, h2, h3⟩ := h x List.mem_cons_self
    have ih := compL_map f p g xs fun a ha => h a (List.mem_cons_of_mem _ ha)
    simp only [List.map_cons, compL, h1, h2, bindX]
    cases q : p x with
    | true => simp only [if_true, h3 q, ih, List.filter_cons_of_pos q, List.map_cons]
    | false => simp only [Bool.false_eq_true, if_false, ih, List.filter_cons_of_neg (show ¬ p x = true by rw [q]; exact Bool.false_ne_true)]
theorem isD_int {i : Int} : isD (.int i) = true := by unfold isD pd; rfl
theorem ordd_int {i j : Int} : ordd (.int i) (.int j) = true := by simp [ordd, isD_int, alk, isN]
@[simp] theorem cLt_int {i j : Int} : cLt (.int i) (.int j) = some (.bl (decide (i < j))) := by simp [cLt, ordd_int, pvLt]
@[simp] theorem cGt_int {i j : Int} : cGt (.int i) (.int j) = some (.bl (decide (j < i))) := by simp [cGt, ordd_int, pvLt]
@[simp] theorem cLe_int {i j : Int} : cLe (.int i) (.int j) = some (.bl (decide (i ≤ j))) := by
  simp only [cLe, ordd_int, pvLt, if_true]; congr 2; by_cases h : i ≤ j <;> simp [h] <;> omega
@[simp] theorem cGe_int {i j : Int} : cGe (.int i) (.int j) = some (.bl (decide (j ≤ i))) := by
  simp only [cGe, ordd_int, pvLt, if_true]; congr 2; by_cases h : j ≤ i <;> simp [h] <;> omega
@[simp] theorem cEq_int {i j : Int} : cEq (.int i) (.int j) = some (.bl (decide (i = j))) := by
  simp only [cEq, isD_int, pvEq, Bool.and_self, if_true]; congr 2
@[simp] theorem cNe_int {i j : Int} : cNe (.int i) (.int j) = some (.bl (!decide (i = j))) := by
  simp only [cNe, isD_int, pvEq, Bool.and_self, if_true]; congr 2
@[simp] theorem pAdd_int {i j : Int} : pAdd (.int i) (.int j) = some (.int (i + j)) := rfl
@[simp] theorem pSub_int {i j : Int} : pSub (.int i) (.int j) = some (.int (i - j)) := rfl
theorem pMod_int {i j : Int} (h : j ≠ 0) : pMod (.int i) (.int j) = some (.int (i.fmod j)) := by simp [pMod, h]
theorem pFdiv_int {i j : Int} (h : j ≠ 0) (h2 : j.natAbs < 1073741824) : pFdiv (.int i) (.int j) = some (.int (i.fdiv j)) := by simp [pFdiv, divOk, h, h2]
theorem pMul_int {i j : Int} (h : small j = true) : pMul (.int i) (.int j) = some (.int (i * j)) := by simp [pMul, mulOk, h]
def GD (st : Sto) (n : Nat) : Prop := ∃ a b c : Int, st[n]? = some (.lst [.int a, .int b, .int c])
theorem GD.set {st : Sto} {n j : Nat} {a b c : Int} (hn : n < st.length) (h : GD st j) : GD (st.set n (.lst [.int a, .int b, .int c])) j := by
  by_cases e : n = j
  · subst e; exact ⟨a, b, c, List.getElem?_set_self hn⟩
  · obtain ⟨a', b', c', h⟩ := h
    exact ⟨a', b', c', by rw [List.getElem?_set_ne e]; exact h⟩
def rollB : SM := (sSeq (sIf (tOrM (tBin cEq (mIx (mVar 0) (mC (.int 2))) (mC (.int 2))) (tAndM (tBin cEq (mIx (mVar 0) (mC (.int 2))) (mC (.int 1))) (tBin cGt (mIx (mVar 0) (mC (.int 0))) (mC (.int 0))))) (sSeq (sSet 2 (mBin pMod (mCallB bInt (aCons (mIx (mVar 0) (mC (.int 0))) aNil)) (mVar 1)))
  (sSeq (sSetIxS (mVar 0) (mC (.int 0)) (mBin pFdiv (mIx (mVar 0) (mC (.int 0))) (mVar 1)))
  (sRet (mVar 2)))) sNil)
  (sSeq (sSetIxS (mVar 0) (mC (.int 2)) (mC (.int 0)))
  (sSeq (sSetIxS (mVar 0) (mC (.int 0)) (mBin pMod (mCallB bInt (aCons (mBin pAdd (mBin pAdd (mBin pMul (mIx (mVar 0) (mC (.int 0))) (mC (.int 48271))) (mBin pMul (mIx (mVar 0) (mC (.int 1))) (mC (.int 69621)))) (mC (.int 11))) aNil)) (mC (.int 2147483647))))
  (sSeq (sSetIxS (mVar 0) (mC (.int 1)) (mBin pAdd (mIx (mVar 0) (mC (.int 1))) (mC (.int 1))))
  (sRet (mBin pMod (mCallB bInt (aCons (mBin pAdd (mBin pFdiv (mIx (mVar 0) (mC (.int 0))) (mC (.int 7))) (mIx (mVar 0) (mC (.int 0)))) aNil)) (mVar 1)))))))
theorem fmod_range {i m : Int} (h : 0 < m) : 0 ≤ i.fmod m ∧ i.fmod m < m := ⟨Int.fmod_nonneg_of_pos _ h, Int.fmod_lt_of_pos _ h⟩
theorem roll_spec {st : Sto} {n : Nat} {m : Int} (g : GD st n) (h0 : 0 < m) (h1 : m < 1000000000) :
    ∃ v a b c, fnM 3 rollB [.ref n, .int m] st = .ok (.int v) (st.set n (.lst [.int a, .int b, .int c])) ∧ 0 ≤ v ∧ v < m := by
  obtain ⟨a, b, c, hs⟩ := g
  have hn : n < st.length := (List.getElem?_eq_some_iff.mp hs).1
  have hset : ∀ x, (st.set n x)[n]? = some x := fun x => List.getElem?_set_self hn
  have hm : m ≠ 0 := by omega
  have hm2 : m.natAbs < 1073741824 := by omega
  have k1 : small 48271 = true := by decide
  have k2 : small 69621 = true := by decide
  have i0 : ixN 3 0 = some 0 := by decide
  have i1 : ixN 3 1 = some 1 := by decide
  have i2 : ixN 3 2 = some 2 := by decide
  by_cases hc : c = 2 ∨ (c = 1 ∧ 0 < a)
  · refine ⟨a.fmod m, a.fdiv m, b, c, ?_, (fmod_range h0).1, (fmod_range h0).2⟩
    by_cases h2 : c = 2
    · subst h2
      simp [fnM, rollB, env0, sSeq, sIf, sSet, sSetIxS, sRet, tOrM, tAndM, tBin, mIx, mVar, mC, mBin, mCallB, aCons, aNil, bInt, bindR, bindF, ixV, seqOf, optR, hs, atI, i0, i1, i2, pMod_int hm, pFdiv_int hm hm2]
    · obtain ⟨h3, h4⟩ := hc.resolve_left h2
      subst h3
      simp [fnM, rollB, env0, sSeq, sIf, sSet, sSetIxS, sRet, tOrM, tAndM, tBin, mIx, mVar, mC, mBin, mCallB, aCons, aNil, bInt, bindR, bindF, ixV, seqOf, optR, hs, atI, i0, i1, i2, pMod_int hm, pFdiv_int hm hm2, h4]
  · refine ⟨(((a * 48271 + b * 69621 + 11).fmod 2147483647).fdiv 7 + (a * 48271 + b * 69621 + 11).fmod 2147483647).fmod m, (a * 48271 + b * 69621 + 11).fmod 2147483647, b + 1, 0, ?_, (fmod_range h0).1, (fmod_range h0).2⟩
    by_cases h1 : c = 1
    · subst h1
      have h4 : ¬ 0 < a := fun z => hc (.inr ⟨rfl, z⟩)
      simp [fnM, rollB, env0, sSeq, sIf, sSet, sSetIxS, sRet, sNil, tOrM, tAndM, tBin, mIx, mVar, mC, mBin, mCallB, aCons, aNil, bInt, bindR, bindF, ixV, seqOf, optR, hs, hset, atI, i0, i1, i2, pMod_int hm, pFdiv_int hm hm2, pMul_int k1, pMul_int k2, h4, pMod_int (show (2147483647 : Int) ≠ 0 by decide), pFdiv_int (show (7 : Int) ≠ 0 by decide) (by decide)]
    · have h2 : ¬ c = 2 := fun z => hc (.inl z)
      simp [fnM, rollB, env0, sSeq, sIf, sSet, sSetIxS, sRet, sNil, tOrM, tAndM, tBin, mIx, mVar, mC, mBin, mCallB, aCons, aNil, bInt, bindR, bindF, ixV, seqOf, optR, hs, hset, atI, i0, i1, i2, pMod_int hm, pFdiv_int hm hm2, pMul_int k1, pMul_int k2, h1, h2, pMod_int (show (2147483647 : Int) ≠ 0 by decide), pFdiv_int (show (7 : Int) ≠ 0 by decide) (by decide)]
def diceB : SM := (sSeq (sIf (tChain2 cLt cLt (mBin pSub (mC (.int 0)) (mC (.int 10))) (mVar 0) (mC (.int 10))) (sRet (mLstS (aCons (mCallB bAbs (aCons (mVar 0) aNil)) (aCons (mC (.int 0)) (aCons (mC (.int 2)) aNil))))) sNil)
  (sRet (mLstS (aCons (mVar 0) (aCons (mBin pAdd (mC (.int 1)) (mBin pMod (mCallB bInt (aCons (mVar 0) aNil)) (mC (.int 1009)))) (aCons (mCallB bInt (aCons (mBin cGe (mVar 0) (mBin pPow (mC (.int 10)) (mC (.int 18)))) aNil)) aNil))))))
def diceO (c : Int) : PO := if -10 < c ∧ c < 10 then .lst [.int (if c < 0 then -c else c), .int 0, .int 2] else .lst [.int c, .int (1 + c.fmod 1009), .int (bi (decide (10 ^ 18 ≤ c)))]
theorem dice_spec (c : Int) (st : Sto) : fnM 1 diceB [.int c] st = .ok (.ref st.length) (st ++ [diceO c]) := by
  have p1 : pPow (.int 10) (.int 18) = some (.int (10 ^ 18)) := by rfl
  have p2 := @pMod_int c 1009 (by decide)
  unfold diceO
  by_cases h1 : -10 < c
  · by_cases h2 : c < 10
    · simp [fnM, diceB, env0, sSeq, sIf, sRet, mLstS, tChain2, mBin, mC, mVar, mCallB, aCons, aNil, bAbs, bindR, bindF, optR, h1, h2]
    · simp [fnM, diceB, env0, sSeq, sIf, sRet, sNil, mLstS, tChain2, mBin, mC, mVar, mCallB, aCons, aNil, bAbs, bInt, bindR, bindF, optR, h1, h2, p1, p2]
  · simp [fnM, diceB, env0, sSeq, sIf, sRet, sNil, mLstS, tChain2, mBin, mC, mVar, mCallB, aCons, aNil, bAbs, bInt, bindR, bindF, optR, h1, p1, p2]
theorem diceO_gd (c : Int) : ∃ x y z : Int, diceO c = .lst [.int x, .int y, .int z] := by
  unfold diceO
  split
  · exact ⟨_, _, _, rfl⟩
  · exact ⟨_, _, _, rfl⟩
def roundsB : SM := (sSeq (sSet 2 (mSlice (mVar 0) pN (pS (mVar 1))))
  (sSeq (sIf (tBin cEq (mVar 2) (mLst aNil)) (sSet 2 (mLst (aCons (mC (.int 0)) aNil))) sNil)
  (sRet (mComp (iSeq (mVar 2)) (gNm 3) tYesM (mCall 1 (fnM 1 diceB) (aCons (mVar 3) aNil)) [3]))))
theorem pds_ints : ∀ (n : Nat) (ns : List Int), pds n (ns.map PV.int) = true
  | n, [] => by unfold pds; rfl
  | n, x :: xs => by
    show pds n (.int x :: xs.map PV.int) = true
    unfold pds
    rw [pds_ints n xs]
    unfold pd; rfl
theorem isD_ints (ns : List Int) : isD (.lst (ns.map PV.int)) = true := by
  unfold isD pd; exact pds_ints 59 ns
theorem comp_dice : ∀ (cs : List Int) (env : MEnv) (st : Sto), 3 < env.length → compL (gNm 3) tYesM (mCall 1 (fnM 1 diceB) (aCons (mVar 3) aNil)) (cs.map PV.int) env st = .ok ((List.range cs.length).map fun i => .ref (st.length + i)) (st ++ cs.map diceO)
  | [], env, st, h => by simp [compL]
  | c :: cs, env, st, h => by
    have ih := comp_dice cs env (st ++ [diceO c]) h
    have e : (env.set 3 (.pv (.int c)))[3]? = some (.pv (.int c)) := List.getElem?_set_self h
    simp only [List.map_cons, compL, gNm, tYesM, bindX, if_true, mCall, aCons, aNil, bindR, mVar, e, List.length_cons, List.length_nil, dice_spec]
    rw [ih]
    simp only [List.append_assoc, List.singleton_append, List.length_append, List.length_singleton]
    rw [List.range_succ_eq_map, List.map_cons, List.map_map]
    simp only [Nat.add_zero]
    congr 2
    refine List.map_congr_left fun i _ => ?_
    simp only [Function.comp]
    congr 1; omega
end Mp
end
section
set_option maxRecDepth 100000
namespace Mp
open PySem L2
section
variable {env : MEnv} {st s : Sto} {i j : Nat} {m ma mb mc mv mo : EM} {ms : AM} {t ta tb : TM} {a b c : SM} {v : PV} {g g' : PV → PV → Option PV} {α β : Type} {x : α} {f : α → Sto → MRes β} {ff : α → Sto → MFlow}
@[simp] theorem ev_bindR : bindR (.ok x s) f = f x s := rfl
@[simp] theorem ev_bindR_bad : bindR .bad f = .bad := rfl
@[simp] theorem ev_bindX : bindX (.ok x s) f = f x s := rfl
@[simp] theorem ev_bindF : bindF (.ok x s) ff = ff x s := rfl
@[simp] theorem ev_optR : optR (some v) s = .ok v s := rfl
@[simp] theorem ev_optB {y : Bool} : optB (some y) s = .ok y s := rfl
@[simp] theorem ev_C : mC v env st = .ok v st := rfl
@[simp] theorem ev_aNil : aNil env st = .ok [] st := rfl
@[simp] theorem ev_aCons : aCons m ms env st = bindR (m env st) fun v s => bindR (ms env s) fun vs s' => .ok (v :: vs) s' := rfl
@[simp] theorem ev_bin : mBin g ma mb env st = bindR (ma env st) fun a s => bindR (mb env s) fun b s' => optR (g a b) s' := rfl
@[simp] theorem ev_un {h : PV → Option PV} : mUn h ma env st = bindR (ma env st) fun a s => optR (h a) s := rfl
@[simp] theorem ev_tbin : tBin g ma mb env st = bindR (ma env st) fun a s => bindR (mb env s) fun b s' => match g a b with | some (.bl c) => .ok c s' | _ => .bad := rfl
@[simp] theorem ev_chain : tChain2 g g' ma mb mc env st = bindR (ma env st) fun a s => bindR (mb env s) fun b s' => match g a b with
  | some (.bl true) => bindR (mc env s') fun d s2 => match g' b d with | some (.bl k) => .ok k s2 | _ => .bad
  | some (.bl false) => .ok false s'
  | _ => .bad := by
  unfold tChain2
  rfl
@[simp] theorem ev_and : tAndM ta tb env st = bindR (ta env st) fun c s => if c then tb env s else .ok false s := rfl
@[simp] theorem ev_or : tOrM ta tb env st = bindR (ta env st) fun c s => if c then .ok true s else tb env s := rfl
@[simp] theorem ev_not : tNotM ta env st = bindR (ta env st) fun c s => .ok (!c) s := rfl
@[simp] theorem ev_val : tVal m env st = bindR (m env st) fun a s => optB (tru s a) s := rfl
@[simp] theorem ev_tup : mTup ms env st = bindR (ms env st) fun vs s => if vs.length ≤ 1000 then .ok (.tup vs) s else .bad := rfl
@[simp] theorem ev_lst : mLst ms env st = bindR (ms env st) fun vs s => if vs.length ≤ 1000 then .ok (.lst vs) s else .bad := rfl
@[simp] theorem ev_ix : mIx ma mb env st = bindR (ma env st) fun a s => bindR (mb env s) fun b s' => optR (ixV s' a b) s' := rfl
@[simp] theorem ev_callB {h : Sto → List PV → Option PV} : mCallB h ms env st = bindR (ms env st) fun vs s => optR (h s vs) s := rfl
@[simp] theorem ev_callN {h : Sto → List PV → Option (List PV)} : mCallN h ms env st = bindR (ms env st) fun vs s => optR ((h s vs).map .lst) s := rfl
@[simp] theorem ev_call {n : Nat} {M : FM} : mCall n M ms env st = bindR (ms env st) fun vs s => if vs.length = n then M vs s else .bad := rfl
@[simp] theorem ev_isi {T : String} : mIsi T m env st = bindR (m env st) fun v s => optR (isiO T v) s := rfl
@[simp] theorem isiO_int {T : String} {n : Int} : isiO T (.int n) = some (.bl (isiB T (.int n))) := rfl
@[simp] theorem isiO_bl {T : String} {n : Bool} : isiO T (.bl n) = some (.bl (isiB T (.bl n))) := rfl
@[simp] theorem isiO_str {T : String} {n : Str} : isiO T (.str n) = some (.bl (isiB T (.str n))) := rfl
@[simp] theorem isiO_non {T : String} : isiO T .non = some (.bl (isiB T .non)) := rfl
@[simp] theorem isiO_tup {T : String} {n : List PV} : isiO T (.tup n) = some (.bl (isiB T (.tup n))) := rfl
@[simp] theorem isiO_lst {T : String} {n : List PV} : isiO T (.lst n) = some (.bl (isiB T (.lst n))) := rfl
@[simp] theorem ev_eif : eIf t ma mb env st = bindR (t env st) fun c s => if c then ma env s else mb env s := rfl
@[simp] theorem ev_seq : sSeq a b env st = match a env st with | .nx e s => b e s | r => r := rfl
@[simp] theorem ev_set : sSet i m env st = bindF (m env st) fun v s => .nx (env.set i (.pv v)) s := rfl
@[simp] theorem ev_ret : sRet m env st = bindF (m env st) fun v s => .rt v s := rfl
@[simp] theorem ev_par {is : List Nat} {m : VM} : sPar is m env st = bindF (m env st) fun evs s => if evs.length = is.length then .nx (setsE is evs env) s else .bad := rfl
@[simp] theorem ev_expr : sExpr m env st = bindF (m env st) fun _ s => .nx env s := rfl
@[simp] theorem ev_if : sIf t a b env st = bindF (t env st) fun c s => if c then a env s else b env s := rfl
@[simp] theorem ev_nil : sNil env st = .nx env st := rfl
@[simp] theorem ev_asg {h : PV → MEnv → Option MEnv} : sAsg h m env st = bindF (m env st) fun v s => match h v env with | some e => .nx e s | none => .bad := rfl
@[simp] theorem ev_seqI : iSeq m env st = bindR (m env st) fun v s => match v with | .lst xs => .ok xs s | .tup xs => .ok xs s | _ => .bad := rfl
@[simp] theorem ev_gNm {w : PV} : gNm i w env = some (env.set i (.pv w)) := rfl
@[simp] theorem ev_for {mi : AM} {gt : PV → MEnv → Option MEnv} {ks : List Nat} : sFor mi gt a ks env st = bindF (mi env st) fun xs s => forL gt a ks xs env s := rfl
@[simp] theorem ev_fnM {n : Nat} {args : List PV} : fnM n a args st = match a (env0 n args) st with | .nx _ s => .ok .non s | .rt v s => .ok v s | .ex x s => .exc x s | _ => .bad := rfl
@[simp] theorem ev_eAnd : eAnd ma mb env st = bindR (ma env st) fun a s => match tru s a with | some true => mb env s | some false => .ok a s | none => .bad := rfl
@[simp] theorem ev_eOr : eOr ma mb env st = bindR (ma env st) fun a s => match tru s a with | some true => .ok a s | some false => mb env s | none => .bad := rfl
@[simp] theorem ev_eNot : eNot ma env st = bindR (ma env st) fun a s => match tru s a with | some k => .ok (.bl (!k)) s | none => .bad := rfl
@[simp] theorem tru_bl {y : Bool} : tru s (.bl y) = some y := rfl
@[simp] theorem pNeg_int {n : Int} : pNeg (.int n) = some (.int (-n)) := rfl
@[simp] theorem bAbs_int {n : Int} : bAbs s [.int n] = some (.int (if n < 0 then -n else n)) := rfl
@[simp] theorem bMax_int {n k : Int} : bMax s [.int n, .int k] = some (.int (if k > n then k else n)) := rfl
@[simp] theorem bMin_int {n k : Int} : bMin s [.int n, .int k] = some (.int (if k < n then k else n)) := rfl
@[simp] theorem ix0 {p q : PV} : atI [p, q] 0 = some p := rfl
@[simp] theorem ix1 {p q : PV} : atI [p, q] 1 = some q := rfl
end
theorem seq_nx {a b : SM} {env e : MEnv} {st s : Sto} (h : a env st = .nx e s) : sSeq a b env st = b e s := by rw [ev_seq, h]
theorem seq_rt {a b : SM} {env : MEnv} {st s : Sto} {v : PV} (h : a env st = .rt v s) : sSeq a b env st = .rt v s := by rw [ev_seq, h]
theorem seq_ex {a b : SM} {env : MEnv} {st s : Sto} {x : MExc} (h : a env st = .ex x s) : sSeq a b env st = .ex x s := by rw [ev_seq, h]
theorem fnM_rt {n : Nat} {b : SM} {args : List PV} {st s : Sto} {v : PV} (h : b (env0 n args) st = .rt v s) : fnM n b args st = .ok v s := by rw [ev_fnM, h]
theorem fnM_ex {n : Nat} {b : SM} {args : List PV} {st s : Sto} {x : MExc} (h : b (env0 n args) st = .ex x s) : fnM n b args st = .exc x s := by rw [ev_fnM, h]
theorem mul_small {i j : Int} (h : -1000000 < j ∧ j < 1000000) : pMul (.int i) (.int j) = some (.int (i * j)) := pMul_int (by unfold small; simp; omega)
def Gs (k : Nat) (st : Sto) : Prop := ∀ i, i < k → GD st i
theorem roll_k {k n : Nat} {st : Sto} {m : Int} (g : Gs k st) (hn : n < k) (h0 : 0 < m) (h1 : m < 1000000000) : ∃ v st', fnM 3 rollB [.ref n, .int m] st = .ok (.int v) st' ∧ 0 ≤ v ∧ v < m ∧ Gs k st' := by
  obtain ⟨v, a, b, c, e, h2, h3⟩ := roll_spec (g n hn) h0 h1
  have hl : n < st.length := by obtain ⟨_, _, _, h⟩ := g n hn; exact (List.getElem?_eq_some_iff.mp h).1
  exact ⟨v, _, e, h2, h3, fun i hi => GD.set hl (g i hi)⟩
theorem forL_ex {α : Type} {gt : PV → MEnv → Option MEnv} {body : SM} {ks : List Nat} (f : α → PV) (Pd : List α → MEnv → Sto → Prop) :
    ∀ (xs : List α) (env : MEnv) (st : Sto), Pd xs env st → (∀ a r env st, a ∈ xs → Pd (a :: r) env st → ∃ e1 e st', gt (f a) env = some e1 ∧ body e1 st = .nx e st' ∧ Pd r (killE ks e) st') → ∃ e st', forL gt body ks (xs.map f) env st = .nx e st' ∧ Pd [] e st'
  | [], env, st, h, _ => ⟨env, st, rfl, h⟩
  | x :: xs, env, st, h, hs => by
    obtain ⟨e1, e, st', h1, h2, h3⟩ := hs x xs env st List.mem_cons_self h
    obtain ⟨e', st2, h4, h5⟩ := forL_ex f Pd xs _ _ h3 fun a r env st ha => hs a r env st (List.mem_cons_of_mem _ ha)
    refine ⟨e', st2, ?_, h5⟩
    simp only [List.map_cons, forL, h1, h2]
    exact h4
theorem forL_id {α : Type} {gt : PV → MEnv → Option MEnv} {body : SM} {ks : List Nat} {env : MEnv} {st : Sto} (f : α → PV) : ∀ (xs : List α), (∀ a ∈ xs, ∃ e1 e, gt (f a) env = some e1 ∧ body e1 st = .nx e st ∧ killE ks e = env) → forL gt body ks (xs.map f) env st = .nx env st
  | [], _ => rfl
  | x :: xs, h => by
    obtain ⟨e1, e, h1, h2, h3⟩ := h x List.mem_cons_self
    simp only [List.map_cons, forL, h1, h2, h3]
    exact forL_id f xs fun a ha => h a (List.mem_cons_of_mem _ ha)
@[simp] theorem ev_rng1 {ms : AM} {env : MEnv} {st : Sto} : iRng1M ms env st = bindR (ms env st) fun vs s => match vs with | [.int j] => if rgOk j then .ok (rangeL 0 j.toNat) s else .bad | _ => .bad := rfl
@[simp] theorem ev_rng2 {ms : AM} {env : MEnv} {st : Sto} : iRng2M ms env st = bindR (ms env st) fun vs s => match vs with | [.int i, .int j] => if rgOk i && rgOk j then .ok (rangeL i (j - i).toNat) s else .bad | _ => .bad := rfl
end Mp
end
section
set_option maxRecDepth 100000
set_option maxHeartbeats 1000000
namespace Mp
open PySem PySem.Spec PyProof.Rows L2
def CmpH (prog : Program) (w : World) (A : Around) (op : CmpOp) (h0 : Heap) (P : Nat → Value → Prop) (bt : Nat → Nat → Bool) : Prop :=
  ∀ i j vi vj (s : Shared) (Q : Value → Shared → Prop) (E : Value → Shared → Prop), (∀ b o, h0.get? b = some o → s.heap.get? b = some o) → P i vi → P j vj → Q (.bool (bt i j)) s → wpAny (model prog w) A (richCompare op vi vj) Q E s
section
variable {prog : Program} {w : World} {A : Around} {R : Result → Shared → Prop} {I : Addr} {fp wr : List Addr} {n : Nat} {P : Nat → Value → Prop} {St : Nat → Heap → Prop} {h0 : Heap}
theorem min_loopH (W : Walks prog w A.in1 I fp wr n P St) (bt : Nat → Nat → Bool) (hcmp : CmpH prog w A.in1 .Lt h0 P bt) (S : Addr) (hSf : S ∉ fp) (hw0 : ∀ b ∈ wr, h0.get? b = none) (hS0 : h0.get? S = none) :
    ∀ (k j : Nat) (s : Shared) (vb : Value) (c : Nat), n - (j + 1) = k → j + 1 ≤ n → St (j + 1) s.heap → P (argBest bt j) vb → (∀ b o, h0.get? b = some o → s.heap.get? b = some o) →
    s.heap.get? S = some { cls := .type "list", dict := none, data := .seq #[vb, vb] c, slots := #[] } →
    (∀ v h' tk, P (argBest bt (n - 1)) v → (∀ b o, h0.get? b = some o → h'.get? b = some o) → R (.ok (.ret v)) { s with heap := h', toks := tk }) →
    codeAny (model prog w) A (.builtin "min.loop" ⟨[.ref I, .none, .ref S], []⟩) R s := by
  have hSw : S ∉ wr := fun h => hSf (W.sub _ h)
  have hname : (toString "min" ++ toString ".loop" : String) = "min.loop" := by decide
  have old : ∀ {b : Addr} {o : Obj}, h0.get? b = some o → b ∉ wr ∧ b ≠ S := fun {b o} e => ⟨fun z => (by rw [hw0 b z] at e; cases e), fun z => (by rw [z, hS0] at e; cases e)⟩
  intro k
  induction k with
  | zero =>
    intro j s vb c hk hj hst hPb kp hS hR
    have hin : j + 1 = n := by omega
    refine codeAny_builtin F.entry_min_loop ?_
    rw [Around.under_plainId F.plain_min_loop _]
    show wpAny _ A.in1 (seqItems? (.ref S) >>= _) _ _ s
    refine wpAny_bind (wpAny_seqItems hS rfl ?_)
    show wpAny _ A.in1 (tryCatch (pyNext (.ref I)) _ >>= _) _ _ s
    refine wpAny_bind (wpAny_tryCatch (W.done s _ _ (hin ▸ hst) fun h' tk hk' => ?_))
    have hS' := hk' S _ hSw hS
    show wpAny _ A.in1 (updateSeq S (fun _ => #[]) >>= _) _ _ _
    refine wpAny_bind ?_
    refine wpAny_updateSeq hS' rfl (wpAny_bind (wpAny_letGo (wpAny_pure ?_)))
    refine hR vb _ tk (by rw [← hin]; exact hPb) fun b o e => (Heap.get?_update_other _ _ (Ne.symm (old e).2)).trans (hk' b o (old e).1 (kp b o e))
  | succ k ih =>
    intro j s vb c hk hj hst hPb kp hS hR
    have hlt : j + 1 < n := by omega
    refine codeAny_builtin F.entry_min_loop ?_
    rw [Around.under_plainId F.plain_min_loop _]
    show wpAny _ A.in1 (seqItems? (.ref S) >>= _) _ _ s
    refine wpAny_bind (wpAny_seqItems hS rfl ?_)
    show wpAny _ A.in1 (tryCatch (pyNext (.ref I)) _ >>= _) _ _ s
    refine wpAny_bind (wpAny_tryCatch (W.item (j + 1) s _ _ hlt hst fun v h' tk hP hst' hk' => ?_))
    have hS' := hk' S _ hSw hS
    have kp' : ∀ b o, h0.get? b = some o → h'.get? b = some o := fun b o e => hk' b o (old e).1 (kp b o e)
    show wpAny _ A.in1 (tryCatch (holding [v, v] (richCompare .Lt v vb >>= _)) _ >>= _) _ _ _
    refine wpAny_bind (wpAny_tryCatch (wpAny_holding (wpAny_bind (hcmp (j + 1) (argBest bt j) v vb _ _ _ kp' hP hPb ?_))))
    refine wpAny_bind (wpAny_holding (wpAny_truthy_bool ?_))
    refine wpAny_bind (wpAny_letGo (wpAny_pure ?_))
    cases hb : bt (j + 1) (argBest bt j) with
    | true =>
      simp only [if_true]
      refine wpAny_bind ?_
      refine wpAny_updateSeq hS' rfl (wpAny_bind (wpAny_letGo ?_))
      rw [hname]
      refine wpAny_pure ⟨plainId_quiet F.plain_min_loop _, ih (j + 1) _ v _ (by omega) hlt (W.frame _ _ _ hst' fun b hbf o e => ?_) (by simp only [argBest, hb, if_true]; exact hP) (fun b o e => ?_) (Heap.get?_update_self _ hS' rfl)
        fun v' h'' tk'' hP' hk'' => ?_⟩
      · exact (Heap.get?_update_other _ _ (fun h : S = b => hSf (by rw [h]; exact hbf))).trans e
      · exact (Heap.get?_update_other _ _ (Ne.symm (old e).2)).trans (kp' b o e)
      · exact hR v' h'' tk'' hP' hk''
    | false =>
      simp only [Bool.false_eq_true, if_false]
      refine wpAny_bind (wpAny_letGo ?_)
      rw [hname]
      refine wpAny_pure ⟨plainId_quiet F.plain_min_loop _, ih (j + 1) _ vb c (by omega) hlt hst' (by simp only [argBest, hb, Bool.false_eq_true, if_false]; exact hPb) kp' hS' fun v' h'' tk'' hP' hk'' => ?_⟩
      exact hR v' h'' tk'' hP' hk''
theorem min_firstH (W : Walks prog w A.in1 I fp wr n P St) (bt : Nat → Nat → Bool) (hcmp : CmpH prog w A.in1 .Lt h0 P bt) (S : Addr) (hSf : S ∉ fp) (hw0 : ∀ b ∈ wr, h0.get? b = none) (hS0 : h0.get? S = none) (hn : 0 < n) {s : Shared} {c : Nat} (hst : St 0 s.heap)
    (kp : ∀ b o, h0.get? b = some o → s.heap.get? b = some o) (hS : s.heap.get? S = some { cls := .type "list", dict := none, data := .seq #[] c, slots := #[] })
    (hR : ∀ v h' tk, P (argBest bt (n - 1)) v → (∀ b o, h0.get? b = some o → h'.get? b = some o) → R (.ok (.ret v)) { s with heap := h', toks := tk }) :
    codeAny (model prog w) A (.builtin "min.loop" ⟨[.ref I, .none, .ref S], []⟩) R s := by
  have hSw : S ∉ wr := fun h => hSf (W.sub _ h)
  have hname : (toString "min" ++ toString ".loop" : String) = "min.loop" := by decide
  have old : ∀ {b : Addr} {o : Obj}, h0.get? b = some o → b ∉ wr ∧ b ≠ S := fun {b o} e => ⟨fun z => (by rw [hw0 b z] at e; cases e), fun z => (by rw [z, hS0] at e; cases e)⟩
  refine codeAny_builtin F.entry_min_loop ?_
  rw [Around.under_plainId F.plain_min_loop _]
  show wpAny _ A.in1 (seqItems? (.ref S) >>= _) _ _ s
  refine wpAny_bind (wpAny_seqItems hS rfl ?_)
  show wpAny _ A.in1 (tryCatch (pyNext (.ref I)) _ >>= _) _ _ s
  refine wpAny_bind (wpAny_tryCatch (W.item 0 s _ _ hn hst fun v h' tk hP hst' hk' => ?_))
  have hS' := hk' S _ hSw hS
  show wpAny _ A.in1 (updateSeq S (fun _ => #[v, v]) >>= _) _ _ _
  refine wpAny_bind ?_
  refine wpAny_updateSeq hS' rfl ?_
  rw [hname]
  refine wpAny_pure ⟨plainId_quiet F.plain_min_loop _, min_loopH W bt hcmp S hSf hw0 hS0 _ 0 _ v _ rfl hn (W.frame _ _ _ hst' fun b hbf o e => ?_) hP (fun b o e => ?_) (Heap.get?_update_self _ hS' rfl) fun v' h'' tk'' hP' hk'' => ?_⟩
  · exact (Heap.get?_update_other _ _ (fun h : S = b => hSf (by rw [h]; exact hbf))).trans e
  · exact (Heap.get?_update_other _ _ (Ne.symm (old e).2)).trans (hk' b o (old e).1 (kp b o e))
  · exact hR v' h'' tk'' hP' hk''
end
section
variable {prog : Program} {w : World} {A : Around} {E : Value → Shared → Prop} {s : Shared} {h0 : Heap}
theorem call_minH {x : Value} {Q : Value → Shared → Prop} (k0 : ∀ b o, h0.get? b = some o → s.heap.get? b = some o)
    (h : wpAny (model prog w) A.in1 (pyIter x) (fun it s₂ => ∃ I fp wr n P St bt, it = .ref I ∧ Walks prog w A.in1 I fp wr n P St ∧ St 0 s₂.heap ∧ (∀ b ∈ fp, b < s₂.heap.objs.size) ∧ 0 < n ∧ CmpH prog w A.in1 .Lt h0 P bt ∧ (∀ b ∈ wr, h0.get? b = none) ∧ (∀ b o, h0.get? b = some o → s₂.heap.get? b = some o) ∧
      ∀ v h' tk, P (argBest bt (n - 1)) v → (∀ b o, h0.get? b = some o → h'.get? b = some o) → Q v { s₂ with heap := h', toks := tk }) E s) :
    wpAny (model prog w) A (call (.builtin "min") [x]) Q E s := by
  have hname : (toString "min" ++ toString ".loop" : String) = "min.loop" := by decide
  refine call_function_tree F.kind_min F.plain_min F.entry_min (F.args_min1 _) ?_
  show wpAny _ A.in1 (Builtin.Builtins.bindParams "min" ["key", "default"] 0 ⟨[], []⟩ >>= _) _ _ s
  refine wpAny_bind (wpAny_of_eq (show Builtin.Builtins.bindParams "min" ["key", "default"] 0 ⟨[], []⟩ = pure [none, none] from rfl) ?_)
  refine wpAny_bind (wpAny_pure ?_)
  refine wpAny_bind (wpAny_mono h (fun it s₂ h₂ => ?_) fun _ _ e => e)
  obtain ⟨I, fp, wr, n, P, St, bt, rfl, W, hst, hfp, hn, hcmp, hw0, kp, hQ⟩ := h₂
  refine wpAny_bind (wpAny_newObj_type ?_)
  have hSf : s₂.heap.objs.size ∉ fp := fun hm => Nat.lt_irrefl _ (hfp _ hm)
  have hS0 : h0.get? s₂.heap.objs.size = none := by
    cases q : h0.get? s₂.heap.objs.size with
    | none => rfl
    | some o => exact absurd (Heap.lt_size (kp _ _ q)) (Nat.lt_irrefl _)
  rw [hname]
  exact wpAny_pure ⟨plainId_quiet F.plain_min_loop _, min_firstH W bt hcmp s₂.heap.objs.size hSf hw0 hS0 hn (W.frame _ _ _ hst fun b _ o e => Heap.get?_push_of_some _ e) (fun b o e => Heap.get?_push_of_some _ (kp b o e)) (Heap.get?_push_size _ rfl) fun v h' tk hP hk => hQ v h' tk hP hk⟩
theorem call_min2H {a b : Value} {Q : Value → Shared → Prop} (k0 : ∀ b o, h0.get? b = some o → s.heap.get? b = some o)
    (h : wpAny (model prog w) A.in1 (pyIter (.ref s.heap.objs.size)) (fun it s₂ => ∃ I fp wr n P St bt, it = .ref I ∧ Walks prog w A.in1 I fp wr n P St ∧ St 0 s₂.heap ∧ (∀ b ∈ fp, b < s₂.heap.objs.size) ∧ 0 < n ∧ CmpH prog w A.in1 .Lt h0 P bt ∧ (∀ b ∈ wr, h0.get? b = none) ∧ (∀ b o, h0.get? b = some o → s₂.heap.get? b = some o) ∧
      ∀ v h' tk, P (argBest bt (n - 1)) v → (∀ b o, h0.get? b = some o → h'.get? b = some o) → Q v { s₂ with heap := h', toks := tk }) E
      { s with heap := s.heap.push { cls := .type "tuple", data := .seq #[a, b] } }) :
    wpAny (model prog w) A (call (.builtin "min") [a, b]) Q E s := by
  have hname : (toString "min" ++ toString ".loop" : String) = "min.loop" := by decide
  refine call_function_tree F.kind_min F.plain_min F.entry_min (F.args_min2 _ _) ?_
  show wpAny _ A.in1 (Builtin.Builtins.bindParams "min" ["key", "default"] 0 ⟨[], []⟩ >>= _) _ _ s
  refine wpAny_bind (wpAny_of_eq (show Builtin.Builtins.bindParams "min" ["key", "default"] 0 ⟨[], []⟩ = pure [none, none] from rfl) ?_)
  show wpAny _ A.in1 (newTuple [a, b] >>= _) _ _ s
  refine wpAny_bind (wpAny_newObj_type ?_)
  refine wpAny_bind (wpAny_mono h (fun it s₂ h₂ => ?_) fun _ _ e => e)
  obtain ⟨I, fp, wr, n, P, St, bt, rfl, W, hst, hfp, hn, hcmp, hw0, kp, hQ⟩ := h₂
  refine wpAny_bind (wpAny_newObj_type ?_)
  have hSf : s₂.heap.objs.size ∉ fp := fun hm => Nat.lt_irrefl _ (hfp _ hm)
  have hS0 : h0.get? s₂.heap.objs.size = none := by
    cases q : h0.get? s₂.heap.objs.size with
    | none => rfl
    | some o => exact absurd (Heap.lt_size (kp _ _ q)) (Nat.lt_irrefl _)
  rw [hname]
  exact wpAny_pure ⟨plainId_quiet F.plain_min_loop _, min_firstH W bt hcmp s₂.heap.objs.size hSf hw0 hS0 hn (W.frame _ _ _ hst fun b _ o e => Heap.get?_push_of_some _ e) (fun b o e => Heap.get?_push_of_some _ (kp b o e)) (Heap.get?_push_size _ rfl) fun v h' tk hP hk => hQ v h' tk hP hk⟩
end
section
variable {prog : Program} {w : World} {A : Around} {R : Result → Shared → Prop} {I : Addr} {fp wr : List Addr} {n : Nat} {P : Nat → Value → Prop} {St : Nat → Heap → Prop} {h0 : Heap}
theorem max_loopH (W : Walks prog w A.in1 I fp wr n P St) (bt : Nat → Nat → Bool) (hcmp : CmpH prog w A.in1 .Gt h0 P bt) (S : Addr) (hSf : S ∉ fp) (hw0 : ∀ b ∈ wr, h0.get? b = none) (hS0 : h0.get? S = none) :
    ∀ (k j : Nat) (s : Shared) (vb : Value) (c : Nat), n - (j + 1) = k → j + 1 ≤ n → St (j + 1) s.heap → P (argBest bt j) vb → (∀ b o, h0.get? b = some o → s.heap.get? b = some o) →
    s.heap.get? S = some { cls := .type "list", dict := none, data := .seq #[vb, vb] c, slots := #[] } →
    (∀ v h' tk, P (argBest bt (n - 1)) v → (∀ b o, h0.get? b = some o → h'.get? b = some o) → R (.ok (.ret v)) { s with heap := h', toks := tk }) →
    codeAny (model prog w) A (.builtin "max.loop" ⟨[.ref I, .none, .ref S], []⟩) R s := by
  have hSw : S ∉ wr := fun h => hSf (W.sub _ h)
  have hname : (toString "max" ++ toString ".loop" : String) = "max.loop" := by decide
  have old : ∀ {b : Addr} {o : Obj}, h0.get? b = some o → b ∉ wr ∧ b ≠ S := fun {b o} e => ⟨fun z => (by rw [hw0 b z] at e; cases e), fun z => (by rw [z, hS0] at e; cases e)⟩
  intro k
  induction k with
  | zero =>
    intro j s vb c hk hj hst hPb kp hS hR
    have hin : j + 1 = n := by omega
    refine codeAny_builtin F.entry_max_loop ?_
    rw [Around.under_plainId F.plain_max_loop _]
    show wpAny _ A.in1 (seqItems? (.ref S) >>= _) _ _ s
    refine wpAny_bind (wpAny_seqItems hS rfl ?_)
    show wpAny _ A.in1 (tryCatch (pyNext (.ref I)) _ >>= _) _ _ s
    refine wpAny_bind (wpAny_tryCatch (W.done s _ _ (hin ▸ hst) fun h' tk hk' => ?_))
    have hS' := hk' S _ hSw hS
    show wpAny _ A.in1 (updateSeq S (fun _ => #[]) >>= _) _ _ _
    refine wpAny_bind ?_
    refine wpAny_updateSeq hS' rfl (wpAny_bind (wpAny_letGo (wpAny_pure ?_)))
    refine hR vb _ tk (by rw [← hin]; exact hPb) fun b o e => (Heap.get?_update_other _ _ (Ne.symm (old e).2)).trans (hk' b o (old e).1 (kp b o e))
  | succ k ih =>
    intro j s vb c hk hj hst hPb kp hS hR
    have hlt : j + 1 < n := by omega
    refine codeAny_builtin F.entry_max_loop ?_
    rw [Around.under_plainId F.plain_max_loop _]
    show wpAny _ A.in1 (seqItems? (.ref S) >>= _) _ _ s
    refine wpAny_bind (wpAny_seqItems hS rfl ?_)
    show wpAny _ A.in1 (tryCatch (pyNext (.ref I)) _ >>= _) _ _ s
    refine wpAny_bind (wpAny_tryCatch (W.item (j + 1) s _ _ hlt hst fun v h' tk hP hst' hk' => ?_))
    have hS' := hk' S _ hSw hS
    have kp' : ∀ b o, h0.get? b = some o → h'.get? b = some o := fun b o e => hk' b o (old e).1 (kp b o e)
    show wpAny _ A.in1 (tryCatch (holding [v, v] (richCompare .Gt v vb >>= _)) _ >>= _) _ _ _
    refine wpAny_bind (wpAny_tryCatch (wpAny_holding (wpAny_bind (hcmp (j + 1) (argBest bt j) v vb _ _ _ kp' hP hPb ?_))))
    refine wpAny_bind (wpAny_holding (wpAny_truthy_bool ?_))
    refine wpAny_bind (wpAny_letGo (wpAny_pure ?_))
    cases hb : bt (j + 1) (argBest bt j) with
    | true =>
      simp only [if_true]
      refine wpAny_bind ?_
      refine wpAny_updateSeq hS' rfl (wpAny_bind (wpAny_letGo ?_))
      rw [hname]
      refine wpAny_pure ⟨plainId_quiet F.plain_max_loop _, ih (j + 1) _ v _ (by omega) hlt (W.frame _ _ _ hst' fun b hbf o e => ?_) (by simp only [argBest, hb, if_true]; exact hP) (fun b o e => ?_) (Heap.get?_update_self _ hS' rfl)
        fun v' h'' tk'' hP' hk'' => ?_⟩
      · exact (Heap.get?_update_other _ _ (fun h : S = b => hSf (by rw [h]; exact hbf))).trans e
      · exact (Heap.get?_update_other _ _ (Ne.symm (old e).2)).trans (kp' b o e)
      · exact hR v' h'' tk'' hP' hk''
    | false =>
      simp only [Bool.false_eq_true, if_false]
      refine wpAny_bind (wpAny_letGo ?_)
      rw [hname]
      refine wpAny_pure ⟨plainId_quiet F.plain_max_loop _, ih (j + 1) _ vb c (by omega) hlt hst' (by simp only [argBest, hb, Bool.false_eq_true, if_false]; exact hPb) kp' hS' fun v' h'' tk'' hP' hk'' => ?_⟩
      exact hR v' h'' tk'' hP' hk''
theorem max_firstH (W : Walks prog w A.in1 I fp wr n P St) (bt : Nat → Nat → Bool) (hcmp : CmpH prog w A.in1 .Gt h0 P bt) (S : Addr) (hSf : S ∉ fp) (hw0 : ∀ b ∈ wr, h0.get? b = none) (hS0 : h0.get? S = none) (hn : 0 < n) {s : Shared} {c : Nat} (hst : St 0 s.heap)
    (kp : ∀ b o, h0.get? b = some o → s.heap.get? b = some o) (hS : s.heap.get? S = some { cls := .type "list", dict := none, data := .seq #[] c, slots := #[] })
    (hR : ∀ v h' tk, P (argBest bt (n - 1)) v → (∀ b o, h0.get? b = some o → h'.get? b = some o) → R (.ok (.ret v)) { s with heap := h', toks := tk }) :
    codeAny (model prog w) A (.builtin "max.loop" ⟨[.ref I, .none, .ref S], []⟩) R s := by
  have hSw : S ∉ wr := fun h => hSf (W.sub _ h)
  have hname : (toString "max" ++ toString ".loop" : String) = "max.loop" := by decide
  have old : ∀ {b : Addr} {o : Obj}, h0.get? b = some o → b ∉ wr ∧ b ≠ S := fun {b o} e => ⟨fun z => (by rw [hw0 b z] at e; cases e), fun z => (by rw [z, hS0] at e; cases e)⟩
  refine codeAny_builtin F.entry_max_loop ?_
  rw [Around.under_plainId F.plain_max_loop _]
  show wpAny _ A.in1 (seqItems? (.ref S) >>= _) _ _ s
  refine wpAny_bind (wpAny_seqItems hS rfl ?_)
  show wpAny _ A.in1 (tryCatch (pyNext (.ref I)) _ >>= _) _ _ s
  refine wpAny_bind (wpAny_tryCatch (W.item 0 s _ _ hn hst fun v h' tk hP hst' hk' => ?_))
  have hS' := hk' S _ hSw hS
  show wpAny _ A.in1 (updateSeq S (fun _ => #[v, v]) >>= _) _ _ _
  refine wpAny_bind ?_
  refine wpAny_updateSeq hS' rfl ?_
  rw [hname]
  refine wpAny_pure ⟨plainId_quiet F.plain_max_loop _, max_loopH W bt hcmp S hSf hw0 hS0 _ 0 _ v _ rfl hn (W.frame _ _ _ hst' fun b hbf o e => ?_) hP (fun b o e => ?_) (Heap.get?_update_self _ hS' rfl) fun v' h'' tk'' hP' hk'' => ?_⟩
  · exact (Heap.get?_update_other _ _ (fun h : S = b => hSf (by rw [h]; exact hbf))).trans e
  · exact (Heap.get?_update_other _ _ (Ne.symm (old e).2)).trans (hk' b o (old e).1 (kp b o e))
  · exact hR v' h'' tk'' hP' hk''
end
section
variable {prog : Program} {w : World} {A : Around} {E : Value → Shared → Prop} {s : Shared} {h0 : Heap}
theorem call_maxH {x : Value} {Q : Value → Shared → Prop} (k0 : ∀ b o, h0.get? b = some o → s.heap.get? b = some o)
    (h : wpAny (model prog w) A.in1 (pyIter x) (fun it s₂ => ∃ I fp wr n P St bt, it = .ref I ∧ Walks prog w A.in1 I fp wr n P St ∧ St 0 s₂.heap ∧ (∀ b ∈ fp, b < s₂.heap.objs.size) ∧ 0 < n ∧ CmpH prog w A.in1 .Gt h0 P bt ∧ (∀ b ∈ wr, h0.get? b = none) ∧ (∀ b o, h0.get? b = some o → s₂.heap.get? b = some o) ∧
      ∀ v h' tk, P (argBest bt (n - 1)) v → (∀ b o, h0.get? b = some o → h'.get? b = some o) → Q v { s₂ with heap := h', toks := tk }) E s) :
    wpAny (model prog w) A (call (.builtin "max") [x]) Q E s := by
  have hname : (toString "max" ++ toString ".loop" : String) = "max.loop" := by decide
  refine call_function_tree F.kind_max F.plain_max F.entry_max (F.args_max1 _) ?_
  show wpAny _ A.in1 (Builtin.Builtins.bindParams "max" ["key", "default"] 0 ⟨[], []⟩ >>= _) _ _ s
  refine wpAny_bind (wpAny_of_eq (show Builtin.Builtins.bindParams "max" ["key", "default"] 0 ⟨[], []⟩ = pure [none, none] from rfl) ?_)
  refine wpAny_bind (wpAny_pure ?_)
  refine wpAny_bind (wpAny_mono h (fun it s₂ h₂ => ?_) fun _ _ e => e)
  obtain ⟨I, fp, wr, n, P, St, bt, rfl, W, hst, hfp, hn, hcmp, hw0, kp, hQ⟩ := h₂
  refine wpAny_bind (wpAny_newObj_type ?_)
  have hSf : s₂.heap.objs.size ∉ fp := fun hm => Nat.lt_irrefl _ (hfp _ hm)
  have hS0 : h0.get? s₂.heap.objs.size = none := by
    cases q : h0.get? s₂.heap.objs.size with
    | none => rfl
    | some o => exact absurd (Heap.lt_size (kp _ _ q)) (Nat.lt_irrefl _)
  rw [hname]
  exact wpAny_pure ⟨plainId_quiet F.plain_max_loop _, max_firstH W bt hcmp s₂.heap.objs.size hSf hw0 hS0 hn (W.frame _ _ _ hst fun b _ o e => Heap.get?_push_of_some _ e) (fun b o e => Heap.get?_push_of_some _ (kp b o e)) (Heap.get?_push_size _ rfl) fun v h' tk hP hk => hQ v h' tk hP hk⟩
theorem call_max2H {a b : Value} {Q : Value → Shared → Prop} (k0 : ∀ b o, h0.get? b = some o → s.heap.get? b = some o)
    (h : wpAny (model prog w) A.in1 (pyIter (.ref s.heap.objs.size)) (fun it s₂ => ∃ I fp wr n P St bt, it = .ref I ∧ Walks prog w A.in1 I fp wr n P St ∧ St 0 s₂.heap ∧ (∀ b ∈ fp, b < s₂.heap.objs.size) ∧ 0 < n ∧ CmpH prog w A.in1 .Gt h0 P bt ∧ (∀ b ∈ wr, h0.get? b = none) ∧ (∀ b o, h0.get? b = some o → s₂.heap.get? b = some o) ∧
      ∀ v h' tk, P (argBest bt (n - 1)) v → (∀ b o, h0.get? b = some o → h'.get? b = some o) → Q v { s₂ with heap := h', toks := tk }) E
      { s with heap := s.heap.push { cls := .type "tuple", data := .seq #[a, b] } }) :
    wpAny (model prog w) A (call (.builtin "max") [a, b]) Q E s := by
  have hname : (toString "max" ++ toString ".loop" : String) = "max.loop" := by decide
  refine call_function_tree F.kind_max F.plain_max F.entry_max (F.args_max2 _ _) ?_
  show wpAny _ A.in1 (Builtin.Builtins.bindParams "max" ["key", "default"] 0 ⟨[], []⟩ >>= _) _ _ s
  refine wpAny_bind (wpAny_of_eq (show Builtin.Builtins.bindParams "max" ["key", "default"] 0 ⟨[], []⟩ = pure [none, none] from rfl) ?_)
  show wpAny _ A.in1 (newTuple [a, b] >>= _) _ _ s
  refine wpAny_bind (wpAny_newObj_type ?_)
  refine wpAny_bind (wpAny_mono h (fun it s₂ h₂ => ?_) fun _ _ e => e)
  obtain ⟨I, fp, wr, n, P, St, bt, rfl, W, hst, hfp, hn, hcmp, hw0, kp, hQ⟩ := h₂
  refine wpAny_bind (wpAny_newObj_type ?_)
  have hSf : s₂.heap.objs.size ∉ fp := fun hm => Nat.lt_irrefl _ (hfp _ hm)
  have hS0 : h0.get? s₂.heap.objs.size = none := by
    cases q : h0.get? s₂.heap.objs.size with
    | none => rfl
    | some o => exact absurd (Heap.lt_size (kp _ _ q)) (Nat.lt_irrefl _)
  rw [hname]
  exact wpAny_pure ⟨plainId_quiet F.plain_max_loop _, max_firstH W bt hcmp s₂.heap.objs.size hSf hw0 hS0 hn (W.frame _ _ _ hst fun b _ o e => Heap.get?_push_of_some _ e) (fun b o e => Heap.get?_push_of_some _ (kp b o e)) (Heap.get?_push_size _ rfl) fun v h' tk hP hk => hQ v h' tk hP hk⟩
end
end Mp
end
section
set_option maxRecDepth 100000
set_option maxHeartbeats 1000000
namespace Mp
open PySem PySem.Spec PyProof.Rows L2
def mmOk (xs : List PV) : Bool := xs.all fun a => xs.all fun b => ordd a b
def mnF (m y : PV) : PV := if pvLt y m then y else m
def mxF (m y : PV) : PV := if pvLt m y then y else m
def pvMin : List PV → Option PV
  | [] => none
  | x :: xs => if mmOk (x :: xs) then some (xs.foldl mnF x) else none
def pvMax : List PV → Option PV
  | [] => none
  | x :: xs => if mmOk (x :: xs) then some (xs.foldl mxF x) else none
def isL : PV → Bool | .lst _ => true | _ => false
theorem RV.rf {K : PySem.W.Frag} {M : Addr → Prop} {W : List Addr} {H : Hp} {v : PV} {w : V} (h : RV K M W H v w) (n : isL v = false) : RF K M W H v w := by
  rcases h with h | ⟨xs, p, ws, rfl, _⟩
  · exact h
  · cases n
def bMinD (_ : Sto) : List PV → Option PV
  | [.lst xs] => pvMin xs
  | [.tup xs] => pvMin xs
  | [a, b] => if isL a || isL b then none else pvMin [a, b]
  | _ => none
def bMaxD (_ : Sto) : List PV → Option PV
  | [.lst xs] => pvMax xs
  | [.tup xs] => pvMax xs
  | [a, b] => if isL a || isL b then none else pvMax [a, b]
  | _ => none
theorem best_fold {f : PV → PV → PV} {bt : Nat → Nat → Bool} {xs : List PV} (hf : ∀ i j a b, xs[i]? = some a → xs[j]? = some b → f b a = if bt i j then a else b) {x : PV} (hx : xs[0]? = some x) :
    ∀ k, k < xs.length → argBest bt k < xs.length ∧ xs[argBest bt k]? = some (((xs.drop 1).take k).foldl f x)
  | 0, h => ⟨h, by simpa [argBest] using hx⟩
  | k + 1, h => by
    obtain ⟨h1, h2⟩ := best_fold hf hx k (by omega)
    have e : ((xs.drop 1).take (k + 1)) = (xs.drop 1).take k ++ [xs[k + 1]] := by
      rw [List.take_succ_eq_append_getElem (by simp; omega)]
      simp [Nat.add_comm]
    have hk : xs[k + 1]? = some xs[k + 1] := List.getElem?_eq_getElem h
    rw [e, List.foldl_append, List.foldl_cons, List.foldl_nil, hf (k + 1) (argBest bt k) _ _ hk h2]
    simp only [argBest]
    split
    · exact ⟨h, hk⟩
    · exact ⟨h1, h2⟩
theorem best_all {f : PV → PV → PV} {bt : Nat → Nat → Bool} {x : PV} {xs : List PV} (hf : ∀ i j a b, (x :: xs)[i]? = some a → (x :: xs)[j]? = some b → f b a = if bt i j then a else b) : (x :: xs)[argBest bt ((x :: xs).length - 1)]? = some (xs.foldl f x) := by
  have := (best_fold (f := f) (bt := bt) (xs := x :: xs) hf rfl ((x :: xs).length - 1) (by simp)).2
  simpa using this
section
variable {X : Cx} {pins : List (Addr × Obj)} {σ : L2.St} {H : Hp} {s : Shared} {M : Addr → Prop} {W : List Addr}
theorem cmp_lt (I : Inv X pins σ H s) {xs : List PV} {ws : List V} {its : List Value} (rs : RFs X.K M W H xs ws) (rv : Vals ws its) (hm : mmOk xs = true) (hu : X.A.units + 100 < cLine) :
    CmpH X.prog X.w X.A.in1 .Lt s.heap (fun i v => its.toArray[i]? = some v) (fun i j => match xs[i]?, xs[j]? with | some a, some b => pvLt a b | _, _ => false) := by
  intro i j vi vj s' Q E kp hi hj hq
  have get : ∀ (i : Nat) (v : Value), its.toArray[i]? = some v → ∃ x, xs[i]? = some x ∧ ∀ y ∈ xs, ordd x y = true → ∃ as, Reads s.heap v (toD x) as := fun i v h => by
    have h : its[i]? = some v := by simpa using h
    have hl1 := rs.len; have hl2 := rv.length
    obtain ⟨hi, _⟩ := List.getElem?_eq_some_iff.mp h
    have hw : ws[i]? = some (ws[i]'(by omega)) := List.getElem?_eq_getElem _
    obtain ⟨u, e, ru⟩ := rv.get hw
    rw [h] at e; cases e
    obtain ⟨x, ex, rx⟩ := rs.getr hw
    exact ⟨x, ex, fun y hy ho => Dp.reads I (toD x) _ v (RF.dp 60 x (ordd_ok (K := X.K) (M := M) (W := W) (H := H) ho).1 rx) ru⟩
  obtain ⟨x, ex, rx⟩ := get i vi hi
  obtain ⟨y, ey, ry⟩ := get j vj hj
  have hxy : ordd x y = true := List.all_eq_true.mp (List.all_eq_true.mp hm x (List.mem_of_getElem? ex)) y (List.mem_of_getElem? ey)
  have hyy : ordd y y = true := List.all_eq_true.mp (List.all_eq_true.mp hm y (List.mem_of_getElem? ey)) y (List.mem_of_getElem? ey)
  obtain ⟨as, r1⟩ := rx y (List.mem_of_getElem? ey) hxy
  obtain ⟨bs, r2⟩ := ry y (List.mem_of_getElem? ey) hyy
  obtain ⟨h1, h2, h3, h4⟩ := ordd_ok (K := X.K) (M := M) (W := W) (H := H) hxy
  refine PySem.W.lt_data (A := X.A.in1) (PyProof.Rows.Reads.keeps kp r1) (PyProof.Rows.Reads.keeps kp r2) (by rw [alk_toD 60 60 x y h1 h2]; exact h3) h4 (depth_ok (A := X.A.in1) (show X.A.units + 1 + 64 < cLine by omega) h1) ?_
  rw [lt_toD 60 60 x y h1 h2 h3]
  dsimp only at hq
  rw [ex, ey] at hq
  exact hq
theorem cmp_gt (I : Inv X pins σ H s) {xs : List PV} {ws : List V} {its : List Value} (rs : RFs X.K M W H xs ws) (rv : Vals ws its) (hm : mmOk xs = true) (hu : X.A.units + 100 < cLine) :
    CmpH X.prog X.w X.A.in1 .Gt s.heap (fun i v => its.toArray[i]? = some v) (fun i j => match xs[i]?, xs[j]? with | some a, some b => pvLt b a | _, _ => false) := by
  intro i j vi vj s' Q E kp hi hj hq
  have get : ∀ (i : Nat) (v : Value), its.toArray[i]? = some v → ∃ x, xs[i]? = some x ∧ ∀ y ∈ xs, ordd x y = true → ∃ as, Reads s.heap v (toD x) as := fun i v h => by
    have h : its[i]? = some v := by simpa using h
    have hl1 := rs.len; have hl2 := rv.length
    obtain ⟨hi, _⟩ := List.getElem?_eq_some_iff.mp h
    have hw : ws[i]? = some (ws[i]'(by omega)) := List.getElem?_eq_getElem _
    obtain ⟨u, e, ru⟩ := rv.get hw
    rw [h] at e; cases e
    obtain ⟨x, ex, rx⟩ := rs.getr hw
    exact ⟨x, ex, fun y hy ho => Dp.reads I (toD x) _ v (RF.dp 60 x (ordd_ok (K := X.K) (M := M) (W := W) (H := H) ho).1 rx) ru⟩
  obtain ⟨x, ex, rx⟩ := get i vi hi
  obtain ⟨y, ey, ry⟩ := get j vj hj
  have hxy : ordd x y = true := List.all_eq_true.mp (List.all_eq_true.mp hm x (List.mem_of_getElem? ex)) y (List.mem_of_getElem? ey)
  have hyx : ordd y x = true := List.all_eq_true.mp (List.all_eq_true.mp hm y (List.mem_of_getElem? ey)) x (List.mem_of_getElem? ex)
  obtain ⟨as, r1⟩ := rx y (List.mem_of_getElem? ey) hxy
  obtain ⟨bs, r2⟩ := ry x (List.mem_of_getElem? ex) hyx
  obtain ⟨h1, h2, h3, h4⟩ := ordd_ok (K := X.K) (M := M) (W := W) (H := H) hxy
  obtain ⟨g1, g2, g3, g4⟩ := ordd_ok (K := X.K) (M := M) (W := W) (H := H) hyx
  refine PySem.W.gt_data (A := X.A.in1) (PyProof.Rows.Reads.keeps kp r1) (PyProof.Rows.Reads.keeps kp r2) (by rw [alk_toD 60 60 x y h1 h2]; exact h3) h4 (depth_ok (A := X.A.in1) (show X.A.units + 1 + 64 < cLine by omega) h1) ?_
  rw [lt_toD 60 60 y x g1 g2 g3]
  dsimp only at hq
  rw [ex, ey] at hq
  exact hq
theorem row_end (I : Inv X pins σ H s) {xs : List PV} {ws : List V} {its : List Value} {Q : VK} {v : PV} {i : Nat} {u : Value} {h' : Heap} {tk : Nat} {gens : Array GenState} (rs : RFs X.K M W H xs ws) (rv : Vals ws its) (hv : xs[i]? = some v) (hu : its.toArray[i]? = some u) (kp : ∀ b o, s.heap.get? b = some o → h'.get? b = some o)
    (q : ∀ w, RF X.K M W H v w → Q w H) : EP X pins σ Q u { s with heap := h', toks := tk } := by
  obtain ⟨w, ew, rw⟩ := rs.get hv
  obtain ⟨u', eu, ru⟩ := rv.get ew
  have hu : its[i]? = some u := by simpa using hu
  rw [hu] at eu; cases eu
  exact ⟨w, H, I.kept kp, ru, q w rw⟩
end
section
variable {X : Cx}
theorem cv_minD (hc : X.calm = true) (hu : X.A.units + 100 < cLine) : CallV X (.builtin "min") bMinD := by
  intro pins s σ H xs us Q I r h
  obtain ⟨M, W, st, args, v, hm, so, ra, hg, q⟩ := h
  have hh : X.A.in1.handled = none := I.ok.hd hc
  have fin : ∀ (ys : List PV), pvMin ys = some v → mmOk ys = true ∧ 0 < ys.length ∧ ys[argBest (fun i j => match ys[i]?, ys[j]? with | some a, some b => pvLt a b | _, _ => false) (ys.length - 1)]? = some v := fun ys hp => by
    cases ys with
    | nil => cases hp
    | cons y ys =>
      simp only [pvMin] at hp
      by_cases hk : mmOk (y :: ys) = true
      · rw [if_pos hk] at hp
        cases hp
        refine ⟨hk, by simp, best_all fun i j a b ha hb => ?_⟩
        rw [ha, hb]; rfl
      · rw [if_neg hk] at hp; cases hp
  unfold bMinD at hg
  split at hg
  · rename_i ys
    obtain ⟨hk, hn, hv⟩ := fin ys hg
    obtain ⟨w, rfl, r1⟩ := RVs1 ra
    obtain ⟨p, ws, rfl, h1, h2⟩ := r1.lst
    obtain ⟨its, rv, hl, hz⟩ := I.list h1
    rw [Vals.ref1 r]
    have hlen : its.length = ys.length := by rw [← rv.length, h2.len]
    refine call_minH (h0 := s.heap) (fun b o e => e) (wpAny_pyIter_list hl.isList ?_)
    have hlt : p < s.heap.objs.size := by obtain ⟨o, ho, _⟩ := hl.isList; exact Heap.lt_size ho
    refine ⟨_, _, _, _, _, _, _, rfl, Walks.list hh s.heap.objs.size p (Nat.ne_of_lt hlt) its.toArray, ⟨⟨_, Heap.get?_push_size _ rfl, rfl, rfl⟩, hl.isList.push _⟩, fun b hb => ?_, by simpa [hlen] using hn, cmp_lt I h2 rv hk hu, fun b hb => ?_, fun b o e => Heap.get?_push_of_some _ e, fun u h' tk hP kp => ?_⟩
    · rcases List.mem_cons.mp hb with rfl | hb
      · rw [size_push']; exact Nat.lt_succ_self _
      · rw [List.mem_singleton.mp hb, size_push']; exact Nat.lt_succ_of_lt hlt
    · rw [List.mem_singleton.mp hb]; exact Heap.get?_none_of_le (Nat.le_refl _)
    · rw [show its.toArray.size = ys.length by simpa using hlen] at hP
      exact row_end (gens := #[]) I h2 rv hv hP kp fun w rw => q H w (.inl rfl) rw
  · rename_i ys
    obtain ⟨hk, hn, hv⟩ := fin ys hg
    obtain ⟨w, rfl, r1⟩ := RVs1 ra
    obtain ⟨p, ws, rfl, h1, h2⟩ := r1.tup
    obtain ⟨its, rv, hl, hz⟩ := I.tuple h1
    rw [Vals.ref1 r]
    have hlen : its.length = ys.length := by rw [← rv.length, h2.len]
    have hl' : s.heap.IsTuple p its.toArray := hl
    refine call_minH (h0 := s.heap) (fun b o e => e) (wpAny_pyIter_tuple hl' ?_)
    have hlt : p < s.heap.objs.size := by obtain ⟨o, ho, _⟩ := hl; exact Heap.lt_size ho
    refine ⟨_, _, _, _, _, _, _, rfl, Walks.tuple hh s.heap.objs.size p (Nat.ne_of_lt hlt) its.toArray, ⟨⟨_, Heap.get?_push_size _ rfl, rfl, rfl⟩, hl'.at fun o e => Heap.get?_push_of_some _ e⟩, fun b hb => ?_, by simpa [hlen] using hn, cmp_lt I h2 rv hk hu, fun b hb => ?_, fun b o e => Heap.get?_push_of_some _ e, fun u h' tk hP kp => ?_⟩
    · rcases List.mem_cons.mp hb with rfl | hb
      · rw [size_push']; exact Nat.lt_succ_self _
      · rw [List.mem_singleton.mp hb, size_push']; exact Nat.lt_succ_of_lt hlt
    · rw [List.mem_singleton.mp hb]; exact Heap.get?_none_of_le (Nat.le_refl _)
    · rw [show its.toArray.size = ys.length by simpa using hlen] at hP
      exact row_end (gens := #[]) I h2 rv hv hP kp fun w rw => q H w (.inl rfl) rw
  · rename_i a b
    split at hg
    · cases hg
    · rename_i hL
      rw [Bool.or_eq_true, not_or, Bool.not_eq_true, Bool.not_eq_true] at hL
      obtain ⟨hk, hn, hv⟩ := fin [a, b] hg
      obtain ⟨w, y, rfl, r1, r2⟩ := RVs2 ra
      have h2 : RFs X.K M W H [a, b] [w, y] := RFs.cons (r1.rf hL.1) (RFs.cons (r2.rf hL.2) RFs.nil)
      cases r with
      | cons q1 r => cases r with
        | cons q2 r =>
          cases r
          rename_i u1 u2
          have rv : Vals [w, y] [u1, u2] := .cons q1 (.cons q2 .nil)
          have ht : (s.heap.push { cls := .type "tuple", data := .seq #[u1, u2] }).IsTuple s.heap.objs.size #[u1, u2] := IsTup.new s.heap #[u1, u2]
          refine call_min2H (h0 := s.heap) (fun b o e => e) (wpAny_pyIter_tuple ht ?_)
          have sz : (s.heap.push { cls := .type "tuple", data := .seq #[u1, u2] }).objs.size = s.heap.objs.size + 1 := size_push' _ _
          refine ⟨_, _, _, _, _, _, _, rfl, Walks.tuple hh (s.heap.push { cls := .type "tuple", data := .seq #[u1, u2] }).objs.size s.heap.objs.size (by rw [sz]; exact Nat.ne_of_lt (Nat.lt_succ_self _)) #[u1, u2], ⟨⟨_, Heap.get?_push_size _ rfl, rfl, rfl⟩, ht.at fun o e => Heap.get?_push_of_some _ e⟩, fun b hb => ?_, by simp, cmp_lt I h2 rv hk hu, fun b hb => ?_, fun b o e => Heap.get?_push_of_some _ (Heap.get?_push_of_some _ e), fun u h' tk hP kp => ?_⟩
          · rcases List.mem_cons.mp hb with rfl | hb
            · exact Nat.lt_of_lt_of_eq (Nat.lt_succ_self _) (size_push' _ _).symm
            · rw [List.mem_singleton.mp hb]
              exact Nat.lt_of_lt_of_eq (by rw [sz]; exact Nat.lt_succ_of_lt (Nat.lt_succ_self _)) (size_push' _ _).symm
          · rw [List.mem_singleton.mp hb, sz]; exact Heap.get?_none_of_le (Nat.le_succ _)
          · exact row_end (gens := #[]) I h2 rv hv hP kp fun w rw => q H w (.inl rfl) rw
  · cases hg
theorem cv_maxD (hc : X.calm = true) (hu : X.A.units + 100 < cLine) : CallV X (.builtin "max") bMaxD := by
  intro pins s σ H xs us Q I r h
  obtain ⟨M, W, st, args, v, hm, so, ra, hg, q⟩ := h
  have hh : X.A.in1.handled = none := I.ok.hd hc
  have fin : ∀ (ys : List PV), pvMax ys = some v → mmOk ys = true ∧ 0 < ys.length ∧ ys[argBest (fun i j => match ys[i]?, ys[j]? with | some a, some b => pvLt b a | _, _ => false) (ys.length - 1)]? = some v := fun ys hp => by
    cases ys with
    | nil => cases hp
    | cons y ys =>
      simp only [pvMax] at hp
      by_cases hk : mmOk (y :: ys) = true
      · rw [if_pos hk] at hp
        cases hp
        refine ⟨hk, by simp, best_all fun i j a b ha hb => ?_⟩
        rw [ha, hb]; rfl
      · rw [if_neg hk] at hp; cases hp
  unfold bMaxD at hg
  split at hg
  · rename_i ys
    obtain ⟨hk, hn, hv⟩ := fin ys hg
    obtain ⟨w, rfl, r1⟩ := RVs1 ra
    obtain ⟨p, ws, rfl, h1, h2⟩ := r1.lst
    obtain ⟨its, rv, hl, hz⟩ := I.list h1
    rw [Vals.ref1 r]
    have hlen : its.length = ys.length := by rw [← rv.length, h2.len]
    refine call_maxH (h0 := s.heap) (fun b o e => e) (wpAny_pyIter_list hl.isList ?_)
    have hlt : p < s.heap.objs.size := by obtain ⟨o, ho, _⟩ := hl.isList; exact Heap.lt_size ho
    refine ⟨_, _, _, _, _, _, _, rfl, Walks.list hh s.heap.objs.size p (Nat.ne_of_lt hlt) its.toArray, ⟨⟨_, Heap.get?_push_size _ rfl, rfl, rfl⟩, hl.isList.push _⟩, fun b hb => ?_, by simpa [hlen] using hn, cmp_gt I h2 rv hk hu, fun b hb => ?_, fun b o e => Heap.get?_push_of_some _ e, fun u h' tk hP kp => ?_⟩
    · rcases List.mem_cons.mp hb with rfl | hb
      · rw [size_push']; exact Nat.lt_succ_self _
      · rw [List.mem_singleton.mp hb, size_push']; exact Nat.lt_succ_of_lt hlt
    · rw [List.mem_singleton.mp hb]; exact Heap.get?_none_of_le (Nat.le_refl _)
    · rw [show its.toArray.size = ys.length by simpa using hlen] at hP
      exact row_end (gens := #[]) I h2 rv hv hP kp fun w rw => q H w (.inl rfl) rw
  · rename_i ys
    obtain ⟨hk, hn, hv⟩ := fin ys hg
    obtain ⟨w, rfl, r1⟩ := RVs1 ra
    obtain ⟨p, ws, rfl, h1, h2⟩ := r1.tup
    obtain ⟨its, rv, hl, hz⟩ := I.tuple h1
    rw [Vals.ref1 r]
    have hlen : its.length = ys.length := by rw [← rv.length, h2.len]
    have hl' : s.heap.IsTuple p its.toArray := hl
    refine call_maxH (h0 := s.heap) (fun b o e => e) (wpAny_pyIter_tuple hl' ?_)
    have hlt : p < s.heap.objs.size := by obtain ⟨o, ho, _⟩ := hl; exact Heap.lt_size ho
    refine ⟨_, _, _, _, _, _, _, rfl, Walks.tuple hh s.heap.objs.size p (Nat.ne_of_lt hlt) its.toArray, ⟨⟨_, Heap.get?_push_size _ rfl, rfl, rfl⟩, hl'.at fun o e => Heap.get?_push_of_some _ e⟩, fun b hb => ?_, by simpa [hlen] using hn, cmp_gt I h2 rv hk hu, fun b hb => ?_, fun b o e => Heap.get?_push_of_some _ e, fun u h' tk hP kp => ?_⟩
    · rcases List.mem_cons.mp hb with rfl | hb
      · rw [size_push']; exact Nat.lt_succ_self _
      · rw [List.mem_singleton.mp hb, size_push']; exact Nat.lt_succ_of_lt hlt
    · rw [List.mem_singleton.mp hb]; exact Heap.get?_none_of_le (Nat.le_refl _)
    · rw [show its.toArray.size = ys.length by simpa using hlen] at hP
      exact row_end (gens := #[]) I h2 rv hv hP kp fun w rw => q H w (.inl rfl) rw
  · rename_i a b
    split at hg
    · cases hg
    · rename_i hL
      rw [Bool.or_eq_true, not_or, Bool.not_eq_true, Bool.not_eq_true] at hL
      obtain ⟨hk, hn, hv⟩ := fin [a, b] hg
      obtain ⟨w, y, rfl, r1, r2⟩ := RVs2 ra
      have h2 : RFs X.K M W H [a, b] [w, y] := RFs.cons (r1.rf hL.1) (RFs.cons (r2.rf hL.2) RFs.nil)
      cases r with
      | cons q1 r => cases r with
        | cons q2 r =>
          cases r
          rename_i u1 u2
          have rv : Vals [w, y] [u1, u2] := .cons q1 (.cons q2 .nil)
          have ht : (s.heap.push { cls := .type "tuple", data := .seq #[u1, u2] }).IsTuple s.heap.objs.size #[u1, u2] := IsTup.new s.heap #[u1, u2]
          refine call_max2H (h0 := s.heap) (fun b o e => e) (wpAny_pyIter_tuple ht ?_)
          have sz : (s.heap.push { cls := .type "tuple", data := .seq #[u1, u2] }).objs.size = s.heap.objs.size + 1 := size_push' _ _
          refine ⟨_, _, _, _, _, _, _, rfl, Walks.tuple hh (s.heap.push { cls := .type "tuple", data := .seq #[u1, u2] }).objs.size s.heap.objs.size (by rw [sz]; exact Nat.ne_of_lt (Nat.lt_succ_self _)) #[u1, u2], ⟨⟨_, Heap.get?_push_size _ rfl, rfl, rfl⟩, ht.at fun o e => Heap.get?_push_of_some _ e⟩, fun b hb => ?_, by simp, cmp_gt I h2 rv hk hu, fun b hb => ?_, fun b o e => Heap.get?_push_of_some _ (Heap.get?_push_of_some _ e), fun u h' tk hP kp => ?_⟩
          · rcases List.mem_cons.mp hb with rfl | hb
            · exact Nat.lt_of_lt_of_eq (Nat.lt_succ_self _) (size_push' _ _).symm
            · rw [List.mem_singleton.mp hb]
              exact Nat.lt_of_lt_of_eq (by rw [sz]; exact Nat.lt_succ_of_lt (Nat.lt_succ_self _)) (size_push' _ _).symm
          · rw [List.mem_singleton.mp hb, sz]; exact Heap.get?_none_of_le (Nat.le_succ _)
          · exact row_end (gens := #[]) I h2 rv hv hP kp fun w rw => q H w (.inl rfl) rw
  · cases hg
end
end Mp
end
section
set_option maxRecDepth 100000
set_option maxHeartbeats 2000000
namespace Mp
open PySem PySem.Spec PyProof.Rows L2 GxR LamX
structure LamS1 (N : List Str) (sc scope : Scope) (x : Str) (i : Nat) : Prop where
  kind : scope.kind = .function
  co : scope.isCoroutine = false
  gen : scope.isGenerator = false
  own : ∀ y ∈ scope.names, y.2 = .local → y.1 = x
  nocell : ∀ y ∈ scope.names, y.2 ≠ .cell
  free : ∀ y ∈ scope.names, y.2 = .free → sc.names.lookup y.1 = some .cell ∨ sc.names.lookup y.1 = some .free
  par : scope.names.lookup x = some .local
  ix : N[i]? = some x
def lamS1B (N : List Str) (sc scope : Scope) (x : Str) (i : Nat) : Bool :=
  decide (scope.kind = .function) && (!scope.isCoroutine && (!scope.isGenerator && ((scope.names.all fun y => (!decide (y.2 = NameKind.local) || decide (y.1 = x)) && (!decide (y.2 = NameKind.cell) && (!decide (y.2 = NameKind.free) || (decide (sc.names.lookup y.1 = some .cell) || decide (sc.names.lookup y.1 = some .free))))) && (decide (scope.names.lookup x = some .local) && decide (N[i]? = some x)))))
theorem lamS1_by {N : List Str} {sc scope : Scope} {x : Str} {i : Nat} (h : lamS1B N sc scope x i = true) : LamS1 N sc scope x i := by
  unfold lamS1B at h
  simp only [Bool.and_eq_true, Bool.or_eq_true, Bool.not_eq_true', decide_eq_true_eq, decide_eq_false_iff_not, List.all_eq_true] at h
  obtain ⟨h1, h2, h3, h4, h5, h6⟩ := h
  refine ⟨h1, h2, h3, fun y hy e => ?_, fun y hy => (h4 y hy).2.1, fun y hy e => ?_, h5, h6⟩
  · rcases (h4 y hy).1 with z | z
    · exact absurd e z
    · exact z
  · rcases (h4 y hy).2.2 with z | z
    · exact absurd e z
    · exact z
section
variable {X : Cx} {pins : List (Addr × Obj)} {σ : L2.St} {H HZ : Hp} {s s1 : Shared}
theorem LamS1.has {scope : Scope} {x : Str} {i : Nat} (L : LamS1 X.N X.env.scope scope x i) (ok : X.Ok) : ∀ y ∈ scope.names, y.2 = .free → ∃ c, X.env.cells.lookup y.1 = some c := fun y hy e => by
  rcases L.free y hy e with k | k
  · exact ok.has _ (.inl k)
  · exact ok.has _ (.inr k)
theorem lam1_start {A : Around} {outer : List Env} {E : XK} {scope : Scope} {f c' : Addr} {h₁ : Heap} {tk : Nat} {x : Str} {i : Nat} {v : V} {u : Value} (I : Inv X pins σ H s) (L : LamS1 X.N X.env.scope scope x i) (hN : X.N.Nodup) (e0 : Env0 X.prog X.w X.K X.mg X.base A outer s1 HZ) (hd : A.handled = none)
    (un : Un (frs X.stack) [] H HZ s.heap s1.heap) (rv : RelV v u) (hns : h₁.Ns s1.heap.objs.size fun y => ([(x, u)] : List (Str × Value)).reverse.lookup y) (kp : ∀ b o, s1.heap.get? b = some o → h₁.get? b = some o) :
    Inv (lamCx X A outer s1 HZ E scope f c') [] (σ.set i (some v)) HZ { s1 with heap := h₁, toks := tk } := by
  have hfree := L.has I.ok
  have cm : ∀ {y c}, (cloFrom X.env.cells scope.names []).lookup y = some c → X.env.cells.lookup y = some c := fun {y c} e => by
    rcases cloFrom_mem (PySem.mem_of_lookup e) with hm | ⟨h1, h2⟩
    · cases hm
    · obtain ⟨c1, hc⟩ := hfree _ h1 rfl
      have hc : X.env.cells.lookup y = some c1 := hc
      have e2 : c = c1 := by
        rw [h2, hc] <;> rfl
      rw [e2]
      exact hc
  have look : ∀ {y}, scope.names.lookup y = some .free → ∃ c, (cloFrom X.env.cells scope.names []).lookup y = some c := fun {y} hl => by
    have hy : (y, NameKind.free) ∈ scope.names := PySem.mem_of_lookup hl
    exact mem_lookup (cloFrom_has (cells := X.env.cells) (acc := []) hy)
  have cellK : ∀ {c : Addr} {v : Option Value}, H c = none → s.heap.IsCell c v → h₁.IsCell c v := fun {c v} n ⟨o, ho, hd⟩ => by
    obtain ⟨sl, q⟩ := un.any ho n (by simp)
    exact ⟨_, kp _ _ q, hd⟩
  have noA : ∀ b : Addr, b ∉ (lamCx X A outer s1 HZ E scope f c').ex := fun b z => absurd (show b ∈ ([] : List Addr) from z) (by simp)
  refine ⟨⟨e0.mod, L.kind, rfl, rfl, Nat.le_refl _, fun y z c e1 e2 => I.ok.inj y z c (cm e1) (cm e2), fun y hy => ?_, fun y c z _ => ?_, fun _ => hd, Around.frames_deeper e0.frames, .inr ⟨rfl, rfl⟩, fun b z => absurd z (noA b), e0.bs, e0.bsz, fun b _ _ => noA b,
      fun b z => absurd z (noA b), e0.funs, e0.frf⟩,
    rfl, e0.bare, Un.kept kp, ⟨_, hns, fun j y v' e1 e2 e3 => ?_⟩, fun y c e => ?_, e0.hok.fresh (Nat.le_refl _), fun y c e => ?_, fun q hq => absurd (show q ∈ ([] : List (Addr × Obj)) ++ [] from hq) (by simp), e0.hok.kept kp, by rw [List.length_set]; exact I.len⟩
  · have hy : scope.names.lookup y = some .cell ∨ scope.names.lookup y = some .free := hy
    rcases hy with hy | hy
    · exact absurd rfl (L.nocell _ (PySem.mem_of_lookup hy))
    · exact look hy
  · have z : false = true := z
    cases z
  · have e3 : Vis scope y := e3
    have e1 : X.N[j]? = some y := e1
    rcases e3 with k | k | k
    · have ey : y = x := L.own _ (PySem.mem_of_lookup k) rfl
      subst ey
      have ej : j = i := nodup_ix hN e1 L.ix
      subst ej
      have hj : j < σ.length := by
        rw [I.len]; exact (List.getElem?_eq_some_iff.mp e1).1
      rw [List.getElem?_set_self hj] at e2
      cases e2
      exact ⟨u, rv, .inl ⟨k, by simp⟩⟩
    · exact absurd rfl (L.nocell _ (PySem.mem_of_lookup k))
    · have nj : i ≠ j := fun z => by
        subst z
        rw [L.ix] at e1
        cases e1
        have := L.par
        rw [k] at this; cases this
      rw [List.getElem?_set_ne nj] at e2
      obtain ⟨m, hn, hl⟩ := I.loc
      have hvis : Vis X.env.scope y := (L.free _ (PySem.mem_of_lookup k) rfl).elim (fun k => .inr (.inl k)) (fun k => .inr (.inr k))
      obtain ⟨w', r, q⟩ := hl j y v' e1 e2 hvis
      obtain ⟨c2, h2⟩ := look k
      refine ⟨w', r, .inr ⟨.inr k, c2, h2, ?_⟩⟩
      have c1 := cm h2
      rcases q with ⟨k', _⟩ | ⟨_, c3, e', z⟩
      · have k' : X.env.scope.names.lookup y = some .local := k'
        rcases L.free _ (PySem.mem_of_lookup k) rfl with k2 | k2 <;> rw [show X.env.scope.names.lookup y = _ from k2] at k' <;> cases k'
      · rw [c1] at e'
        cases e'
        exact cellK (I.freeC y _ c1) z
  · obtain ⟨w', z⟩ := I.cell y c (cm e)
    exact ⟨w', cellK (I.freeC y c (cm e)) z⟩
  · obtain ⟨v, o, ho, hd⟩ := I.cell y c (cm e)
    exact un.free c o ho (I.freeC y c (cm e)) (by simp)
abbrev lamFn (X : Cx) (params : Arguments) (body : Expr) (scope : Scope) (pm : Value) (c' : Addr) (ctv : Value) : Obj := PySem.W.kla_obj "<lambda>" (lamQ X) params body scope (cloFrom X.env.cells scope.names []) pm c' ctv
theorem lam1_call {params : Arguments} {body : Expr} {scope : Scope} {f c' : Addr} {pm ctv : Value} {x : Str} {i k : Nat} {v : V} {u : Value} {t : TE} {Q : VK} {A : Around} {E : Value → Shared → Prop} (I : Inv X pins σ H s) (L : LamS1 X.N X.env.scope scope x i) (hN : X.N.Nodup)
    (hf : s.heap.get? f = some (lamFn X params body scope pm c' ctv)) (hco : H c' = some (CodeO c' (lamQ X))) (fr : A.frames = X.A.frames) (hr : Room (k + 1) A)
    (hbind : ∀ (q : Str) (cl : List (Str × Addr)) (pm cv ctv u : Value), bindArgs (PySem.W.kla_fn "<lambda>" q params body scope cl pm cv ctv) ⟨[u], []⟩ = pure [(x, u)]) (rv : RelV v u)
    (hbody : ∀ (A : Around) (outer : List Env) (s : Shared) (H : Hp) (E : XK), Room k (A.deeper (lamEnv X scope s.heap.objs.size f c')) → PE (lamCx X A outer s H E scope f c') body t) (ht : t (σ.set i (some v)) H Q) :
    wpAny (model X.prog X.w) A (call (.ref f) [u]) (EP X pins σ Q) E s := by
  obtain ⟨⟨oc, vs, tt, hoc, hdc, hvc⟩, _, _⟩ := I.hok c' _ hco
  have e0 : Env0 X.prog X.w X.K X.mg X.base A X.stack s H := ⟨by rw [fr]; exact I.ok.frames, I.ok.mod, I.bs, Nat.le_trans I.ok.bsz I.sz, I.stack, I.stkFree, I.hok, I.bare⟩
  have rc : codeAny (model X.prog X.w) A (.call (.ref f) ⟨[u], []⟩) (CR (L2.CX X.prog X.w) X.stack X.prog X.w H s Q (fun _ _ _ => False)) s := by
    refine PySem.W.kla_callFunE hr.depth hf rfl L.co L.gen rfl ⟨c', oc, vs, tt, rfl, hoc, hdc, hvc⟩ ?_
    rw [hbind]
    refine wpAny_pure (wpAny_newFunctionEnv L.nocell (fun y hy => by rw [List.mem_singleton.mp hy]; exact L.par) (fun h₁ hns hsb => ⟨I.nolimit.fresh _ hsb, ?_⟩) L.kind)
    show codeAny _ _ (.expr body (lamEnv X scope s.heap.objs.size f c')) _ _
    have kp : ∀ b o, s.heap.get? b = some o → h₁.get? b = some o := fun b o e => hsb.extBut b o (Nat.ne_of_lt (Heap.lt_size e)) (Heap.get?_push_of_some _ e)
    have J : Inv (lamCx X A X.stack s H (fun _ _ _ => False) scope f c') [] (σ.set i (some v)) H { s with heap := h₁, toks := s.toks + ([(x, u)] : List (Str × Value)).length } :=
      lam1_start I L hN e0 hr.hd Un.refl rv hns kp
    refine PySem.W.kla_codeExpr (wpAny_mono ((hbody A X.stack s H _ (hr.deeper _)).run [] _ _ H Q J ht) (fun v s' hq => ?_) fun e s' hq => hq)
    obtain ⟨w', H', J', rv', q⟩ := hq
    exact ⟨w', H', J'.os, J'.bare, J'.base, J'.hok, rv', q⟩
  refine wpAny_call (codeAny_mono rc fun r s' hq => ?_)
  cases r with
  | error e =>
    obtain ⟨_, _, _, _, _, _, _, _, _, _, _, _, z⟩ := hq
    exact z.elim
  | ok fl => cases fl with
    | ret u => exact I.after hq
    | next => exact False.elim hq
    | brk => exact False.elim hq
    | cont => exact False.elim hq
end
end Mp
end
section
set_option maxRecDepth 100000
set_option maxHeartbeats 4000000
namespace Mp
open PySem PySem.Spec PyProof.Rows L2 GxR LamX
def pickK (lt : PV → PV → Bool) : List PV → List PV → PV → PV → PV
  | x :: xs, k :: ks, b, bk => if lt k bk then pickK lt xs ks x k else pickK lt xs ks b bk
  | _, _, b, _ => b
def mKeyed (lt : PV → PV → Bool) (me : EM) (i : Nat) (mk : EM) : EM := fun env st => bindR (me env st) fun v s => match v with
  | .lst (x :: xs) => if noOwn [i] env then bindX (compL (gNm i) tYesM mk (x :: xs) (killE [i] env) s) fun ks s' => match ks with
      | k :: ks' => if mmOk (k :: ks') then .ok (pickK lt xs ks' x k) s' else .bad
      | [] => .bad else .bad
  | _ => .bad
def mMinK : EM → Nat → EM → EM := mKeyed pvLt
structure Fix (X : Cx) (b : Addr) : Prop where
  loc : b ≠ X.env.locals
  fs : b ∉ X.fs
  at_ : b ∈ X.ex ∨ X.s_0.heap.objs.size ≤ b
  cell : ∀ x c, X.env.cells.lookup x = some c → c ≠ b
section
variable {X : Cx} {pins : List (Addr × Obj)} {σ : L2.St} {H : Hp} {s : Shared}
theorem fix_new (I : Inv X pins σ H s) {b : Addr} (hb : s.heap.objs.size ≤ b) : Fix X b ∧ ∀ p ∈ X.pn ++ pins, p.1 ≠ b := by
  obtain ⟨h1, h2, h3, h4, h5, h6⟩ := I.fpOk (H' := H) hb (I.hok.fresh hb)
  exact ⟨⟨h2, h3, h4, h5⟩, h6⟩
theorem Inv.own1 {h' : Heap} {t' : Nat} {b : Addr} {o o' : Obj} (I : Inv X ((b, o) :: pins) σ H s) (fx : Fix X b) (np : ∀ p ∈ X.pn ++ pins, p.1 ≠ b) (k : ∀ c u, c ≠ b → s.heap.get? c = some u → h'.get? c = some u) (e : h'.get? b = some o') (nc : ∀ v, o'.data ≠ .cell v) :
    Inv X ((b, o') :: pins) σ H { s with heap := h', toks := t' } := by
  have hb := I.pin (b, o) (List.mem_append_right _ List.mem_cons_self)
  have I0 : Inv X pins σ H s := I.pins_of fun p hp => I.pin p (List.mem_append_right _ (List.mem_cons_of_mem _ hp))
  have I1 : Inv X pins σ H { s with heap := h', toks := t' } := I0.turned k hb.2.1 fx.loc fx.at_ fx.cell np
  refine I1.pins_of fun p hp => ?_
  rcases List.mem_cons.mp hp with rfl | hp
  · exact ⟨e, hb.2.1, fx.loc, fx.fs, nc⟩
  · exact I1.pin p (List.mem_append_right _ hp)
end
section
variable {X : Cx} {tb : Tbs} {Wx : WX} {params : Arguments} {body : Expr} {scope : Scope} {x : Str} {i k : Nat} {mk : EM}
structure KeyCx (X : Cx) (tb : Tbs) (params : Arguments) (body : Expr) (scope : Scope) (x : Str) (i k : Nat) (mk : EM) : Prop where
  L : LamS1 X.N X.env.scope scope x i
  nd : X.N.Nodup
  calm : X.calm = true
  room : Room (k + 2) X.A
  bind : ∀ (q : Str) (cl : List (Str × Addr)) (pm cv ctv u : Value), bindArgs (PySem.W.kla_fn "<lambda>" q params body scope cl pm cv ctv) ⟨[u], []⟩ = pure [(x, u)]
  run : ∀ (A : Around) (outer : List Env) (s : Shared) (H : Hp) (E : XK) (f c' : Addr), Room k (A.deeper (lamEnv X scope s.heap.objs.size f c')) → EOk (lamCx X A outer s H E scope f c') tb WN .F body mk
variable {σ : L2.St} {env : MEnv} {Mx : Addr → Prop} {W1 : List Addr} {H1 : Hp} {st1 : Sto} {p f c' : Addr} {pm ctv : Value} {xs : List PV} {pins : List (Addr × Obj)}
structure KSt (X : Cx) (tb : Tbs) (σ : L2.St) (env : MEnv) (Mx : Addr → Prop) (W1 : List Addr) (H1 : Hp) (i : Nat) (c' : Addr) (W : List Addr) (H : Hp) (st : Sto) : Prop where
  rel : Rel X.K tb Mx W (wipe σ [i]) H (killE [i] env) st
  kb : KB W1 H1 No W H No
theorem KSt.stp (r1 : Rel X.K tb Mx W1 σ H1 env st1) (hno : noOwn [i] env = true) {W : List Addr} {H : Hp} {st : Sto} (k : KSt X tb σ env Mx W1 H1 i c' W H st) : Stp X.K tb Mx env σ W1 H1 W H st :=
  r1.back (k.rel.toCall.less fun b z => z.elim .inl fun z => .inr ((om_wipe hno).mpr z)) k.kb
theorem set_wipe {v : V} : (wipe σ [i]).set i (some v) = σ.set i (some v) := by
  show (σ.set i none).set i (some v) = _
  rw [List.set_set]
theorem key_turn (C : KeyCx X tb params body scope x i k mk) (hno : noOwn [i] env = true) {s : Shared} {W : List Addr} {H : Hp} {st : Sto} (I : Inv X pins σ H s) (hp : (f, lamFn X params body scope pm c' ctv) ∈ pins) (hco : H c' = some (CodeO c' (lamQ X)))
    (ks : KSt X tb σ env Mx W1 H1 i c' W H st) {y : PV} {w : V} {u : Value} (rf : RF X.K (Mt Mx W (killE [i] env) (wipe σ [i])) W H y w) (ru : RelV w u) {kv : PV} {st' : Sto} (hm : mk ((killE [i] env).set i (.pv y)) st = .ok kv st') {A : Around} (hA : A.frames = X.A.frames) (hr : Room (k + 1) A) {E : Value → Shared → Prop} :
    wpAny (model X.prog X.w) A (call (.ref f) [u]) (EP X pins σ fun w' H' => ∃ W', KSt X tb σ env Mx W1 H1 i c' W' H' st' ∧ RF X.K (Mt Mx W' (killE [i] env) (wipe σ [i])) W' H' kv w' ∧ Stp X.K tb Mx (killE [i] env) (wipe σ [i]) W H W' H' st' ∧ H' c' = some (CodeO c' (lamQ X))) E s := by
  have hf := (I.pin _ (List.mem_append_right _ hp)).1
  refine lam1_call I C.L C.nd hf hco hA hr C.bind ru (t := tM X.K X.mg tb WN .F mk) (fun A outer s H E hr => C.run A outer s H E f c' hr) ?_
  rw [← set_wipe (σ := σ) (i := i)]
  refine ⟨Mx, W, (killE [i] env).set i (.pv y), st, ks.rel.setPv rf, ?_⟩
  rw [hm]
  intro W' H' w' a rm
  have hlen : i < (killE [i] env).length ∨ ¬ i < (killE [i] env).length := Nat.lt_or_ge _ _ |>.imp id Nat.not_lt_of_ge
  have eE : ((killE [i] env).set i (.pv y)).set i .un = killE [i] env := by
    rw [List.set_set]; show (env.set i .un).set i .un = env.set i .un; rw [List.set_set]
  have eS : ((wipe σ [i]).set i (some w)).set i none = wipe σ [i] := by
    rw [List.set_set]; show (σ.set i none).set i none = σ.set i none; rw [List.set_set]
  have r2 : Rel X.K tb Mx W' (wipe σ [i]) H' (killE [i] env) st' := by
    have := a.rel.wipe1 (i := i)
    rw [eE, eS] at this
    exact this
  have omi : ∀ b, Om (killE [i] env) (wipe σ [i]) b → Om ((killE [i] env).set i (.pv y)) ((wipe σ [i]).set i (some w)) b := fun b ⟨j, o, h1, h2⟩ => by
    have nj : i ≠ j := fun z => by
      subst z
      exact absurd (killE_un [i] env i _ List.mem_cons_self h1) (fun y => nomatch y)
    exact ⟨j, o, by rw [List.getElem?_set_ne nj]; exact h1, by rw [List.getElem?_set_ne nj]; exact h2⟩
  have s2 : Stp X.K tb Mx (killE [i] env) (wipe σ [i]) W H W' H' st' := ⟨r2, a.kp, a.nt, a.pre, a.fr⟩
  refine ⟨W', ⟨r2, ks.kb.trans s2.kb⟩, RF.grow (Grow.less fun b z => ?_) _ rm, s2, ?_⟩
  · rcases z with z | z | z
    · exact .inl z
    · exact .inr (.inl z)
    · exact .inr (.inr (omi b z))
  · refine a.kp c' _ hco (fun z => ?_) (fun ps z => codeO_ne ps z)
    exact ks.rel.wL z _ hco (.inr ⟨_, _, rfl⟩)
end
end Mp
end
section
set_option maxRecDepth 100000
set_option maxHeartbeats 4000000
namespace Mp
open PySem PySem.Spec PyProof.Rows L2 GxR LamX
section
variable {X : Cx} {pins pins' : List (Addr × Obj)} {σ : L2.St} {H : Hp} {s : Shared}
theorem inv_sel (I : Inv X pins σ H s) (h : ∀ p ∈ pins', p ∈ pins) : Inv X pins' σ H s := I.pins_of fun p hp => I.pin p (List.mem_append_right _ (h p hp))
end
section
variable {i : Nat} {mk : EM} {env : MEnv} {st st' : Sto} {y : PV} {ys ks : List PV}
theorem compL_cons (h : compL (gNm i) tYesM mk (y :: ys) env st = .ok ks st') : ∃ k s1 ks', mk (env.set i (.pv y)) st = .ok k s1 ∧ compL (gNm i) tYesM mk ys env s1 = .ok ks' st' ∧ ks = k :: ks' := by
  have h : bindX (mk (env.set i (.pv y)) st) (fun v s' => bindX (compL (gNm i) tYesM mk ys env s') fun r s'' => .ok (v :: r) s'') = .ok ks st' := h
  cases q : mk (env.set i (.pv y)) st with
  | bad => rw [q] at h; cases h
  | exc x s => rw [q] at h; cases h
  | ok v s1 =>
    rw [q] at h
    have h : bindX (compL (gNm i) tYesM mk ys env s1) (fun r s'' => .ok (v :: r) s'') = .ok ks st' := h
    cases q2 : compL (gNm i) tYesM mk ys env s1 with
    | bad => rw [q2] at h; cases h
    | exc x s => rw [q2] at h; cases h
    | ok r s2 =>
      rw [q2] at h
      cases h
      exact ⟨v, s1, r, rfl, q2, rfl⟩
end
section
variable {X : Cx} {tb : Tbs} {params : Arguments} {body : Expr} {scope : Scope} {x : Str} {i k : Nat} {mk : EM} {σ : L2.St} {env : MEnv} {Mx : Addr → Prop} {W1 : List Addr} {H1 : Hp} {st1 : Sto} {l f c' It S : Addr} {pm ctv : Value} {xs : List PV} {pins : List (Addr × Obj)}
theorem grow_kill (hno : noOwn [i] env = true) {W : List Addr} {H : Hp} : Grow (Mt Mx W env σ) (Mt Mx W (killE [i] env) (wipe σ [i])) W W H H := Grow.less fun b z => by
  rcases z with z | z | z
  · exact .inl z
  · exact .inr (.inl z)
  · exact .inr (.inr ((om_wipe hno).mp z))
theorem item_at (r1 : Rel X.K tb Mx W1 σ H1 env st1) (hno : noOwn [i] env = true) (rv : RV X.K (Mt Mx W1 env σ) W1 H1 (.lst xs) (.ref l)) {W : List Addr} {H : Hp} {st : Sto} {s : Shared} {pins : List (Addr × Obj)} (I : Inv X pins σ H s) (kst : KSt X tb σ env Mx W1 H1 i c' W H st) :
    ∃ its : Array Value, s.heap.IsList l its ∧ its.size = xs.length ∧ ∀ (j : Nat) (y : PV), xs[j]? = some y → ∃ w u, its[j]? = some u ∧ RelV w u ∧ RF X.K (Mt Mx W (killE [i] env) (wipe σ [i])) W H y w := by
  obtain ⟨p, ws, e, sq, rs⟩ := (RV.stp (kst.stp r1 hno) rv).lst
  cases e
  obtain ⟨its, vl, ⟨o, n, h1, h2, _, h3⟩, _⟩ := I.list sq
  refine ⟨its.toArray, ⟨o, h1, h2, n, h3⟩, by rw [List.size_toArray, ← vl.length, rs.len], fun j y hy => ?_⟩
  obtain ⟨w, hw, rf⟩ := rs.get hy
  obtain ⟨u, hu, ru⟩ := vl.get hw
  exact ⟨w, u, by simpa using hu, ru, RF.grow (grow_kill hno) _ rf⟩
theorem min_loop (C : KeyCx X tb params body scope x i k mk) (r1 : Rel X.K tb Mx W1 σ H1 env st1) (hno : noOwn [i] env = true) (rv : RV X.K (Mt Mx W1 env σ) W1 H1 (.lst xs) (.ref l)) {A : Around} (hA : A.frames = X.A.frames) (hr : Room (k + 2) A)
    (fI : Fix X It) (nI : ∀ p ∈ X.pn ++ pins, p.1 ≠ It) (fS : Fix X S) (nS : ∀ p ∈ X.pn ++ pins, p.1 ≠ S) (hSI : S ≠ It) (hfI : f ≠ It) (hfS : f ≠ S) {all : List PV} (hm : ∀ a ∈ all, ∀ b ∈ all, ordd a b = true) {fin : PV} {stF : Sto} {Q : VK} {E : Value → Shared → Prop}
    (hQ : ∀ W' H' w, KSt X tb σ env Mx W1 H1 i c' W' H' stF → RF X.K (Mt Mx W' (killE [i] env) (wipe σ [i])) W' H' fin w → Q w H') :
    ∀ (rest : List PV) (j : Nat) (ks : List PV) (y ky : PV) (wy wk : V) (vb kb : Value) (c : Nat) (oI : Obj) (s : Shared) (H : Hp) (W : List Addr) (st : Sto), xs.drop j = rest → compL (gNm i) tYesM mk rest (killE [i] env) st = .ok ks stF → (∀ a ∈ ks, a ∈ all) → ky ∈ all → pickK pvLt rest ks y ky = fin →
      Inv X ((S, seqObj "list" #[vb, kb] c) :: (It, oI) :: (f, lamFn X params body scope pm c' ctv) :: pins) σ H s → oI.cls = .type "list_iterator" → oI.data = .fields #[.ref l, .int j 0] → H c' = some (CodeO c' (lamQ X)) → KSt X tb σ env Mx W1 H1 i c' W H st →
      RF X.K (Mt Mx W (killE [i] env) (wipe σ [i])) W H y wy → RelV wy vb → RF X.K (Mt Mx W (killE [i] env) (wipe σ [i])) W H ky wk → RelV wk kb →
      codeAny (model X.prog X.w) A (.builtin "min.loop" ⟨[.ref It, .ref f, .ref S], []⟩) (fun r s' => match r with | .ok (.ret v) => EP X pins σ Q v s' | .ok _ => False | .error e => E e s') s := by
  have hname : (toString "min" ++ toString ".loop" : String) = "min.loop" := by decide
  have hh : A.in1.handled = none := hr.hd
  intro rest
  induction rest with
  | nil =>
    intro j ks y ky wy wk vb kb c oI s H W st hd hc hks hky hp I oc od hco kst ry uy rk uk
    cases hc
    have gS := (I.pin (S, _) (List.mem_append_right _ List.mem_cons_self)).1
    have gI := (I.pin (It, oI) (List.mem_append_right _ (List.mem_cons_of_mem _ List.mem_cons_self))).1
    obtain ⟨its, hl, hsz, _⟩ := item_at r1 hno rv I kst
    have hj : xs.length ≤ j := by simpa using hd
    refine codeAny_builtin PySem.F.entry_min_loop ?_
    rw [Around.under_plainId PySem.F.plain_min_loop _]
    show wpAny _ A.in1 (seqItems? (.ref S) >>= _) _ _ _
    refine wpAny_bind (wpAny_seqItems gS rfl ?_)
    show wpAny _ A.in1 (tryCatch (pyNext (.ref It)) _ >>= _) _ _ _
    refine wpAny_bind (wpAny_tryCatch (wpAny_pyNext_list_end hh ⟨oI, gI, oc, od⟩ hl (by simp [hsz, hj]) fun h' hx => ?_))
    show wpAny _ A.in1 (updateSeq S (fun _ => #[]) >>= _) _ _ _
    have gS' := hx S _ hSI gS
    refine wpAny_bind (wpAny_updateSeq gS' rfl (wpAny_bind (wpAny_letGo (wpAny_pure ?_))))
    have s1 := Heap.SameBut.update h' S (Obj.mapSeq fun _ => (#[] : Array Value))
    have n1 : ∀ p ∈ X.pn ++ (((f, lamFn X params body scope pm c' ctv) :: pins) : List (Addr × Obj)), p.1 ≠ It := fun p hp => by
      rcases List.mem_append.mp hp with z | z
      · exact nI p (List.mem_append_left _ z)
      · rcases List.mem_cons.mp z with rfl | z
        · exact hfI
        · exact nI p (List.mem_append_right _ z)
    have IA : Inv X pins σ H { s with heap := h', toks := s.toks } := (inv_sel I (pins' := pins) fun p hp => List.mem_cons_of_mem _ (List.mem_cons_of_mem _ (List.mem_cons_of_mem _ hp))).turned (fun b u n e => hx b u n e) (I.pin (It, oI) (List.mem_append_right _ (List.mem_cons_of_mem _ List.mem_cons_self))).2.1 fI.loc fI.at_ fI.cell nI
    have IB : Inv X pins σ H { s with heap := h'.update S (Obj.mapSeq fun _ => (#[] : Array Value)), toks := s.toks } := IA.turned (fun b u n e => (s1.2 b n).trans e) (I.pin (S, _) (List.mem_append_right _ List.mem_cons_self)).2.1 fS.loc fS.at_ fS.cell nS
    have hp : y = fin := hp
    subst hp
    exact ⟨wy, H, IB, uy, hQ W H wy kst ry⟩
  | cons z rest ih =>
    intro j ks y ky wy wk vb kb c oI s H W st hd hc hks hky hp I oc od hco kst ry uy rk uk
    obtain ⟨kz, s1, ks', hmk, hc', rfl⟩ := compL_cons hc
    have hj : xs[j]? = some z := by
      have : (xs.drop j)[0]? = some z := by rw [hd]; rfl
      simpa using this
    have hd' : xs.drop (j + 1) = rest := by
      have : (xs.drop j).drop 1 = rest := by rw [hd]; rfl
      simpa [List.drop_drop] using this
    have pS := I.pin (S, _) (List.mem_append_right _ List.mem_cons_self)
    have pI := I.pin (It, oI) (List.mem_append_right _ (List.mem_cons_of_mem _ List.mem_cons_self))
    obtain ⟨its, hl, hsz, hat⟩ := item_at r1 hno rv I kst
    obtain ⟨wz, u, hu, ru, rz⟩ := hat j z hj
    refine codeAny_builtin PySem.F.entry_min_loop ?_
    rw [Around.under_plainId PySem.F.plain_min_loop _]
    show wpAny _ A.in1 (seqItems? (.ref S) >>= _) _ _ _
    refine wpAny_bind (wpAny_seqItems pS.1 rfl ?_)
    show wpAny _ A.in1 (tryCatch (pyNext (.ref It)) _ >>= _) _ _ _
    refine wpAny_bind (wpAny_tryCatch (wpAny_pyNext_list_item ⟨oI, pI.1, oc, od⟩ hl hu fun h' hit' hsb => ?_))
    obtain ⟨oI', gI', oc', od'⟩ := id hit'
    have I1 : Inv X ((It, oI') :: (S, seqObj "list" #[vb, kb] c) :: (f, lamFn X params body scope pm c' ctv) :: pins) σ H { s with heap := h', toks := s.toks } :=
      Inv.own1 (o := oI) (inv_sel I fun p hp => by
        rcases List.mem_cons.mp hp with rfl | hp
        · exact List.mem_cons_of_mem _ List.mem_cons_self
        · rcases List.mem_cons.mp hp with rfl | hp
          · exact List.mem_cons_self
          · exact List.mem_cons_of_mem _ (List.mem_cons_of_mem _ hp)) fI (fun p hp => by
        rcases List.mem_append.mp hp with z | z
        · exact nI p (List.mem_append_left _ z)
        · rcases List.mem_cons.mp z with rfl | z
          · exact hSI
          · rcases List.mem_cons.mp z with rfl | z
            · exact hfI
            · exact nI p (List.mem_append_right _ z)) (fun b u n e => (hsb.2 b n).trans e) gI' (fun v e => by rw [od'] at e; cases e)
    show wpAny _ A.in1 (tryCatch (holding [u] (call (.ref f) [u])) _ >>= _) _ _ _
    refine wpAny_bind (wpAny_tryCatch (wpAny_holding (wpAny_mono (key_turn C hno I1 (List.mem_cons_of_mem _ (List.mem_cons_of_mem _ List.mem_cons_self)) hco kst rz ru hmk (A := A.in1) hA hr.in1 (E := fun _ _ => False)) (fun kv s'' he => ?_) fun _ _ hF => hF.elim)))
    obtain ⟨wkz, H2, I2, ukz, W2, kst2, rkz, sp2, hco2⟩ := he
    have ry2 := RF.grow sp2.grow _ ry
    have rk2 := RF.grow sp2.grow _ rk
    have rz2 := RF.grow sp2.grow _ rz
    have kza : kz ∈ all := hks kz List.mem_cons_self
    have ho : ordd kz ky = true := hm kz kza ky hky
    have ho' : ordd ky kz = true := hm ky hky kz kza
    obtain ⟨h1, h2, h3, h4⟩ := ordd_ok (K := X.K) (M := Mt Mx W2 (killE [i] env) (wipe σ [i])) (W := W2) (H := H2) ho
    obtain ⟨g1, g2, g3, g4⟩ := ordd_ok (K := X.K) (M := Mt Mx W2 (killE [i] env) (wipe σ [i])) (W := W2) (H := H2) ho'
    obtain ⟨as, q1⟩ := Dp.reads I2 (toD kz) _ kv (RF.dp 60 kz h1 rkz) ukz
    obtain ⟨bs, q2⟩ := Dp.reads I2 (toD ky) _ kb (RF.dp 60 ky h2 rk2) uk
    show wpAny _ A.in1 (tryCatch (holding [u, kv] (richCompare .Lt kv kb >>= _)) _ >>= _) _ _ _
    have hun : A.units + 1 + 64 < cLine := by have := hr.un; omega
    refine wpAny_bind (wpAny_tryCatch (wpAny_holding (wpAny_bind (PySem.W.lt_data (A := A.in1) q1 q2 (by rw [alk_toD 60 60 kz ky h1 h2]; exact h3) h4 (depth_ok (A := A.in1) hun h1) ?_))))
    rw [lt_toD 60 60 kz ky h1 h2 h3]
    refine wpAny_bind (wpAny_holding (wpAny_truthy_bool ?_))
    refine wpAny_bind (wpAny_letGo (wpAny_pure ?_))
    have pS2 := I2.pin (S, _) (List.mem_append_right _ (List.mem_cons_of_mem _ List.mem_cons_self))
    by_cases hb : (pvLt kz ky) = true
    · have hp' : pickK pvLt rest ks' z kz = fin := by
        rw [← hp]; show _ = if (pvLt kz ky) then _ else _; rw [if_pos hb]
      rw [hb]
      have sb := Heap.SameBut.update s''.heap S (Obj.mapSeq fun _ => #[u, kv])
      obtain ⟨c2, hc2⟩ : ∃ c2, (s''.heap.update S (Obj.mapSeq fun _ => #[u, kv])).get? S = some (seqObj "list" #[u, kv] c2) := ⟨_, get?_update_seq pS2.1 fun _ => #[u, kv]⟩
      simp only [if_true]
      refine wpAny_bind (wpAny_updateSeq pS2.1 rfl (wpAny_bind (wpAny_letGo ?_)))
      rw [hname]
      have I3 : Inv X ((S, seqObj "list" #[u, kv] c2) :: (It, oI') :: (f, lamFn X params body scope pm c' ctv) :: pins) σ H2 { s'' with heap := s''.heap.update S (Obj.mapSeq fun _ => #[u, kv]), toks := s''.toks } :=
        Inv.own1 (o := seqObj "list" #[vb, kb] c) (inv_sel I2 fun p hp => by
          rcases List.mem_cons.mp hp with rfl | hp
          · exact List.mem_cons_of_mem _ List.mem_cons_self
          · rcases List.mem_cons.mp hp with rfl | hp
            · exact List.mem_cons_self
            · exact List.mem_cons_of_mem _ (List.mem_cons_of_mem _ hp)) fS (fun p hp => by
          rcases List.mem_append.mp hp with z | z
          · exact nS p (List.mem_append_left _ z)
          · rcases List.mem_cons.mp z with rfl | z
            · exact hSI.symm
            · rcases List.mem_cons.mp z with rfl | z
              · exact hfS
              · exact nS p (List.mem_append_right _ z)) (fun b u n e => (sb.2 b n).trans e) hc2 (fun v e => nomatch e)
      exact wpAny_pure ⟨plainId_quiet PySem.F.plain_min_loop _, ih (j + 1) ks' z kz wz wkz u kv c2 oI' _ H2 W2 s1 hd' hc' (fun a ha => hks a (List.mem_cons_of_mem _ ha)) kza hp' I3 oc' od' hco2 kst2 rz2 ru rkz ukz⟩
    · have hp' : pickK pvLt rest ks' y ky = fin := by
        rw [← hp]; show _ = if (pvLt kz ky) then _ else _; rw [if_neg hb]
      have hb : (pvLt kz ky) = false := by simpa using hb
      rw [hb]
      simp only [Bool.false_eq_true, if_false]
      refine wpAny_bind (wpAny_letGo ?_)
      rw [hname]
      have I3 : Inv X ((S, seqObj "list" #[vb, kb] c) :: (It, oI') :: (f, lamFn X params body scope pm c' ctv) :: pins) σ H2 s'' := inv_sel I2 fun p hp => by
          rcases List.mem_cons.mp hp with rfl | hp
          · exact List.mem_cons_of_mem _ List.mem_cons_self
          · rcases List.mem_cons.mp hp with rfl | hp
            · exact List.mem_cons_self
            · exact List.mem_cons_of_mem _ (List.mem_cons_of_mem _ hp)
      exact wpAny_pure ⟨plainId_quiet PySem.F.plain_min_loop _, ih (j + 1) ks' y ky wy wk vb kb c oI' _ H2 W2 s1 hd' hc' (fun a ha => hks a (List.mem_cons_of_mem _ ha)) hky hp' I3 oc' od' hco2 kst2 ry2 uy rk2 uk⟩
end
end Mp
end
section
set_option maxRecDepth 100000
set_option maxHeartbeats 4000000
namespace Mp
open PySem PySem.Spec PyProof.Rows L2 GxR LamX
section
variable {X : Cx} {tb : Tbs} {Wx : WX} {params : Arguments} {body e : Expr} {scope : Scope} {x : Str} {i k : Nat} {mk me : EM} {p lpos kpos pos : Pos} {c P : Addr}
theorem e_minKey (he : EOk X tb Wx .R e me) (C : KeyCx X tb params body scope x i k mk) (hgl : Gl X "min") (hmg : X.mg "min" = none) (TB : GxR.TabB X.base X.mg c P) (hcode : X.env.code = .ref c) (hP : P ∈ tb.ps ∧ tb.tg P = some (lamQ X)) (hdef : defaultsOf params X.env = ([], []))
    (hs : backTo pos (starEach [e] X.env) = (false, eval e X.env) :: backTo pos (starEach [] X.env) := by rfl) (hs2 : (backTo pos (starEach [e] X.env)).any (·.1) = false := by rfl) :
    EOk X tb Wx .F (.Call (.Name "min" p) [e] [⟨some "key", .Lambda params body scope lpos, kpos⟩] pos) (mMinK me i mk) := by
  refine ⟨fun pins s σ H Q I ⟨Mx, W, env, st, rel, post⟩ => ?_⟩
  have hname : (toString "min" ++ toString ".loop" : String) = "min.loop" := by decide
  have hh : X.A.in1.handled = none := C.room.hd
  refine wpAny_Call_Name_kw (ld_blt (u := .builtin "min") I hgl hmg (by rfl) ?_)
  refine PyProof.Rows.callWith_kw ?_ hs hs2
  rw [hs]
  refine Calls.spliced_cons (thn (he.run pins s σ H (fun w H1 => ∃ v s1 W1, Stp X.K tb Mx env σ W H W1 H1 s1 ∧ RV X.K (Mt Mx W1 env σ) W1 H1 v w ∧ EPost X.K X.mg tb Mx W1 σ H1 env Wx .F (match v with
      | .lst (x :: xs) => if noOwn [i] env then bindX (compL (gNm i) tYesM mk (x :: xs) (killE [i] env) s1) fun ks s' => match ks with
          | k :: ks' => if mmOk (k :: ks') then .ok (pickK pvLt xs ks' x k) s' else .bad
          | [] => .bad else .bad
      | _ => .bad) Q) I (ebindE rel post fun v s1 W1 H1 w a rm post => ⟨v, s1, W1, a, rm, post⟩)) fun u sA ⟨w, H1, I1, ru, v, s1, W1, a1, rv, post⟩ => Calls.spliced_nil ?_)
  split at post
  rotate_left
  · exact post.elim
  rename_i y ys
  split at post
  rotate_left
  · exact post.elim
  rename_i hno
  cases hc : compL (gNm i) tYesM mk (y :: ys) (killE [i] env) s1 with
  | bad => rw [hc] at post; exact post.elim
  | exc x s => rw [hc] at post; exact post.elim
  | ok ks stF =>
  rw [hc] at post
  obtain ⟨ky, sK, ks', hmk, hc', rfl⟩ := compL_cons hc
  have post : EPost X.K X.mg tb Mx W1 σ H1 env Wx .F (if mmOk (ky :: ks') then .ok (pickK pvLt ys ks' y ky) stF else .bad) Q := post
  split at post
  rotate_left
  · exact post.elim
  rename_i hmm
  obtain ⟨l, ws0, rfl, _, _⟩ := rv.lst
  cases (show u = Value.ref l from ru)
  refine wpAny_evalAll_cons ?_
  show wpAny _ _ (eval (.Lambda params body scope lpos) X.env >>= fun v => standAt pos >>= fun _ => pure v) _ _ _
  refine wpAny_bind (lam_mk I1 ⟨TB.code, TB.bm, TB.gP⟩ hcode (a1.rel.tab P hP.1) hP.2 hdef (C.L.has I1.ok) fun f c' pm ctv H2 s2 I2 lst hf hfn hfr hco hfz => wpAny_bind (wpAny_standAt (wpAny_pure (wpAny_pure ?_))))
  show wpAny _ _ (call (.builtin "min") [.ref l] [("key", .ref f)]) _ _ s2
  have a2 := lst.stp a1.rel
  have rv2 : RV X.K (Mt Mx W1 env σ) W1 H2 (.lst (y :: ys)) (.ref l) := RV.stp a2 rv
  have kst0 : KSt X tb σ env Mx W1 H2 i c' W1 H2 s1 := ⟨a2.rel.wipe1, KB.refl⟩
  have post := EPost.from a2 post
  obtain ⟨fxF, npF⟩ := fix_new I1 hfz
  have I3 : Inv X ((f, lamFn X params body scope pm c' ctv) :: pins) σ H2 s2 := I2.pins_of fun q hq => by
    rcases List.mem_cons.mp hq with rfl | hq
    · exact ⟨hf, hfn, fxF.loc, fxF.fs, fun v e => nomatch e⟩
    · exact I2.pin q (List.mem_append_right _ hq)
  obtain ⟨its, hl, hsz, hat⟩ := item_at a2.rel hno rv2 I3 kst0
  have hm : ∀ a ∈ ky :: ks', ∀ b ∈ ky :: ks', ordd a b = true := fun a ha b hb => List.all_eq_true.mp (List.all_eq_true.mp hmm a ha) b hb
  refine kmk_tree PySem.F.kind_min PySem.F.plain_min PySem.F.entry_min (kmk_min_key _ _) ?_
  show wpAny _ X.A.in1 (Builtin.Builtins.bindParams "min" ["key", "default"] 0 ⟨[], [(Str.ofString "key", .ref f)]⟩ >>= _) _ _ s2
  refine wpAny_bind (wpAny_of_eq (show Builtin.Builtins.bindParams "min" ["key", "default"] 0 ⟨[], [(Str.ofString "key", .ref f)]⟩ = pure [some (.ref f), none] from rfl) ?_)
  refine wpAny_bind (wpAny_pure ?_)
  refine wpAny_bind (wpAny_pyIter_list hl ?_)
  refine wpAny_bind (wpAny_newList ?_ (Nat.zero_le _))
  rw [hname]
  have hS : (s2.heap.push { cls := .type "list_iterator", data := .fields #[.ref l, .int 0 0] }).objs.size = s2.heap.objs.size + 1 := size_push' ..
  have gI : ((s2.heap.push { cls := .type "list_iterator", data := .fields #[.ref l, .int 0 0] }).push (seqObj "list" #[] 0)).get? s2.heap.objs.size = some { cls := .type "list_iterator", data := .fields #[.ref l, .int 0 0] } :=
    Heap.get?_push_of_some _ (Heap.get?_push_size _ rfl)
  have gS : ((s2.heap.push { cls := .type "list_iterator", data := .fields #[.ref l, .int 0 0] }).push (seqObj "list" #[] 0)).get? (s2.heap.push { cls := .type "list_iterator", data := .fields #[.ref l, .int 0 0] }).objs.size = some (seqObj "list" #[] 0) := Heap.get?_push_size _ rfl
  have leS : s2.heap.objs.size ≤ (s2.heap.push { cls := .type "list_iterator", data := .fields #[.ref l, .int 0 0] }).objs.size := by rw [hS]; exact Nat.le_succ _
  have hSI : (s2.heap.push { cls := .type "list_iterator", data := .fields #[.ref l, .int 0 0] }).objs.size ≠ s2.heap.objs.size := by rw [hS]; exact Nat.ne_of_gt (Nat.lt_succ_self _)
  have hsS : ((s2.heap.push { cls := .type "list_iterator", data := .fields #[.ref l, .int 0 0] }).push (seqObj "list" #[] 0)).objs = ((s2.heap.push { cls := .type "list_iterator", data := .fields #[.ref l, .int 0 0] }).push (seqObj "list" #[] 0)).objs := rfl
  have kp2 : ∀ b o, s2.heap.get? b = some o → ((s2.heap.push { cls := .type "list_iterator", data := .fields #[.ref l, .int 0 0] }).push (seqObj "list" #[] 0)).get? b = some o := fun b o e => Heap.get?_push_of_some _ (Heap.get?_push_of_some _ e)
  generalize hIt : s2.heap.objs.size = It at *
  generalize hSS : (s2.heap.push { cls := .type "list_iterator", data := .fields #[.ref l, .int 0 0] }).objs.size = S at *
  obtain ⟨fI, nI0⟩ := fix_new I3 (Nat.le_of_eq hIt)
  obtain ⟨fS, nS0⟩ := fix_new I3 (show s2.heap.objs.size ≤ S by rw [hIt]; exact leS)
  have nI : ∀ q ∈ X.pn ++ pins, q.1 ≠ It := fun q hq => nI0 q (by
    rcases List.mem_append.mp hq with z | z
    · exact List.mem_append_left _ z
    · exact List.mem_append_right _ (List.mem_cons_of_mem _ z))
  have nS : ∀ q ∈ X.pn ++ pins, q.1 ≠ S := fun q hq => nS0 q (by
    rcases List.mem_append.mp hq with z | z
    · exact List.mem_append_left _ z
    · exact List.mem_append_right _ (List.mem_cons_of_mem _ z))
  have hfI : f ≠ It := nI0 (f, _) (List.mem_append_right _ List.mem_cons_self)
  have hfS : f ≠ S := nS0 (f, _) (List.mem_append_right _ List.mem_cons_self)
  have I4 : Inv X ((It, { cls := .type "list_iterator", data := .fields #[.ref l, .int 0 0] }) :: (S, seqObj "list" #[] 0) :: (f, lamFn X params body scope pm c' ctv) :: pins) σ H2 { s2 with heap := (s2.heap.push { cls := .type "list_iterator", data := .fields #[.ref l, .int 0 0] }).push (seqObj "list" #[] 0), toks := s2.toks } := by
    have J := I3.kept (t' := s2.toks) kp2
    refine J.pins_of fun q hq => ?_
    rcases List.mem_cons.mp hq with rfl | hq
    · exact ⟨gI, I3.hok.fresh (Nat.le_of_eq hIt), fI.loc, fI.fs, fun v e => nomatch e⟩
    · rcases List.mem_cons.mp hq with rfl | hq
      · exact ⟨gS, I3.hok.fresh (by rw [hIt]; exact leS), fS.loc, fS.fs, fun v e => nomatch e⟩
      · exact J.pin q (List.mem_append_right _ hq)
  refine wpAny_pure ⟨plainId_quiet PySem.F.plain_min_loop _, ?_⟩
  refine codeAny_builtin PySem.F.entry_min_loop ?_
  rw [Around.under_plainId PySem.F.plain_min_loop _]
  show wpAny _ X.A.in1 (seqItems? (.ref S) >>= _) _ _ _
  refine wpAny_bind (wpAny_seqItems gS rfl ?_)
  obtain ⟨its', hl', hsz', hat'⟩ := item_at a2.rel hno rv2 I4 kst0
  obtain ⟨wz, uz, hu, ruz, rz⟩ := hat' 0 y rfl
  show wpAny _ X.A.in1 (tryCatch (pyNext (.ref It)) _ >>= _) _ _ _
  refine wpAny_bind (wpAny_tryCatch (wpAny_pyNext_list_item ⟨_, gI, rfl, rfl⟩ hl' hu fun h' hit' hsb => ?_))
  obtain ⟨oI', gI', oc', od'⟩ := id hit'
  have I5 : Inv X ((It, oI') :: (S, seqObj "list" #[] 0) :: (f, lamFn X params body scope pm c' ctv) :: pins) σ H2 { s2 with heap := h', toks := s2.toks } :=
    Inv.own1 (s := { s2 with heap := (s2.heap.push { cls := .type "list_iterator", data := .fields #[.ref l, .int 0 0] }).push (seqObj "list" #[] 0), toks := s2.toks }) I4 fI (fun q hq => by
      rcases List.mem_append.mp hq with z | z
      · exact nI q (List.mem_append_left _ z)
      · rcases List.mem_cons.mp z with rfl | z
        · exact hSI
        · rcases List.mem_cons.mp z with rfl | z
          · exact hfI
          · exact nI q (List.mem_append_right _ z)) (fun b u n e => (hsb.2 b n).trans e) gI' (fun v e => by rw [od'] at e; cases e)
  show wpAny _ X.A.in1 (tryCatch (holding [uz] (call (.ref f) [uz])) _ >>= _) _ _ _
  refine wpAny_bind (wpAny_tryCatch (wpAny_holding (wpAny_mono (key_turn C hno I5 (List.mem_cons_of_mem _ (List.mem_cons_of_mem _ List.mem_cons_self)) hco kst0 rz ruz hmk (A := X.A.in1) rfl C.room.in1 (E := fun _ _ => False)) (fun kv s'' hE => ?_) fun _ _ hF => hF.elim)))
  obtain ⟨wkz, H6, I6, ukz, W6, kst6, rkz, sp6, hco6⟩ := hE
  have rz6 := RF.grow sp6.grow _ rz
  have pS6 := I6.pin (S, _) (List.mem_append_right _ (List.mem_cons_of_mem _ List.mem_cons_self))
  have sb := Heap.SameBut.update s''.heap S (Obj.mapSeq fun _ => #[uz, kv])
  obtain ⟨c2, hc2⟩ : ∃ c2, (s''.heap.update S (Obj.mapSeq fun _ => #[uz, kv])).get? S = some (seqObj "list" #[uz, kv] c2) := ⟨_, get?_update_seq pS6.1 fun _ => #[uz, kv]⟩
  show wpAny _ X.A.in1 (updateSeq S (fun _ => #[uz, kv]) >>= _) _ _ _
  refine wpAny_bind (wpAny_updateSeq pS6.1 rfl ?_)
  rw [hname]
  have I7 : Inv X ((S, seqObj "list" #[uz, kv] c2) :: (It, oI') :: (f, lamFn X params body scope pm c' ctv) :: pins) σ H6 { s'' with heap := s''.heap.update S (Obj.mapSeq fun _ => #[uz, kv]), toks := s''.toks } :=
    Inv.own1 (o := seqObj "list" #[] 0) (inv_sel I6 fun q hq => by
      rcases List.mem_cons.mp hq with rfl | hq
      · exact List.mem_cons_of_mem _ List.mem_cons_self
      · rcases List.mem_cons.mp hq with rfl | hq
        · exact List.mem_cons_self
        · exact List.mem_cons_of_mem _ (List.mem_cons_of_mem _ hq)) fS (fun q hq => by
      rcases List.mem_append.mp hq with z | z
      · exact nS q (List.mem_append_left _ z)
      · rcases List.mem_cons.mp z with rfl | z
        · exact hSI.symm
        · rcases List.mem_cons.mp z with rfl | z
          · exact hfS
          · exact nS q (List.mem_append_right _ z)) (fun b u n e => (sb.2 b n).trans e) hc2 (fun v e => nomatch e)
  refine wpAny_pure ⟨plainId_quiet PySem.F.plain_min_loop _, ?_⟩
  refine min_loop C a2.rel hno rv2 (A := X.A) rfl C.room fI nI fS nS hSI hfI hfS hm (fin := pickK pvLt ys ks' y ky) (stF := stF) (fun W' H' w kst rf => ?_) ys 1 ks' y ky wz wkz uz kv c2 oI' _ H6 W6 sK rfl hc' (fun a ha => List.mem_cons_of_mem _ ha) List.mem_cons_self rfl I7 oc' od' hco6 kst6 rz6 ruz rkz ukz
  exact post W' H' w (kst.stp a2.rel hno) (RF.grow (Grow.less fun b z => by
    rcases z with z | z | z
    · exact .inl z
    · exact .inr (.inl z)
    · exact .inr (.inr ((om_wipe hno).mpr z))) _ rf)
end
end Mp
end
section
set_option maxRecDepth 100000
set_option maxHeartbeats 1000000
namespace Mp
open PySem PySem.Spec PyProof.Rows L2
def mRef (m : EM) : EM := fun env st => bindR (m env st) fun v s => match v with | .lst xs => .ok (.ref s.length) (s ++ [.lst xs]) | _ => .bad
section
variable {K : PySem.W.Frag} {tb : Tbs} {Mx : Addr → Prop} {W W' : List Addr} {σ : L2.St} {H H' : Hp} {env : MEnv} {st st' : Sto}
theorem Rel.toSto {p : Addr} {xs : List PV} {ws : List V} (nm : ¬ Mx p) (e4 : H' p = some (.lst ws)) (r : Rel K tb (fun b => Mx b ∨ b = p) W' σ H' env st') (rs : RFs K (Mt (fun b => Mx b ∨ b = p) W' env σ) W' H' xs ws) :
    Rel K tb Mx (W' ++ [p]) σ H' env (st' ++ [.lst xs]) := by
  have nw : p ∉ W' := fun z => (r.wo p z).1 (.inr rfl)
  have g : Grow (Mt (fun b => Mx b ∨ b = p) W' env σ) (Mt Mx (W' ++ [p]) env σ) W' (W' ++ [p]) H' H' := ⟨fun b o h _ _ => h, fun b _ n z => by
    rcases z with z | z | z
    · rcases List.mem_append.mp z with z | z
      · exact n (.inl z)
      · exact n (.inr (.inl (.inr (List.mem_singleton.mp z))))
    · exact n (.inr (.inl (.inl z)))
    · exact n (.inr (.inr z)), List.prefix_append _ _⟩
  refine ⟨r.tab, fun b h => r.mx b (.inl h), ?_, fun q hq => ?_, fun q hq z => r.om q hq (.inl z), r.inj, r.el, by simp [r.len], fun i q o h1 h2 => ?_, fun i v h => ?_, fun i o h => ?_⟩
  · rw [List.nodup_append]
    exact ⟨r.nd, by simp, fun a ha b hb => by rw [List.mem_singleton.mp hb]; exact fun z => nw (z ▸ ha)⟩
  · rcases List.mem_append.mp hq with z | z
    · exact ⟨fun y => (r.wo q z).1 (.inl y), (r.wo q z).2⟩
    · rw [List.mem_singleton.mp z]
      exact ⟨nm, fun y => r.om p y (.inr rfl)⟩
  · by_cases hi : i < W'.length
    · rw [List.getElem?_append_left hi] at h1
      rw [List.getElem?_append_left (by rw [← r.len]; exact hi)] at h2
      exact (r.sto i q o h1 h2).grow g (fun _ e _ => e)
    · have hi : W'.length ≤ i := Nat.not_lt.mp hi
      rw [List.getElem?_append_right hi] at h1
      rw [List.getElem?_append_right (by rw [← r.len]; exact hi), ← r.len] at h2
      obtain ⟨n, hn⟩ : ∃ n, i - W'.length = n := ⟨_, rfl⟩
      rw [hn] at h1 h2
      cases n with
      | zero =>
        simp at h1 h2
        subst h1 h2
        exact ⟨ws, e4, RFs.grow g _ rs⟩
      | succ n => simp at h1
  · obtain ⟨w, e1, e2⟩ := r.pv i v h
    exact ⟨w, e1, RF.grow g _ e2⟩
  · obtain ⟨q, e1, e2⟩ := r.own i o h
    exact ⟨q, e1, e2.grow g (fun _ e _ => e)⟩
end
theorem e_ref {X : Cx} {tb : Tbs} {Wx : WX} {e : Expr} {m : EM} (h : EOk X tb Wx .N e m) : EOk X tb Wx .F e (mRef m) := PE_mono h fun σ H Q ⟨Mx, W, env, st, rel, post⟩ => ⟨Mx, W, env, st, rel, by
  unfold mRef at post
  cases q : m env st with
  | bad => rw [q] at post; exact post
  | exc x s => rw [q] at post; exact post
  | ok v s =>
    rw [q] at post
    intro W' H' w a rm
    obtain ⟨xs, p, ws, rfl, rfl, e3, nm, e4, r, rs⟩ := rm
    refine post (W' ++ [p]) H' (.ref p) ⟨Rel.toSto nm e4 r rs, a.kp, a.nt, a.pre.trans (List.prefix_append _ _), fun b hb => ?_⟩ ?_
    · rcases List.mem_append.mp hb with z | z
      · exact a.fr b z
      · rw [List.mem_singleton.mp z]; exact .inr e3
    · show RF X.K (Mt Mx (W' ++ [p]) env σ) (W' ++ [p]) H' (.ref s.length) (.ref p)
      unfold RF
      refine ⟨p, rfl, ?_⟩
      rw [← r.len]
      simp⟩
def mTupRev (ma : EM) : EM := fun env st => bindR (ma env st) fun a s => match a with
  | .lst xs => .ok (.tup xs.reverse) s
  | _ => .bad
theorem e_tupRev {X : Cx} {tb : Tbs} {Wx : WX} {a : Expr} {ma : EM} {p p2 pos pos2 : Pos} (hc : X.calm = true) (hg : Gl X "tuple") (hm : X.mg "tuple" = none) (hg2 : Gl X "reversed") (hm2 : X.mg "reversed" = none) (ha : EOk X tb Wx .R a ma) (na : starEach [a] X.env = (false, eval a X.env) :: starEach [] X.env := by rfl)
    (nn : starEach [.Call (.Name "reversed" p2) [a] [] pos2] X.env = (false, eval (.Call (.Name "reversed" p2) [a] [] pos2) X.env) :: starEach [] X.env := by rfl) :
    EOk X tb Wx .F (.Call (.Name "tuple" p) [.Call (.Name "reversed" p2) [a] [] pos2] [] pos) (mTupRev ma) :=
  PE_mono (RT.pe_tupRev hc hg hm hg2 hm2 ha na nn) fun σ H Q ⟨Mx, W, env, st, rel, post⟩ => by
    refine ebindE rel post fun v s W1 H1 w1 a1 r1 post => ?_
    split at post
    · rename_i xs
      obtain ⟨q0, ws, rfl, h1, h2⟩ := RV.lst r1
      exact ⟨q0, ws, rfl, h1, fun q hq => post W1 _ _ (.new a1.rel hq noTbl_tup) (rf_newT (fun p z => a1.rel.mtS z) hq h2.reverse)⟩
    · exact post.elim
end Mp
end
section
set_option maxRecDepth 100000
set_option maxHeartbeats 4000000
namespace Mp
open PySem PySem.Spec PyProof.Rows L2 GxR LamX
section
variable {X : Cx} {tb : Tbs} {Wx : WX} {params : Arguments} {body : Expr} {scope : Scope} {x : Str} {i k : Nat} {mk : EM}
variable {σ : L2.St} {env : MEnv} {Mx : Addr → Prop} {W1 : List Addr} {H1 : Hp} {st1 stF : Sto} {f c' : Addr} {pm ctv : Value} {pins : List (Addr × Obj)}
end
end Mp
end
section
set_option maxRecDepth 100000
set_option maxHeartbeats 4000000
namespace Mp
open PySem PySem.Spec PyProof.Rows L2 GxR LamX
section
variable {X : Cx} {tb : Tbs} {Wx : WX} {params : Arguments} {body e : Expr} {scope : Scope} {x : Str} {i k : Nat} {mk me : EM} {p lpos kpos pos p2 pos2 : Pos} {c P : Addr}
variable {σ : L2.St} {env : MEnv} {Mx : Addr → Prop} {W1 : List Addr} {H1 : Hp} {st1 stF : Sto} {f c' : Addr} {pm ctv : Value} {pins : List (Addr × Obj)}
end
end Mp
end
section
set_option maxRecDepth 100000
set_option maxHeartbeats 4000000
namespace Mp
open PySem PySem.Spec PyProof.Rows
def papBody (txt fld self par : Str) (j : Nat) (p0 p1 p2 p3 p4 p5 p6 p7 p8 p9 : Pos) : List Stmt :=
  [.Expr (.Call (.Attribute (.Call (.Name "super" p0) [] [] p1) "__init__" p2) [.Constant (.str txt) j p3] [] p4) p5, .Assign [.Attribute (.Name self p6) fld p7] (.Name par p8) p9]
theorem pap_pos {few : Bool} {o : Expr} {env : Env} {apos pos : Pos} (h : (apos.endLine == pos.line) = true) : methodCallPos few o env apos pos = pure pos := by
  unfold methodCallPos
  rw [h]
  simp
theorem pap_he {o : Expr} {txt name : Str} {j : Nat} {p2 p3 p4 : Pos} (h : (p2.endLine == p4.line) = true) (env : Env) : eval (.Call (.Attribute o name p2) [.Constant (.str txt) j p3] [] p4) env = (do
      let ov ← attributeBase o name env (eval o env)
      standAt p2.atName
      let (f, first) ← holding [ov] (getMethod ov name (do return (← importBound o env).getD true))
      callWith p4 f first (backTo p4 (starEach [.Constant (.str txt) j p3] env)) []) := by
  show (do
      let ov ← attributeBase o name env (eval o env)
      standAt p2.atName
      let (f, first) ← holding [ov] (getMethod ov name (do return (← importBound o env).getD true))
      let callPos ← methodCallPos true o env p2 p4
      callWith callPos f first (backTo p4 (starEach [.Constant (.str txt) j p3] env)) []) = _
  rw [pap_pos h]
  simp only [pure_bind]
section
open PySem.W PySem.Calls
variable {prog : Program} {w : World} {A : Around} {s : Shared} {K : Frag} {R : Result → Shared → Prop} {C fI e cc cda t0 : Addr} {u : Value} {mg mb : Str → Option Value}
  {name qual txt fld self par : Str} {params : Arguments} {scope : Scope} {dV kV doc pm ct oc : Value} {an od : Option Addr} {osl : Array (Option Value)} {j : Nat} {p0 p1 p2 p3 p4 p5 p6 p7 p8 p9 : Pos}
  {ar : Arg} {ccl cl : Value} {cdd cld : Option Addr} {vs : Array Value} {ccs csl : Array (Option Value)} {file : Str} {tf : Tok} {cd : ClassData}
  {nm q : Str} {N : Addr} {bs bm : List Value} {sn : List Str} {sub : List Value} {ab : Bool} {col : Option Bool} {dd : Option Addr} {k0 k1 k2 k3 k5 : Option Value}
theorem pap_init (X : K.In s.heap) (hlim : s.heap.NoLimit) (hroom : A.depth < recursionLimit) (G : s.heap.Ns mainGlobals mg) (hmg : mg "super" = none) (B : s.heap.Ns builtinsNs mb) (hmb : mb "super" = some (.type "super"))
    (hf : K.lookup fI = some ⟨oc, od, .func (ksFn name qual params (papBody txt fld self par j p0 p1 p2 p3 p4 p5 p6 p7 p8 p9) scope dV kV doc pm an (.ref cda) ct cc), osl⟩) (hcd : codeIn K (.ref cda) qual = true)
    (hbind : BindsTo s (ksFn name qual params (papBody txt fld self par j p0 p1 p2 p3 p4 p5 p6 p7 p8 p9) scope dV kV doc pm an (.ref cda) ct cc) ⟨[.ref e, u], []⟩ [(self, .ref e), (par, u)])
    (hp : (params.posonlyargs ++ params.args).head? = some ar) (har : ar.arg = self) (hcode : K.lookup cda = some ⟨ccl, cdd, .fields vs, ccs⟩) (hvs : vs[2]? = some (.str file tf)) (hfile : ((prog.main.file : Str) == file) = true)
    (hcell : K.lookup cc = some ⟨cl, cld, .cell (some (.ref C)), csl⟩) (hC : K.lookup C = some (excClassObj nm q C N bs bm true sn sub ab col dd k0 k1 k2 k3 k5 "ValueError.__new__")) (hbm : PySem.HandSPX.refsVE bm = true)
    (hsub : mroIn K C (.ref C) = some true) (hks : scope.names.lookup ("super" : Str) = some .globalImplicit) (hkc : scope.names.lookup ("__class__" : Str) = some .free) (hka : scope.names.lookup self = some .local) (hkp : scope.names.lookup par = some .local)
    (hne : self ≠ par) (hk : scope.kind = .function) (htop : (prog.main.scope.names.lookup ("super" : Str)).isSome = false) (hop : nsIn K cStatics "thirdparty.any" = some none)
    (hsi : alongIn K "__init__" bm = some (some (.builtin "ValueError.__init__"))) (hB : subIn K (.ref C) (.type "ValueError") = some true) (hsa : findIn K (.ref C) "__setattr__" = some (some (.builtin "object.__setattr__"))) (hfld : findIn K (.ref C) fld = some none)
    (hnc : ∀ x ∈ scope.names, x.2 ≠ .cell) (hco : scope.isCoroutine = false) (hgen : scope.isGenerator = false) (hpos : (p2.endLine == p4.line) = true) (hds : (self == ("__debug__" : Str)) = false) (hdp : (par == ("__debug__" : Str)) = false)
    (hKe : K.lookup e = none) (he : s.heap.get? e = some (PySem.HandSPX.excO C t0))
    (hR : ∀ h' tk dx t1, (∀ b o, b ≠ e → s.heap.get? b = some o → h'.get? b = some o) → s.heap.objs.size ≤ dx → dx ≠ e → h'.get? e = some { cls := .ref C, dict := some dx, data := .fields #[.ref t1, .none, .none, .none, .bool false, .none] } → h'.Ns1 dx (fun y => if y = fld then some u else none) → R (.ok (.ret .none)) { s with heap := h', toks := tk }) :
    codeAny (model prog w) A (.call (.ref fI) ⟨[.ref e, u], []⟩) R s := by
  have hcl : clsIn K C = some { name := nm, bases := bs, mro := .ref C :: bm, ns := N, qualname := q, hasDict := true, slotNames := sn, subclasses := sub, abstract := ab, collection := col, hasDel := false } := by unfold clsIn; rw [hC] <;> rfl
  refine ks_codeAny_call_defAt (fd := ksFn name qual params (papBody txt fld self par j p0 p1 p2 p3 p4 p5 p6 p7 p8 p9) scope dV kV doc pm an (.ref cda) ct cc) (binds := [(self, .ref e), (par, u)]) hroom (X _ _ hf) rfl hlim (codeRec_of X hcd) rfl hbind hnc
    (fun x hx => by
      rcases List.mem_cons.mp hx with rfl | hx
      · exact hka
      · rw [List.mem_singleton.mp hx]; exact hkp) (fun h₁ hns hk₁ => ?_) hco hgen hk
  have hl1 : ([(self, Value.ref e), (par, u)] : List (Str × Value)).reverse.lookup self = some (.ref e) := by
    have z : (self == par) = false := by simpa using hne
    simp [List.lookup, z]
  have hl2 : ([(self, Value.ref e), (par, u)] : List (Str × Value)).reverse.lookup par = some u := by simp [List.lookup]
  have X1 : K.In h₁ := X.keeps hk₁
  have he1 := hk₁ _ _ he
  have hLe : s.heap.objs.size ≠ e := Nat.ne_of_gt (Heap.lt_size he)
  obtain ⟨hp1, g, d, t, os⟩ := s
  have hint : interactive (callEnv (ksFn name qual params (papBody txt fld self par j p0 p1 p2 p3 p4 p5 p6 p7 p8 p9) scope dV kV doc pm an (.ref cda) ct cc) hp1.objs.size fI) = false := by
    show (scope.kind == .module && _) = false
    rw [hk]; rfl
  refine ks_wpAt_execs_cons (ks_wpAt_Expr_any (hi := hint) (ks_wpAt_MethodCall (ks_wpAt_super_base (f := fI) (cc := cda) (fd := ksFn name qual params (papBody txt fld self par j p0 p1 p2 p3 p4 p5 p6 p7 p8 p9) scope dV kV doc pm an (.ref cda) ct cc) hks hkc (by decide) rfl (X1 _ _ hf) rfl hp rfl (X1 _ _ hcode) rfl hvs hfile htop ?_) (pap_he hpos _)))
  refine ks_loadName_global hk hks (loadGlobal_builtin (G.keeps hk₁) hmg (B.keeps hk₁) hmb ⟨rfl, ?_⟩)
  refine wpAny_loadName_free hk hkc rfl ⟨_, X1 _ _ hcell, rfl⟩ ?_
  refine wpAny_loadName_local (v := .ref e) hk (by rw [har]; exact hka) hns (by rw [har]; exact hl1) ?_
  refine ks_wpAny_isType_cls (X1 _ _ hC) rfl ⟨rfl, ?_⟩
  refine ks_wpAny_call_super (X1 _ _ hC) rfl he1 rfl (fun c z => nomatch z) (looks_mroIn X1 hsub) (fun h2 so2 k2 => ?_)
  have X2 : K.In h2 := X1.keeps k2
  have he2 := k2 _ _ he1
  have I2 : InstAt h2 e (PySem.HandSPX.excO C t0) C none := ⟨he2, rfl, rfl, trivial⟩
  refine kxs_getMethod kxs_ValueError so2 (looks_opaque X2 hop) (l₀ := .ref C :: bm) (fun A Q E s k z => wpAny_bind ((looks_clsIn X2 hcl) A _ E s k (wpAny_pure z))) (l := bm) (by simp) X2 hsi (I2.type.andThen (looks_subIn X2 hB)) (ks_ne X2 I2 hcl) (by decide) ?_
  show wpAny _ _ (callWith p4 (.ref h2.objs.size) [] (backTo p4 (starEach [.Constant (.str txt) j p3] _)) []) _ _ _
  refine kxs_callWith (i := "ValueError.__init__") (x := e) rfl ?_
  show wpAny _ _ (evalArgs (.ref _) true ((false, eval (.Constant (.str txt) j p3) _) :: backTo p4 (starEach [] _)) []) _ _ _
  refine evalArgs_plain (Calls.spliced_cons (Calls.Constant_str (Calls.spliced_nil ⟨Heap.get?_push_size _ rfl, ?_⟩)))
  have hu3 : (h2.push (kxs_mw "ValueError.__init__" e)).get? h2.objs.size = some (kxs_mw "ValueError.__init__" e) := Heap.get?_push_size _ rfl
  have he3 : (h2.push (kxs_mw "ValueError.__init__" e)).get? e = some (PySem.HandSPX.excO C t0) := Heap.get?_push_of_some _ he2
  refine wpAny_call (codeAny_of_tree ?_)
  show wpAny _ _ (callAny (.ref h2.objs.size) ⟨[.str txt _], []⟩) _ _ _
  simp only [callAny]
  refine wpAny_bind (wpAny_load hu3 ?_)
  simp only [kxs_mw, show (Value.type "method-wrapper" == Value.type "method" || Value.type "method-wrapper" == Value.type "builtin_function_or_method" || Value.type "method-wrapper" == Value.type "method-wrapper") = true by decide, if_true]
  refine KFB.if_so (by decide) ?_
  refine wpAny_bind (check_bound_init F.excBase_ValueError.toExcCallFacts (Heap.get?_push_of_some _ (X2 _ _ hC)) he3 rfl ?_)
  refine wpAny_bind (wpAny_pure (wpAny_pure ?_))
  refine ⟨plainId_quiet F.excBase_ValueError.init.plain _, codeAny_builtin F.excBase_ValueError.initEntry ?_⟩
  refine exc_init_tree (cls := .ref C) (t0 := t0) (dv := none) (c2 := .none) (c3 := .none) (b4 := .bool false) he3 (by show 1 ≤ sizeLine; decide) fun h4 k4 e4 _ => ?_
  have k24 : ∀ b o, b ≠ e → h2.get? b = some o → h4.get? b = some o := fun b o hb z => k4 b o hb (Heap.get?_push_of_some _ z)
  have X4 : K.In h4 := fun b o z => k24 b o (fun y => by rw [y, hKe] at z; cases z) (X2 b o z)
  have hns4 : h4.Ns hp1.objs.size (fun x => ([(self, Value.ref e), (par, u)] : List (Str × Value)).reverse.lookup x) := hns.at fun o z => k24 _ o hLe (k2 _ o z)
  have hsz4 : hp1.objs.size < h4.objs.size := by obtain ⟨o, _, _, z, _⟩ := hns4; exact Heap.lt_size z
  show _root_.PySem.wpAt _ _ _ (execs [.Assign [.Attribute (.Name self p6) fld p7] (.Name par p8) p9] _) _ _ _
  refine _root_.PySem.wpAt_of_wpAny (wpAny_execs_cons (plainObj_wpAny_Assign_Attribute (wpAny_Name (wpAny_loadName_local hk hkp hns4 hl2 (wpAny_Name (wpAny_loadName_local hk hka hns4 hl1 ?_) hds)) hdp)))
  refine set_plain X4 (ox := PySem.HandSPX.excO C _) (od := none) ⟨e4, rfl, rfl, trivial⟩ hsa ?_
  refine PySem.HandSPX.exc_osa X4 e4 hcl (show PySem.HandSPX.refsVE (.ref C :: bm) = true from hbm) rfl hfld (fun h' tk' dx k dn dne hx hn => ?_)
  refine wpAny_execs_nil ?_
  exact hR h' tk' dx _ (fun b o hb z => k b o hb (k24 b o hb (k2 b o (hk₁ b o z)))) (Nat.le_of_lt (Nat.lt_of_lt_of_le hsz4 dn)) dne hx hn
end
end Mp
end
section
set_option maxRecDepth 100000
set_option maxHeartbeats 4000000
namespace Mp
open PySem PySem.Spec PyProof.Rows L2
structure Pap (prog : Program) (K : PySem.W.Frag) (mg : Str → Option Value) (x fld : Str) (C fI : Addr) : Prop where
  gl : mg x = some (.ref C)
  ms : mg "super" = none
  T : OexC K C
  iC : PySem.W.findIn K (.ref C) "__init__" = some (some (.ref fI))
  tI : PySem.W.typeIn K (.ref fI) = some (.type "function")
  run : ∀ (w : World) (A : Around) (s : Shared) (R : Result → Shared → Prop) (e t0 : Addr) (u : Value) (mb : Str → Option Value), K.In s.heap → s.heap.NoLimit → A.depth < recursionLimit → s.heap.Ns mainGlobals mg → s.heap.Ns builtinsNs mb → mb "super" = some (.type "super") → K.lookup e = none → s.heap.get? e = some (PySem.HandSPX.excO C t0) →
    (∀ h' tk dx t1, (∀ b o, b ≠ e → s.heap.get? b = some o → h'.get? b = some o) → s.heap.objs.size ≤ dx → dx ≠ e → h'.get? e = some { cls := .ref C, dict := some dx, data := .fields #[.ref t1, .none, .none, .none, .bool false, .none] } → h'.Ns1 dx (fun y => if y = fld then some u else none) → R (.ok (.ret .none)) { s with heap := h', toks := tk }) →
    codeAny (model prog w) A (.call (.ref fI) ⟨[.ref e, u], []⟩) R s
def tMkP (C : Addr) (fld : Str) (ta : TA) : L2.St → Hp → XK → Prop := fun σ H Q => ta σ H fun vs H1 => ∃ v, vs = [v] ∧ ∀ d, H1 d = none → Q (.ref C) (some d) (upd H1 d (.xd [(fld, v)]))
section
variable {X : Cx} {e : Expr} {ta : TA} {p pos : Pos} {x fld : Str} {C fI : Addr}
theorem pmk_pap (P : Pap X.prog X.K X.mg x fld C fI) (hr : Room 1 X.A) (hg : Gl X x) (ha : PA X [e] ta) (hdb : (x == ("__debug__" : Str)) = false := by decide) (he : starEach [e] X.env = (false, eval e X.env) :: starEach [] X.env := by rfl) (hpl : (backTo pos (starEach [] X.env)).any (·.1) = false := by rfl) :
    PMk X (.Call (.Name x p) [e] [] pos) (tMkP C fld ta) := by
  intro pins s σ H Q I h
  have T := P.T
  obtain ⟨nm, q, N, bs, bm, sn, sub, ab, col, dd, k0, k1, k2, k3, k5, hC, hbm⟩ := T.cls
  refine wpAny_Call_Name_kw (ld_glob I hg P.gl ?_ hdb)
  refine PySem.W.callWith_K (h₀ := X.base) I.ok.mod.kin T.kC (thn (ha.run pos pins s σ H _ I h) fun us s1 ⟨vs, H1, I1, r1, v, ev, q1⟩ => ⟨I1.kIn, ?_⟩) he hpl
  subst ev
  obtain ⟨u, rfl, ru⟩ : ∃ u, us = [u] ∧ RelV v u := by
    cases r1 with
    | cons a b => cases b; exact ⟨_, rfl, a⟩
  show wpAny _ _ (call (.ref C) [u]) _ _ _
  obtain ⟨hp, g, dr, tk, os⟩ := s1
  have hsz : hp.objs.size ≤ hp.objs.size + 1 := Nat.le_succ _
  have hn : H1 (hp.objs.size + 1) = none := I1.hok.fresh hsz
  have kk : ∀ b o, hp.get? b = some o → ((hp.push (PySem.W.kdv_tup [u])).push (PySem.HandSPX.excO C hp.objs.size)).get? b = some o := fun b o e => Heap.get?_push_of_some _ (Heap.get?_push_of_some _ e)
  have hget : ((hp.push (PySem.W.kdv_tup [u])).push (PySem.HandSPX.excO C hp.objs.size)).get? (hp.objs.size + 1) = some (PySem.HandSPX.excO C hp.objs.size) := by heap_get
  generalize ha' : hp.objs.size + 1 = a at *
  have I2 : Inv X pins σ (upd H1 a (exo a C none)) ⟨(hp.push (PySem.W.kdv_tup [u])).push (PySem.HandSPX.excO C hp.objs.size), g, dr, tk, os⟩ :=
    I1.laid (t' := tk) (a := a) (o := exo a C none) (h' := (hp.push (PySem.W.kdv_tup [u])).push (PySem.HandSPX.excO C hp.objs.size)) kk hsz (exo_ok hget)
  obtain ⟨mb, hb1, hb2⟩ := I2.mod.blt
  have hKe : X.K.lookup a = none := by
    cases z : X.K.lookup a with
    | none => rfl
    | some o => exact absurd (Heap.lt_size (I1.kIn _ _ z)) (Nat.not_lt.mpr hsz)
  refine wpAny_call (PySem.HandSPX.call_own F.excBase_ValueError (fun Y => PySem.HandSPX.refsVE_contains Y bm hbm) (I1.kIn _ _ hC) (PySem.W.looks_findIn I1.kIn P.iC) (fun self => PySem.W.bind_fn I1.kIn self P.tI) (by show 1 ≤ sizeLine; decide) ?_)
  rw [ha']
  refine P.run X.w _ _ _ a hp.objs.size u mb I2.kIn I2.nolimit (hr.make C [u] []).depth (I2.mod.glob.keeps I2.bk) (hb1.keeps I2.bk) ((hb2 "super" (by decide)).trans (by rfl)) hKe hget fun h' tk' dx t1 k dn dne hx hns => ⟨rfl, ?_⟩
  have e0 : (upd H1 a (exo a C none)) a = some (exo a C none) := upd_same
  generalize hHa : upd H1 a (exo a C none) = Ha at *
  have hnd : Ha dx = none := I2.hok.fresh dn
  have na : ∀ {b : Addr}, Ha b = none → b ≠ a := fun {b} n z => by
    rw [z, e0] at n
    cases n
  have nd : ∀ {b : Addr} {o : Obj}, ((hp.push (PySem.W.kdv_tup [u])).push (PySem.HandSPX.excO C hp.objs.size)).get? b = some o → b ≠ dx := fun {b o} q => Nat.ne_of_lt (Nat.lt_of_lt_of_le (Heap.lt_size q) dn)
  have Un1 : Un (frs X.stack) [] Ha (upd (upd Ha dx (exd dx [(fld, v)])) a (exo a C (some dx))) ((hp.push (PySem.W.kdv_tup [u])).push (PySem.HandSPX.excO C hp.objs.size)) h' := {
    keep := fun b o q n _ _ => k b o (na n) q
    slot := fun b o q n _ _ => ⟨o.slots, k b o (na n) q⟩
    free := fun b o q n _ => by rw [upd_ne (na n), upd_ne (nd q)]; exact n
    there := fun b o q _ => by
      by_cases hb : b = a
      · exact ⟨_, by rw [hb]; exact hx⟩
      · exact ⟨o, k b o hb q⟩
    tups := fun b xs q => by rw [upd_ne (at_ne e0 q exo_tup), upd_ne (ne_of_none q hnd)]; exact q
    frzs := fun b o v q => by rw [upd_ne (at_ne e0 q exo_frz), upd_ne (ne_of_none q hnd)]; exact q
    tbls := fun b ps q => ⟨#[], by rw [upd_ne (at_ne e0 q exo_tbl), upd_ne (ne_of_none q hnd), q]; simp⟩ }
  have hok2 : HOk X.prog X.w (upd (upd Ha dx (exd dx [(fld, v)])) a (exo a C (some dx))) h' := fun b o q => by
    by_cases hb : b = a
    · subst hb
      rw [upd_same] at q
      cases q
      exact exo_ok hx
    · rw [upd_ne hb] at q
      by_cases hd : b = dx
      · subst hd
        rw [upd_same] at q
        cases q
        exact exd_ok hns (relO_put (fs := []) ru fun g => True.intro)
      · rw [upd_ne hd] at q
        exact (I2.hok b o q).stay (fun c v hc z => k c v (by
            rcases hc with hc | hc
            · rw [hc]
              exact hb
            · exact at_ne e0 hc exo_own) z)
          (fun c hc => by rw [upd_ne (at_ne e0 hc exo_own), upd_ne (ne_of_none hc hnd)]; exact hc) (fun c xs hc => by rw [upd_ne (at_ne e0 hc exo_tup), upd_ne (ne_of_none hc hnd)]; exact hc)
  have hd1 : H1 dx = none := by
    have : Ha dx = H1 dx := by rw [← hHa, upd_ne dne]
    rw [← this]; exact hnd
  subst hHa
  refine mk_end (H2 := upd (upd (upd H1 a (exo a C none)) dx (exd dx [(fld, v)])) a (exo a C (some dx))) (d := dx) (fs := [(fld, v)]) (raises_own T.exC T.tyC) I1 hsz kk Un1 hok2 rfl I2.bare upd_same (by rw [upd_ne dne, upd_same]) hd1 ?_
  have eH : upd (del (upd (upd (upd H1 a (exo a C none)) dx (exd dx [(fld, v)])) a (exo a C (some dx))) a) dx (.xd [(fld, v)]) = upd H1 dx (.xd [(fld, v)]) := by
    funext b
    by_cases hb : b = dx
    · rw [hb, upd_same, upd_same]
    · rw [upd_ne hb, upd_ne hb]
      by_cases hba : b = a
      · rw [hba, del_same, hn]
      · rw [del_ne hba, upd_ne hba, upd_ne hb, upd_ne hba]
  rw [eH]
  exact q1 dx hd1
end
end Mp
end
section
set_option maxRecDepth 100000
set_option maxHeartbeats 4000000
namespace Mp
open PySem PySem.Spec PyProof.Rows L2
theorem bind2 {fd : FuncData} {a0 a1 : Arg} {kd : List (Option Expr)} {df : List Expr} {x y : Value} (hp : fd.params = ⟨[], [a0, a1], none, [], kd, none, df⟩) (hd : fd.defaults = .none) (hne : (a1.arg == a0.arg) = false) : bindArgs fd ⟨[x, y], []⟩ = pure [(a0.arg, x), (a1.arg, y)] := by
  unfold bindArgs
  rw [hp, hd]
  simp [List.lookup, hne, seqItems?]
  rfl
end Mp
end
section
set_option maxRecDepth 100000
set_option maxHeartbeats 1000000
namespace PySem
open Sem (wp)
open AutoSeq1 (wpAny_loadPart')
theorem meets_enumerate_newT (l : Addr) (items : Array Value) (n : Nat) (dct : Option Addr) (sl : Array (Option Value)) :
    Meets (Builtin.«enumerate.__new__» ⟨[.type "enumerate", .ref l], []⟩) (fun _ R s => s.heap.get? l = some { cls := .type "tuple", dict := dct, data := .seq items n, slots := sl } ∧
      R (.ok (.ret (.ref (s.heap.push { cls := .type "tuple_iterator", data := .fields #[.ref l, .int 0 0] }).objs.size)))
        { s with heap := (s.heap.push { cls := .type "tuple_iterator", data := .fields #[.ref l, .int 0 0] }).push { cls := .type "enumerate", data := .fields #[.none, .bool false, .ref s.heap.objs.size, rawInt 0, .none, .none] } }) :=
  .of_wp fun prog w A R s h => by
    obtain ⟨hp, g, d, tk, os⟩ := s; obtain ⟨hl, h⟩ := h
    have hsub := sub_enumerate
    have hL : Heap.IsTuple (Shared.heap ⟨hp, g, d, tk, os⟩) l items := ⟨_, hl, rfl, n, rfl⟩
    wp_walk using wpAny_loadPart' hl
    refine wpAny_stack_any fun st => wpAny_pure ?_
    split
    · rename_i c _ _ _ _ _
      cases (c == Value.type "enumerate")
      · wp_walk using wpAny_loadPart' hl, wpAny_pyIter_tuple hL
        exact ⟨_, rfl, h⟩
      · wp_walk using wpAny_loadPart' hl, wpAny_pyIter_tuple hL
        exact ⟨_, rfl, h⟩
    · wp_walk using wpAny_loadPart' hl, wpAny_pyIter_tuple hL
      exact ⟨_, rfl, h⟩
section
variable {prog : Program} {w : World} {A : Around} {E : Value → Shared → Prop} {s : Shared}
theorem call_enumerate_tuple {l : Addr} {items : Array Value} {Q : Value → Shared → Prop} (hL : s.heap.IsTuple l items)
    (h : ∀ h', IsEnum h' (s.heap.objs.size + 1) s.heap.objs.size 0 .none → h'.IsTupleIter s.heap.objs.size l 0 → h'.objs.size = s.heap.objs.size + 2 →
      (∀ b o, s.heap.get? b = some o → h'.get? b = some o) → Q (.ref (s.heap.objs.size + 1)) { s with heap := h' }) :
    wpAny (model prog w) A (call (.type "enumerate") [.ref l]) Q E s := by
  obtain ⟨⟨c, dct, dt, sl⟩, hl, hc, n, hd⟩ := hL
  replace hc : c = .type "tuple" := hc
  replace hd : dt = .seq items n := hd
  subst hc hd
  refine callType_new F.called_enumerate (by decide) (F.typeCall_enumerate_1 _) (F.newCall_enumerate_1 _) (fun obj => F.args_object_init_2 obj _) F.entry_enumerate_new
    (meets_enumerate_newT l items n dct sl) ⟨hl, ?_⟩
  have hz : (s.heap.push { cls := .type "tuple_iterator", data := .fields #[.ref l, .int 0 0] }).objs.size = s.heap.objs.size + 1 := Heap.size_push ..
  show _ ∧ _
  rw [hz]
  have he : IsEnum ((s.heap.push { cls := .type "tuple_iterator", data := .fields #[.ref l, .int 0 0] }).push
      { cls := .type "enumerate", data := .fields #[.none, .bool false, .ref s.heap.objs.size, rawInt 0, .none, .none] }) (s.heap.objs.size + 1) s.heap.objs.size 0 .none := by
    have := Heap.get?_push_size (s.heap.push { cls := .type "tuple_iterator", data := .fields #[.ref l, .int 0 0] })
      (o := { cls := .type "enumerate", data := .fields #[.none, .bool false, .ref s.heap.objs.size, rawInt 0, .none, .none] }) rfl
    rw [hz] at this; exact this
  refine ⟨⟨_, he, rfl⟩, h _ he ⟨_, Heap.get?_push_of_some _ (Heap.get?_push_size _ rfl), rfl, rfl⟩ (by rw [Heap.size_push, hz]) fun b o x => Heap.get?_push_of_some _ (Heap.get?_push_of_some _ x)⟩
end
theorem draws_tuple {prog : Program} {w : World} {A : Around} (hh : A.handled = none) (it l : Addr) (hne : l ≠ it) (items : Array Value) :
    Draws prog w A it [it, l] items.size (fun i v => items[i]? = some v) (fun i h => h.IsTupleIter it l i ∧ h.IsTuple l items) where
  live := fun _ _ st => let ⟨o, ho, _⟩ := st.1; ⟨o, ho⟩
  frame := fun _ _ _ st hk => ⟨st.1.at fun o e => hk it (by simp) o e, st.2.at fun o e => hk l (by simp) o e⟩
  item := fun i s Q E hi st hQ => by
    refine wpAny_nextOf_tuple_item st.1 st.2 (x := items[i]) (by simp [hi]) fun h' hit' hs' => ?_
    exact hQ _ h' s.toks (by simp [hi]) ⟨hit', st.2.at fun o e => (hs'.2 l hne).trans e⟩ hs'
  done := fun s Q E st hE => wpAny_nextOf_tuple_end hh st.1 st.2 (by simp) hE
end PySem
namespace Mp
open PySem PySem.Spec PyProof.Rows L2
def IteT (K : PySem.W.Frag) (a : Addr) : It :=
  ⟨fun i H => ∃ (xs : List V) (x : V), SqT K H a xs ∧ xs[i]? = some x, fun i H v H' => ∃ T x, v = .ref T ∧ H T = none ∧ H' = upd H T (.tup [.int (i : Nat), x]) ∧ ∀ xs, SqT K H a xs → xs[i]? = some x, fun i H => ∃ xs : List V, SqT K H a xs ∧ xs.length ≤ i⟩
theorem turn_enumT {P : Program} {w : World} {K : PySem.W.Frag} {elts : List Expr} {kk : Nat} {tpos : Pos} (a e it : Addr) :
    Turn P w K (.Tuple elts kk tpos) (IteT K a) [e, it] e (fun i h => (∃ old, IsEnum h e it ((i : Nat) : Int) old) ∧ h.IsTupleIter it a i ∧ e ≠ it) where
  mem := by simp
  obj := fun i h st b hb => by
    obtain ⟨⟨old, he⟩, ⟨o, ho, hc, hd⟩, _⟩ := st
    have e' : b = e ∨ b = it := by simpa using hb
    rcases e' with z | z
    · rw [z]; exact ⟨_, he, fun v q => nomatch q⟩
    · rw [z]; exact ⟨o, ho, fun v q => by rw [hd] at q; cases q⟩
  keep := fun i h h' st k => let ⟨⟨old, he⟩, hi, hne⟩ := st; ⟨⟨old, k e (by simp) _ he⟩, hi.at fun o q => k it (by simp) o q, hne⟩
  item := by
    intro X hP hw hK hc i pins s σ H E I hf st hg
    subst hP hw hK
    obtain ⟨⟨old, he⟩, hit, hne⟩ := st
    obtain ⟨xs, x, hq, hx⟩ := hg
    obtain ⟨its, rv, p, hz⟩ := I.tuple hq
    obtain ⟨u, hu, ru⟩ := rv.get hx
    have pt : s.heap.IsTuple a its.toArray := p
    have hel : e < s.heap.objs.size := Heap.lt_size he
    have hil : it < s.heap.objs.size := by obtain ⟨_, q, _⟩ := hit; exact Heap.lt_size q
    have nea : e ≠ a := fun z => by
      obtain ⟨o, ho, hc, _⟩ := pt
      rw [← z] at ho
      have he' : s.heap.get? e = _ := he
      rw [he'] at ho; cases ho; injection hc with z; exact absurd z (by decide)
    have nia : a ≠ it := fun z => by
      obtain ⟨o, ho, hc, _⟩ := pt
      obtain ⟨o', ho', hc', _⟩ := hit
      rw [z, ho'] at ho; cases ho; rw [hc'] at hc; injection hc with z; exact absurd z (by decide)
    have hi : i < its.toArray.size := by
      have := (List.getElem?_eq_some_iff.mp hu).1
      simpa using this
    refine wpAny_pyNext_enum_itemD (draws_tuple (A := X.A.in1) (show X.A.handled = none from I.ok.hd hc) it a nia its.toArray) he ⟨hit, pt⟩ hi hne (by simp [hne, nea]) fun x' h' tk hP ho hst hT hsz hk => ?_
    have ex : x' = u := by
      have h1 : its.toArray[i]? = some u := by simpa using hu
      rw [h1] at hP; cases hP; rfl
    subst ex
    refine ⟨_, rfl, wpAny_letOwnedTupleGo_enum (s := { s with heap := h', toks := tk + 1 }) ho fun h'' he' sb => ?_⟩
    have hT2 : h''.get? s.heap.objs.size = some { cls := .type "tuple", data := .seq #[.int i tk, x'] } := (sb.2 _ (Nat.ne_of_gt hel)).trans hT
    have new : ObjOk X.prog X.w (upd H s.heap.objs.size (.tup [.int (i : Nat), x])) h'' s.heap.objs.size (.tup [.int (i : Nat), x]) :=
      ⟨by show 2 ≤ sizeLine; decide, [.int i tk, x'], .cons ⟨_, rfl⟩ (.cons ru .nil), ⟨_, hT2, rfl, _, rfl⟩⟩
    have I1 : Inv X pins σ (upd H s.heap.objs.size (.tup [.int (i : Nat), x])) { s with heap := h'', toks := tk + 1 } :=
      I.turnedNew (ch := [e, it]) (fun b ob hb q => (sb.2 b (fun z => hb (by simp [z]))).trans (hk b ob (fun z => hb (by simp [z])) (fun z => hb (by simp [z])) q)) hf (Nat.le_refl _) new
    refine ⟨.ref s.heap.objs.size, _, I1, rfl, ⟨_, x, rfl, I.hok.fresh (Nat.le_refl _), rfl, fun ys hy => by rw [I.tuple_inj hy hq]; exact hx⟩, ⟨⟨x', ?_⟩, hst.1.at fun o q => (sb.2 it (Ne.symm hne)).trans q, hne⟩, fun b hb => ?_⟩
    · have e1 : ((i + 1 : Nat) : Int) = (i : Int) + 1 := by omega
      rw [e1]; exact he'
    · have hb' : b < s.heap.objs.size := by
        have e' : b = e ∨ b = it := by simpa using hb
        rcases e' with z | z
        · rw [z]; exact hel
        · rw [z]; exact hil
      rw [upd_ne (Nat.ne_of_lt hb')]
      exact (hf b hb).1
  done := by
    intro X hP hw hK hc i pins s σ H E I hf st hg
    subst hP hw hK
    obtain ⟨⟨old, he⟩, hit, hne⟩ := st
    obtain ⟨xs, hq, hx⟩ := hg
    obtain ⟨its, rv, p, hz⟩ := I.tuple hq
    have pt : s.heap.IsTuple a its.toArray := p
    obtain ⟨f0, f1, f2, f3, f4, f5⟩ := hf it (by simp)
    have hl := rv.length
    have nia : a ≠ it := fun z => by
      obtain ⟨o, ho, hc, _⟩ := pt
      obtain ⟨o', ho', hc', _⟩ := hit
      rw [z, ho'] at ho; cases ho; rw [hc'] at hc; injection hc with z; exact absurd z (by decide)
    have hT : s.TypeIs (.ref e) "enumerate" := ⟨_, he, rfl⟩
    unfold pyNext
    refine wpAny_bind (wpAny_attempt (wpAny_callSpecial?_slot (name := Str.ofString "__next__") hT F.slot_enumerate_next
      (wpAny_call_entry F.slot_enumerate_next hT F.entry_enumerate_next ?_ (F.args_enumerate_next_1 _))))
    show wpAny _ _ (field (.ref e) 2 >>= _) _ _ _
    refine wpAny_bind (wpAny_field he rfl (x := .ref it) rfl ?_)
    refine wpAny_bind (wpAny_nextOf_tuple_end (show X.A.handled = none from I.ok.hd hc) hit pt (by simp; omega) fun h' x he' hx' => ?_)
    obtain ⟨o, ho, hc⟩ := hx'
    refine wpAny_bind (wpAny_isInstance (T := "StopIteration") (b := true) ⟨o, ho, hc⟩ isSubtype_stop ?_)
    exact wpAny_pure ⟨rfl, I.turned (t' := s.toks) (fun b o hb q => he' b o hb q) f0 f1 f3 f4 f5⟩
  self := fun A i s Q E st h => let ⟨⟨_, he⟩, _⟩ := st; wpAny_pyIter_enum he h
def iEnumA (K : PySem.W.Frag) (ta : TA) : TI := fun σ H R => ta σ H fun vs H1 => ∃ a xs, vs = [.ref a] ∧ ((SqL K H1 a xs ∧ R (Ite K a) H1) ∨ (SqT K H1 a xs ∧ R (IteT K a) H1))
theorem pi_enumA {X : Cx} {e : Expr} {ta : TA} {p pos tpos : Pos} {elts : List Expr} {kk : Nat} (hg : Gl X "enumerate") (hm : X.mg "enumerate" = none) (ha : PA X [e] ta) (hs : starEach [e] X.env = [(false, eval e X.env)] := by rfl) :
    PI X (.Tuple elts kk tpos) (.Call (.Name "enumerate" p) [e] [] pos) (iEnumA X.K ta) := by
  refine ⟨fun pins s σ H R I h => ?_⟩
  refine Call_ (ld_blt I hg hm boot_enumerate (PyProof.Rows.callWith_type1 (thn (ha.run pos pins s σ H _ I h) fun us s1 ⟨vs, H1, I1, r1, q1⟩ => ?_) hs rfl))
  obtain ⟨a, xs, ex, hq⟩ := q1
  subst ex
  cases r1 with
  | cons r rr =>
    cases rr
    cases r
    have fpo : ∀ b ∈ [s1.heap.objs.size + 1, s1.heap.objs.size], s1.heap.objs.size ≤ b := fun b hb => by
      have e' : b = s1.heap.objs.size + 1 ∨ b = s1.heap.objs.size := by simpa using hb
      rcases e' with z | z
      · rw [z]; exact Nat.le_add_right _ _
      · rw [z]; exact Nat.le_refl _
    rcases hq with ⟨hq, q⟩ | ⟨hq, q⟩
    · obtain ⟨its, rv, p', hz⟩ := I1.list hq
      refine call_enumerate_list p'.isList fun h' he hit hsz hk => wpAny_pyIter_enum he ?_
      have I2 : Inv X pins σ H1 { s1 with heap := h' } := I1.kept (t' := s1.toks) hk
      exact ⟨s1.heap.objs.size + 1, [s1.heap.objs.size + 1, s1.heap.objs.size], _, _, H1, rfl, I2, turn_enum a (s1.heap.objs.size + 1) s1.heap.objs.size, ⟨⟨.none, he⟩, hit, Nat.succ_ne_self _⟩, fun b hb => I1.fpOk (fpo b hb) (I1.hok.fresh (fpo b hb)), q⟩
    · obtain ⟨its, rv, p', hz⟩ := I1.tuple hq
      refine call_enumerate_tuple (show s1.heap.IsTuple a its.toArray from p') fun h' he hit hsz hk => wpAny_pyIter_enum he ?_
      have I2 : Inv X pins σ H1 { s1 with heap := h' } := I1.kept (t' := s1.toks) hk
      exact ⟨s1.heap.objs.size + 1, [s1.heap.objs.size + 1, s1.heap.objs.size], _, _, H1, rfl, I2, turn_enumT a (s1.heap.objs.size + 1) s1.heap.objs.size, ⟨⟨.none, he⟩, hit, Nat.succ_ne_self _⟩, fun b hb => I1.fpOk (fpo b hb) (I1.hok.fresh (fpo b hb)), q⟩
def enumP (xs : List PV) : List PV := xs.zipIdx.map fun p => .tup [.int (p.2 : Nat), p.1]
theorem enumP_at {xs : List PV} {i : Nat} {v : PV} (h : (enumP xs)[i]? = some v) : ∃ x, xs[i]? = some x ∧ v = .tup [.int (i : Nat), x] := by
  unfold enumP at h
  rw [List.getElem?_map, List.getElem?_zipIdx] at h
  cases q : xs[i]? with
  | none => rw [q] at h; simp at h
  | some x => rw [q] at h; simp at h; exact ⟨x, rfl, h.symm⟩
theorem enumP_len (xs : List PV) : (enumP xs).length = xs.length := by unfold enumP; simp
section
variable {K : PySem.W.Frag} {M : Addr → Prop} {W : List Addr} {H : Hp}
theorem wlk_enumL {a : Addr} {xs : List PV} {ws : List V} (h : FzL K M H a ws) (r : RFs K M W H xs ws) : WlkI K (Ite K a) (enumP xs) M W H where
  go := fun i M' W' H' g hi => by
    have l1 := r.len
    rw [enumP_len] at hi
    exact ⟨ws, ws[i]'(by omega), (g.fzL h).sq, List.getElem?_eq_getElem _⟩
  yl := fun i M' W' H' x H2 y g hm hy ⟨T, w, e, hT, e2, f1⟩ => by
    subst e; subst e2
    obtain ⟨p, e1, rfl⟩ := enumP_at hy
    obtain ⟨p', k1, rp⟩ := (RFs.grow g _ r).getr (f1 ws (g.fzL h).sq)
    rw [e1] at k1; cases k1
    exact ⟨.inr ⟨T, .tup [.int (i : Nat), w], hT, (fun ps z => nomatch z), rfl⟩, rf_newT hm hT (RFs.cons (by unfold RF; rfl) (RFs.cons rp RFs.nil))⟩
  st := fun M' W' H' g => ⟨ws, (g.fzL h).sq, by
    have l1 := r.len
    rw [enumP_len]; omega⟩
theorem wlk_enumT {a : Addr} {xs : List PV} {ws : List V} (h : FzT K M H a ws) (r : RFs K M W H xs ws) : WlkI K (IteT K a) (enumP xs) M W H where
  go := fun i M' W' H' g hi => by
    have l1 := r.len
    rw [enumP_len] at hi
    exact ⟨ws, ws[i]'(by omega), (g.fzT h).sq, List.getElem?_eq_getElem _⟩
  yl := fun i M' W' H' x H2 y g hm hy ⟨T, w, e, hT, e2, f1⟩ => by
    subst e; subst e2
    obtain ⟨p, e1, rfl⟩ := enumP_at hy
    obtain ⟨p', k1, rp⟩ := (RFs.grow g _ r).getr (f1 ws (g.fzT h).sq)
    rw [e1] at k1; cases k1
    exact ⟨.inr ⟨T, .tup [.int (i : Nat), w], hT, (fun ps z => nomatch z), rfl⟩, rf_newT hm hT (RFs.cons (by unfold RF; rfl) (RFs.cons rp RFs.nil))⟩
  st := fun M' W' H' g => ⟨ws, (g.fzT h).sq, by
    have l1 := r.len
    rw [enumP_len]; omega⟩
end
def iEnumM (ms : AM) : AM := fun env st => bindR (ms env st) fun vs s => match vs with
  | [.lst xs] => .ok (enumP xs) s
  | [.tup xs] => .ok (enumP xs) s
  | _ => .bad
theorem i_enum {X : Cx} {tb : Tbs} {Wx : WX} {a : Expr} {ms : AM} {p pos tpos : Pos} {elts : List Expr} {kk : Nat} (hg : Gl X "enumerate") (hm : X.mg "enumerate" = none) (ha : AOk X tb Wx true [a] ms)
    (hs : starEach [a] X.env = [(false, eval a X.env)] := by rfl) : IOk X tb Wx (.Tuple elts kk tpos) (.Call (.Name "enumerate" p) [a] [] pos) (iEnumM ms) :=
  PI_mono (pi_enumA hg hm ha hs) fun σ H R ⟨Mx, W, env, st, rel, post⟩ => by
    refine ⟨Mx, W, env, st, rel, ?_⟩
    unfold iEnumM at post
    cases q : ms env st with
    | bad => rw [q] at post; exact post.elim
    | exc x s => rw [q] at post; exact post
    | ok vs s =>
      rw [q] at post
      intro W' H' ws a1 rm
      have rm : RFs X.K (Mt Mx W' env σ) W' H' vs ws := rm
      simp only [bindR] at post
      split at post
      · rename_i xs
        obtain ⟨w1, r1, rfl, h1, h4⟩ := rm.inv
        cases h4.nil_inv
        unfold RF at h1
        obtain ⟨pa, wa, rfl, fa, ra⟩ := h1
        exact ⟨pa, wa, rfl, .inl ⟨fa.sq, post W' H' _ a1 (wlk_enumL fa ra)⟩⟩
      · rename_i xs
        obtain ⟨w1, r1, rfl, h1, h4⟩ := rm.inv
        cases h4.nil_inv
        unfold RF at h1
        obtain ⟨pa, wa, rfl, fa, ra⟩ := h1
        exact ⟨pa, wa, rfl, .inr ⟨fa.sq, post W' H' _ a1 (wlk_enumT fa ra)⟩⟩
      · exact post.elim
end Mp
end
section
set_option maxRecDepth 100000
set_option maxHeartbeats 4000000
namespace Mp
open PySem PySem.Spec PyProof.Rows L2
def isNoneV : Value → Bool | .none => true | _ => false
def papCls (K : PySem.W.Frag) (C : Addr) : Bool := match K.lookup C with
  | some ⟨.type ty, _, .cls cd, ⟨[_, _, _, _, some (.builtin n), _]⟩⟩ => (match cd.mro with
    | .ref C' :: bm => decide (C' = C) && (decide (n = "ValueError.__new__") && (decide (ty = "type") && (!cd.hasDel && (cd.hasDict && PySem.HandSPX.refsVE bm))))
    | _ => false)
  | _ => false
theorem papCls_ok {K : PySem.W.Frag} {C : Addr} (h : papCls K C = true) : ∃ nm q N bs bm sn sub ab col dd k0 k1 k2 k3 k5, K.lookup C = some (excClassObj nm q C N bs bm true sn sub ab col dd k0 k1 k2 k3 k5 "ValueError.__new__") ∧ PySem.HandSPX.refsVE bm = true := by
  unfold papCls at h
  split at h
  · rename_i ty dd cd k0 k1 k2 k3 n k5 hl
    split at h
    · rename_i C' bm hm
      simp only [Bool.and_eq_true, decide_eq_true_eq, Bool.not_eq_true'] at h
      obtain ⟨rfl, rfl, rfl, h1, h2, h3⟩ := h
      obtain ⟨nm, bs, mro, ns, qn, hd, sn, sb, ab, col, del⟩ := cd
      dsimp only at hm h1 h2
      subst hm h1 h2
      exact ⟨nm, qn, ns, bs, bm, sn, sb, ab, col, dd, k0, k1, k2, k3, k5, hl, h3⟩
    · cases h
  · cases h
def bmOf (K : PySem.W.Frag) (C : Addr) : List Value := match PySem.W.clsIn K C with | some cd => cd.mro.drop 1 | none => []
def isBlt (o : Option (Option Value)) (n : String) : Bool := match o with | some (some (.builtin m)) => decide (m = n) | _ => false
theorem isBlt_ok {o : Option (Option Value)} {n : String} (h : isBlt o n = true) : o = some (some (.builtin n)) := by
  unfold isBlt at h
  split at h
  · rw [of_decide_eq_true h]
  · cases h
def isNoF (o : Option (Option Value)) : Bool := match o with | some none => true | _ => false
theorem isNoF_ok {o : Option (Option Value)} (h : isNoF o = true) : o = some none := by
  unfold isNoF at h
  split at h
  · rfl
  · cases h
def isFnT : Option Value → Bool
  | some (.type t) => decide (t = "function")
  | _ => false
theorem isFnT_ok {o : Option Value} (h : isFnT o = true) : o = some (.type "function") := by
  unfold isFnT at h
  split at h
  · rw [of_decide_eq_true h]
  · cases h
def papCode (file : Str) (K : PySem.W.Frag) (cda : Addr) : Bool := match K.lookup cda with
  | some ⟨_, _, .fields vs, _⟩ => (match (vs[2]? : Option Value) with | some (.str f _) => file == f | _ => false)
  | _ => false
def papCell (K : PySem.W.Frag) (cc C : Addr) : Bool := match K.lookup cc with
  | some ⟨_, _, .cell (some (.ref D)), _⟩ => decide (D = C)
  | _ => false
theorem papCode_ok {file : Str} {K : PySem.W.Frag} {cda : Addr} (h : papCode file K cda = true) : ∃ (ccl : Value) (cdd : Option Addr) (vs : Array Value) (ccs : Array (Option Value)) (f : Str) (tf : Tok), K.lookup cda = some ⟨ccl, cdd, .fields vs, ccs⟩ ∧ vs[2]? = some (.str f tf) ∧ (file == f) = true := by
  unfold papCode at h
  split at h
  · rename_i ccl cdd vs ccs hl
    split at h
    · rename_i f tf hv
      exact ⟨ccl, cdd, vs, ccs, f, tf, hl, hv, h⟩
    · cases h
  · cases h
theorem papCell_ok {K : PySem.W.Frag} {cc C : Addr} (h : papCell K cc C = true) : ∃ (cl : Value) (cld : Option Addr) (csl : Array (Option Value)), K.lookup cc = some ⟨cl, cld, .cell (some (.ref C)), csl⟩ := by
  unfold papCell at h
  split at h
  · rename_i cl cld D csl hl
    rw [of_decide_eq_true h] at hl
    exact ⟨cl, cld, csl, hl⟩
  · cases h
def papScope (sc : Scope) (self par : Str) : Bool :=
  decide (sc.names.lookup ("super" : Str) = some .globalImplicit) && (decide (sc.names.lookup ("__class__" : Str) = some .free) && (decide (sc.names.lookup self = some .local) && (decide (sc.names.lookup par = some .local) && (decide (sc.kind = .function) && ((sc.names.all fun y => !decide (y.2 = NameKind.cell)) && (!sc.isCoroutine && !sc.isGenerator))))))
def papFn (file : Str) (K : PySem.W.Frag) (C : Addr) (fld : Str) (fd : FuncData) : Bool := match fd.body, fd.params, fd.closure, fd.code with
  | .stmts [.Expr (.Call (.Attribute (.Call (.Name n0 p0) [] [] p1) n1 p2) [.Constant (.str txt) j p3] [] p4) p5, .Assign [.Attribute (.Name n2 p6) n3 p7] (.Name n4 p8) p9], ⟨[], [a0, a1], none, [], kd, none, df⟩, [(cn, cc)], .ref cda =>
    (decide (n0 = "super") && (decide (n1 = "__init__") && (decide (n3 = fld) && (decide (n2 = a0.arg) && (decide (n4 = a1.arg) && decide (cn = "__class__")))))) &&
    ((!(a1.arg == a0.arg) && ((p2.endLine == p4.line) && (PySem.W.codeIn K (.ref cda) fd.qualname && (isNoneV fd.defaults && (decide (fd.globals = mainGlobals) && decide (fd.builtins = builtinsNs)))))) &&
    (papScope fd.scope a0.arg a1.arg && (papCode file K cda && (papCell K cc C && (!(a0.arg == ("__debug__" : Str)) && !(a1.arg == ("__debug__" : Str)))))))
  | _, _, _, _ => false
def papB (file : Str) (K : PySem.W.Frag) (x fld : Str) : Bool := match clsAt K x with
  | some C => (match PySem.W.findIn K (.ref C) "__init__" with
    | some (some (.ref fI)) => (match K.lookup fI with
      | some ⟨_, _, .func fd, _⟩ => papFn file K C fld fd && (papCls K C && (isFnT (PySem.W.typeIn K (.ref fI)) && (isBlt (PySem.W.findIn K (.ref C) "__setattr__") "object.__setattr__" &&
          (isTru (PySem.W.subIn K (.ref C) (.type "BaseException")) && (isTyp (PySem.W.typeIn K (.ref C)) && (PySem.W.keepIn K (.ref C) && (isNoF (PySem.W.findIn K (.ref C) fld) && (isTru (PySem.W.mroIn K C (.ref C)) &&
          (isBlt (PySem.W.alongIn K "__init__" (bmOf K C)) "ValueError.__init__" && (isTru (PySem.W.subIn K (.ref C) (.type "ValueError")) && isNoF (PySem.W.nsIn K cStatics "thirdparty.any")))))))))))
      | _ => false)
    | _ => false)
  | none => false
theorem pap_ok {prog : Program} {K : PySem.W.Frag} {h : Heap} {mg : Str → Option Value} {x fld : Str} (X : K.In h) (G : h.Ns mainGlobals mg) (ms : mg "super" = none) (htop : (prog.main.scope.names.lookup ("super" : Str)).isSome = false) (c : papB prog.main.file K x fld = true) : ∃ C fI, Pap prog K mg x fld C fI := by
  unfold papB at c
  split at c
  rotate_left
  · cases c
  rename_i C eC
  split at c
  rotate_left
  · cases c
  rename_i fI eI
  split at c
  rotate_left
  · cases c
  rename_i oc od fd osl eF
  simp only [Bool.and_eq_true] at c
  obtain ⟨c1, c2, c3, c4, c5, c6, c7, c8, c9, c10, c11, c12⟩ := c
  obtain ⟨nm, q, N, bs, bm, sn, sub, ab, col, dd, k0, k1, k2, k3, k5, hC, hbm⟩ := papCls_ok c2
  have hbo : bmOf K C = bm := by
    unfold bmOf PySem.W.clsIn
    rw [hC]
    rfl
  rw [hbo] at c10
  refine ⟨C, fI, clsAt_ok X G eC, ms, ⟨⟨nm, q, N, bs, bm, sn, sub, ab, col, dd, k0, k1, k2, k3, k5, hC, hbm⟩, isBlt_ok c4, isTru_ok c5, isTyp_ok c6, c7⟩, eI, isFnT_ok c3, ?_⟩
  unfold papFn at c1
  split at c1
  rotate_left
  · cases c1
  rename_i n0 p0 p1 n1 p2 txt j p3 p4 p5 n2 p6 n3 p7 n4 p8 p9 a0 a1 kd df cn cc cda e1 e2 e3 e4
  simp only [Bool.and_eq_true, decide_eq_true_eq, Bool.not_eq_true', papScope, List.all_eq_true] at c1
  obtain ⟨⟨rfl, rfl, rfl, rfl, rfl, rfl⟩, ⟨d1, d2, d3, d4, d5, d6⟩, ⟨s1, s2, s3, s4, s5, s6, s7, s8⟩, d7, d8, d9, d10⟩ := c1
  obtain ⟨ccl, cdd, vs, ccs, f, tf, x1, x2, x3⟩ := papCode_ok d7
  obtain ⟨cl, cld, csl, x4⟩ := papCell_ok d8
  obtain ⟨name, qual, params, body, scope, globals, closure, defaults, kwdefaults, doc, pyModule, annotations, code, closureTuple, builtins⟩ := fd
  dsimp only at e1 e2 e3 e4 d3 d4 d5 d6 s1 s2 s3 s4 s5 s6 s7 s8
  subst e1 e2 e3 e4 d5 d6
  have d4' : defaults = .none := by
    unfold isNoneV at d4
    split at d4
    · rfl
    · cases d4
  subst d4'
  intro w A s R e t0 u mb KX hlim hroom G' B hmb hKe he hR
  exact pap_init (par := a1.arg) KX hlim hroom G' ms B hmb eF d3 (BindsTo.of_eq (bind2 rfl rfl d1)) rfl rfl x1 x2 x3 x4 hC hbm (isTru_ok c9) s1 s2 s3 s4 (fun z => by rw [z] at d1; simp at d1) s5 htop (isNoF_ok c12) (isBlt_ok c10) (isTru_ok c11) (isBlt_ok c4) (isNoF_ok c8) (fun y hy z => by have := s6 y hy; rw [z] at this; simp at this) s7 s8 d2 d9 d10 hKe he hR
end Mp
end
section
set_option maxRecDepth 100000
set_option maxHeartbeats 1000000
namespace Mp
open PySem PySem.Spec PyProof.Rows L2
end Mp
end
section
set_option maxRecDepth 100000
set_option maxHeartbeats 4000000
namespace PySem.W
open PySem PySem.Calls PyProof.Rows
section
variable {prog : Program} {w : World} {A : Around} {E : Value → Shared → Prop} {s : Shared} {β : Type} {bs : List β} {R : Value → β → Prop} {enc : β → PyData}
end
end PySem.W
namespace Mp
open PySem PySem.Spec PyProof.Rows L2
end Mp
end
section
set_option maxRecDepth 100000
set_option maxHeartbeats 4000000
namespace Mp
open PySem PySem.Spec PyProof.Rows L2 GxR LamX
section
variable {X : Cx} {tb : Tbs} {Wx : WX} {params : Arguments} {body a : Expr} {scope : Scope} {x : Str} {i k : Nat} {mk ma : EM} {p lpos kpos pos p2 pos2 : Pos} {c P : Addr}
end
end Mp
end
section
set_option maxRecDepth 100000
set_option maxHeartbeats 1000000
namespace Mp
open PySem PySem.Spec PyProof.Rows L2
mutual
def noL : PV → Bool
  | .tup xs => noLs xs
  | .lst _ => false
  | .dct _ _ => false
  | _ => true
def noLs : List PV → Bool
  | [] => true
  | x :: xs => noL x && noLs xs
end
def okO : PO → Bool
  | .lst xs => noLs xs
  | .dct _ vs => noLs vs
  | .dci _ vs => noLs vs
  | .ins _ fs => noLs (fs.map (·.2))
section
variable {K : PySem.W.Frag} {M M2 : Addr → Prop} {W : List Addr} {H : Hp} {p : Addr} {ws0 : List V}
theorem FzT.more {q : Addr} {ws : List V} (hp : H p = some (.lst ws0)) (hM : ∀ b, M2 b → M b ∨ b = p) (h : FzT K M H q ws) : FzT K M2 H q ws := by
  rcases h with ⟨h, n⟩ | h
  · refine .inl ⟨h, fun z => ?_⟩
    rcases hM q z with z | rfl
    · exact n z
    · rcases h with h | ⟨o, h⟩ <;> (rw [hp] at h; cases h)
  · exact .inr h
theorem KsOk.more (hp : H p = some (.lst ws0)) (hM : ∀ b, M2 b → M b ∨ b = p) : ∀ {ks : List (List Int)} {as : List Addr}, KsOk K M H ks as → KsOk K M2 H ks as
  | [], _, h => h
  | _ :: _, _, ⟨a, r, e, h1, h2⟩ => ⟨a, r, e, h1.more hp hM, KsOk.more hp hM h2⟩
mutual
theorem RF.more (hp : H p = some (.lst ws0)) (hM : ∀ b, M2 b → M b ∨ b = p) : ∀ (v : PV) {w : V}, noL v = true → RF K M W H v w → RF K M2 W H v w
  | .non, _, _, h => by unfold RF at h ⊢; exact h
  | .bl b, _, _, h => by unfold RF at h ⊢; exact h
  | .int i, _, _, h => by unfold RF at h ⊢; exact h
  | .str s, _, _, h => by unfold RF at h ⊢; exact h
  | .tup xs, _, n, h => by
    unfold RF at h ⊢
    unfold noL at n
    obtain ⟨q, ws, e, h1, h2⟩ := h
    exact ⟨q, ws, e, h1.more hp hM, RFs.more hp hM xs n h2⟩
  | .lst xs, _, n, h => by unfold noL at n; cases n
  | .ref n, _, _, h => by unfold RF at h ⊢; exact h
  | .fn x, _, _, h => by unfold RF at h ⊢; exact h
  | .dct ks vs, _, n, h => by unfold noL at n; cases n
  | .nti ns, _, _, h => by
    unfold RF at h ⊢
    obtain ⟨q, o, e, h1, h2, h3⟩ := h
    refine ⟨q, o, e, h1, h2, fun z => ?_⟩
    rcases hM q z with z | rfl
    · exact h3 z
    · rw [hp] at h1; cases h1
theorem RFs.more (hp : H p = some (.lst ws0)) (hM : ∀ b, M2 b → M b ∨ b = p) : ∀ (xs : List PV) {ws : List V}, noLs xs = true → RFs K M W H xs ws → RFs K M2 W H xs ws
  | [], _, _, h => by unfold RFs at h ⊢; exact h
  | x :: xs, _, n, h => by
    unfold noLs at n
    rw [Bool.and_eq_true] at n
    unfold RFs at h ⊢
    obtain ⟨w, r, e, h1, h2⟩ := h
    exact ⟨w, r, e, RF.more hp hM x n.1 h1, RFs.more hp hM xs n.2 h2⟩
end
end
section
variable {K : PySem.W.Frag} {tb : Tbs} {Mx Mx2 : Addr → Prop} {W W' : List Addr} {σ : L2.St} {H H' : Hp} {env : MEnv} {st st' : Sto} {i : Nat} {xs : List PV}
end
end Mp
end
section
set_option maxRecDepth 100000
set_option maxHeartbeats 1000000
namespace Mp
open PySem PySem.Spec PyProof.Rows L2
end Mp
end
section
set_option maxRecDepth 100000
set_option maxHeartbeats 1000000
namespace Mp
open PySem PySem.Spec PyProof.Rows L2
theorem cv_str {X : Cx} : CallV X (.type "str") bStr := by
  intro pins s σ H xs us Q I r h
  obtain ⟨M, W, st, args, v, hm, so, ra, hg, q⟩ := h
  unfold bStr at hg
  split at hg
  · split at hg
    · rename_i hl
      cases hg
      obtain ⟨w, rfl, r1⟩ := RVs1 ra
      cases r1.int
      exact call_str_int pins s σ H _ us Q I r ⟨_, rfl, hl, q H _ (.inl rfl) rf_str⟩
    · cases hg
  · cases hg
    obtain ⟨w, rfl, r1⟩ := RVs1 ra
    cases r1.str
    exact SkE.call_str_str pins s σ H _ us Q I r ⟨_, rfl, q H _ (.inl rfl) rf_str⟩
  · cases hg
section
variable {X : Cx} {tb : Tbs} {Wx : WX} {e o : Expr} {m mo me : EM} {lo hi : Option Expr} {ml mh : PM} {pos p2 apos : Pos}
end
theorem RFs.dropLast {K : PySem.W.Frag} {M : Addr → Prop} {W : List Addr} {H : Hp} {xs : List PV} {ws : List V} (r : RFs K M W H xs ws) : RFs K M W H xs.dropLast ws.dropLast := by
  rw [List.dropLast_eq_take, List.dropLast_eq_take, r.len]
  exact r.take _
end Mp
end
section
set_option maxRecDepth 100000
set_option maxHeartbeats 1000000
namespace Mp
open PySem PySem.Spec PyProof.Rows L2
end Mp
end
section
set_option maxRecDepth 100000
set_option maxHeartbeats 1000000
namespace Mp
open PySem PySem.Spec PyProof.Rows L2
abbrev PsT := Addr → V → Hp → (Hp → Prop) → Prop
def PsOk (Y : Cx) (Pt : PsT) : Prop := ∀ (pins : List (Addr × Obj)) (σ : L2.St) (H : Hp) (s : Shared) (D : Addr) (y : V) (u : Value) (N : Hp → Prop) (Q : Value → Shared → Prop) (E : Value → Shared → Prop),
  Inv Y pins σ H s → Pt D y H N → RelV y u → (∀ H' s', Inv Y pins σ H' s' → N H' → Q .none s') → wpAny (model Y.prog Y.w) Y.A (call (.builtin "set.add") [.ref D, u]) Q E s
section
variable {X : Cx}
end
end Mp
end
section
set_option maxRecDepth 100000
set_option maxHeartbeats 1000000
namespace Mp
open PySem PySem.Spec PyProof.Rows L2
def PsS (K : PySem.W.Frag) (P : Program) (w : World) : PsT := fun D y H N => ∃ (M : Addr → Prop) (L : List (Addr × List Int)) (k : List Int) (b : Addr), y = .ref b ∧ FzT K M H b (k.map V.int) ∧ H D = some (SetTO P w D L) ∧ (∀ p ∈ L, FzT K M H p.1 (p.2.map V.int)) ∧ L.length + 1 < 64 ∧
  ∀ L', (k ∈ L.map (·.2) → L' = L) → (k ∉ L.map (·.2) → L'.Perm ((b, k) :: L)) → N (upd H D (SetTO P w D L'))
theorem set_of {X : Cx} {pins : List (Addr × Obj)} {σ : L2.St} {H : Hp} {s : Shared} {D : Addr} {L : List (Addr × List Int)} {M : Addr → Prop} (I : Inv X pins σ H s) (e : H D = some (SetTO X.prog X.w D L)) (fL : ∀ p ∈ L, FzT X.K M H p.1 (p.2.map V.int)) : ∃ es ep t, SetTR X.prog X.w s.heap D L es ep t := by
  have R0 : SetT0 X.prog X.w s.heap D L := (I.hok D _ e).1
  exact R0.full fun p hp => Inv.isT I (fL p hp).sq
theorem ps_set {Y : Cx} (hu : Y.A.units + 8 < cLine) : PsOk Y (PsS Y.K Y.prog Y.w) := by
  rintro pins σ H s D y u N Q E I ⟨M, L, k, b, rfl, fz, e, fL, hl, n⟩ ry fin
  cases (show u = Value.ref b from ry)
  have hb := Inv.isT I fz.sq
  obtain ⟨es, ep, t, R⟩ := set_of I e fL
  have hT : s.TypeIs (.ref D) "set" := by
    obtain ⟨o, ho, hx, _⟩ := R.ob
    exact ⟨o, ho, hx.1⟩
  refine wpAny_call_entry PySem.F.slot_set_add hT PySem.F.entry_set_add ?_ (PySem.F.args_set_add_2 _ _)
  unfold Builtin.«set.add» Builtin.Frozenset.oneOther
  simp only [List.isEmpty_nil, bind_assoc]
  unfold Builtin.Frozenset.addrOf setAdd
  refine wpAny_bind (wpAny_pure ?_)
  try dsimp only
  refine wpAny_bind (wpAny_pure ?_)
  try dsimp only
  refine wpAny_bind ?_
  refine wpAny_holding ?_
  refine wpAny_bind (wpAny_pyHash_tuple (show Y.A.units + 1 < cLine by omega) hb ?_)
  refine add_at (s := { s with toks := s.toks + (k.length + 1) }) R hb (show Y.A.units + 1 < cLine by omega) hl fun b' h' L' es' ep' t' sb R' c1 c2 => ?_
  show wpAny _ _ (ret Value.none) _ _ _
  have he : ∃ u, h'.get? D = some u := by
    obtain ⟨o, ho, _⟩ := R'.ob
    exact ⟨o, ho⟩
  exact wpAny_pure ⟨_, rfl, fin _ _ (I.write (e := D) (t' := s.toks + (k.length + 1)) (by rw [e]; trivial) (.inl rfl) (fun b u hb hu => (sb.2 b hb).trans hu) he (setTO_new R'.t0)) (n L' c1 c2)⟩
end Mp
end
section
set_option maxRecDepth 100000
set_option maxHeartbeats 4000000
namespace PySem.W
open PySem PySem.Calls PyProof.Rows
section
variable {prog : Program} {w : World} {A : Around} {E : Value → Shared → Prop} {s : Shared} {β : Type} {bs : List β} {R : Value → β → Prop} {enc : β → PyData}
end
end PySem.W
end
section
set_option maxRecDepth 100000
set_option maxHeartbeats 1000000
namespace Mp
open PySem PySem.Spec PyProof.Rows L2
def kP (k : List Int) : PV := .tup (k.map .int)
abbrev eS (p : Addr × List Int) : PyData := toD (kP p.2)
end Mp
end
section
set_option maxRecDepth 100000
set_option maxHeartbeats 4000000
namespace Mp
open PySem PySem.Spec PyProof.Rows L2
theorem Rel.putMxS {K : PySem.W.Frag} {tb : Tbs} {Mx : Addr → Prop} {W : List Addr} {σ : L2.St} {H : Hp} {env : MEnv} {st : Sto} {D : Addr} {o0 o1 : HO} (r : Rel K tb Mx W σ H env st) (hm : Mx D) (h0 : H D = some o0) (hn : ¬ TabLike o0) : Rel K tb Mx W σ (upd H D o1) env st := by
  have g : Grow (Mt Mx W env σ) (Mt Mx W env σ) W W H (upd H D o1) := ⟨fun b u h n _ => by rw [upd_ne (fun z => n (.inr (.inl (by rw [z]; exact hm))))]; exact h, fun b _ n => n, List.prefix_refl _⟩
  refine ⟨fun P hP => (r.tab P hP).keep fun b o h t => ?_, fun b h => ?_, r.nd, r.wo, r.om, r.inj, r.el, r.len, fun j q u h1 h2 => (r.sto j q u h1 h2).grow g fun x hx _ => ?_, fun j u h => ?_, fun j u h => ?_⟩
  · rw [upd_ne (fun z => by rw [z, h0] at h; cases h; exact hn t)]; exact h
  · by_cases q : b = D
    · rw [q, upd_same]; simp
    · rw [upd_ne q]; exact r.mx b h
  · rw [upd_ne (fun z => (r.wo q (List.mem_of_getElem? h1)).1 (by rw [z]; exact hm))]; exact hx
  · obtain ⟨x, e2, rf⟩ := r.pv j u h
    exact ⟨x, e2, RF.grow g _ rf⟩
  · obtain ⟨x, e2, rf⟩ := r.own j u h
    exact ⟨x, e2, rf.grow g fun y hy _ => by rw [upd_ne (fun z => r.om x ⟨j, u, h, e2⟩ (by rw [z]; exact hm))]; exact hy⟩
section
variable {X : Cx} {tb : Tbs} {Wx : WX} {kx tg iter : Expr} {ifs : List Expr} {sc : Scope} {own : List (Str × Nat)} {pos : Pos} {mi : AM} {g : PV → MEnv → Option MEnv} {tc : TM} {mk : EM} {is vs : List Nat}
end
end Mp
end
section
set_option maxRecDepth 100000
set_option maxHeartbeats 4000000
namespace L2
open PySem PySem.Spec PyProof.Rows
section
variable {P : Program} {w : World} {h : Heap} {a : Addr} {L : List (Addr × List Int)}
end
section
variable {P : Program} {w : World} {A : Around} {E : Value → Shared → Prop} {s : Shared} {a : Addr} {L : List (Addr × List Int)} {es : Array (Int × Value)} {ep : Nat} {t : SetTable}
end
end L2
namespace Mp
open PySem PySem.Spec PyProof.Rows L2
section
variable {X : Cx} {tb : Tbs} {Wx : WX} {kx tg iter : Expr} {ifs : List Expr} {sc : Scope} {own : List (Str × Nat)} {pos : Pos} {mi : AM} {g : PV → MEnv → Option MEnv} {tc : TM} {mk : EM} {is vs : List Nat}
end
end Mp
end
section
set_option maxRecDepth 100000
set_option maxHeartbeats 1000000
namespace Mp
open PySem PySem.Spec PyProof.Rows L2
section
variable {prog : Program} {w : World} {A : Around} {R : Result → Shared → Prop} {s : Shared} {elt t0 i0 t1 i1 : Expr} {ifs0 ifs1 : List Expr} {scope : Scope} {pos : Pos} {it acc : Value} {env : Env}
end
section
variable {X : Cx}
end
end Mp
end
section
set_option maxRecDepth 100000
set_option maxHeartbeats 1000000
namespace Mp
open PySem PySem.Spec PyProof.Rows L2
def SetIO (w : World) (a : Addr) (S : Int → Bool) (n : Nat) : HO := .ext fun h => SetR w h a S n
theorem setI_code {w : World} {p : Addr} {S : Int → Bool} {n : Nat} {c : Addr} {q : Str} (e : SetIO w p S n = LamX.CodeO c q) : False := by
  have e' : (fun h => SetR w h p S n) = fun h => ∃ (oc : Obj) (vs : Array Value) (t : Tok), h.get? c = some oc ∧ oc.data = .fields vs ∧ vs[1]? = some (.str q t) := HO.ext.inj e
  have hp : ∀ b : Nat, b < max c p + 1 → ({ objs := Array.replicate (max c p + 1) { cls := .none, data := .fields #[.none, .str q 0] } } : Heap).get? b = some { cls := .none, data := .fields #[.none, .str q 0] } := fun b hb => by
    unfold Heap.get?; simp [hb]
  have y := congrFun e' ({ objs := Array.replicate (max c p + 1) { cls := .none, data := .fields #[.none, .str q 0] } } : Heap)
  have y2 : SetR w ({ objs := Array.replicate (max c p + 1) { cls := .none, data := .fields #[.none, .str q 0] } } : Heap) p S n := by
    rw [y]; exact ⟨_, _, 0, hp c (by omega), rfl, rfl⟩
  obtain ⟨o, es, ep, t, h1, _, h2, _⟩ := y2
  rw [hp p (by omega)] at h1
  cases h1
  exact nomatch h2
theorem noTbl_setI {w : World} {p : Addr} {S : Int → Bool} {n : Nat} : NoTbl (SetIO w p S n) := fun ps e => nomatch e
theorem setI_noTab {w : World} {p : Addr} {S : Int → Bool} {n : Nat} : ¬ TabLike (SetIO w p S n) := by
  rintro (⟨_, t⟩ | ⟨_, _, t⟩)
  · unfold SetIO at t; cases t
  · exact setI_code t
theorem rev_ind {α : Type} {P : List α → Prop} (h0 : P []) (h1 : ∀ l x, P l → P (l ++ [x])) (l : List α) : P l := by
  rw [← List.reverse_reverse l]
  generalize l.reverse = r
  induction r with
  | nil => exact h0
  | cons x r ih => rw [List.reverse_cons]; exact h1 _ _ ih
def dI (ks : List Int) : List Int := ks.foldl (fun acc x => if x ∈ acc then acc else acc ++ [x]) []
theorem dI_snoc (ks : List Int) (k : Int) : dI (ks ++ [k]) = if k ∈ dI ks then dI ks else dI ks ++ [k] := by
  unfold dI; rw [List.foldl_append]; rfl
theorem dI_mem (ks : List Int) (j : Int) : j ∈ dI ks ↔ j ∈ ks := by
  induction ks using rev_ind with
  | h0 => simp [dI]
  | h1 ks k ih =>
    rw [dI_snoc]
    split
    · rename_i h; rw [ih, List.mem_append, List.mem_singleton]
      constructor
      · exact .inl
      · rintro (z | z)
        · exact z
        · subst z; exact ih.mp h
    · rw [List.mem_append, List.mem_append, ih]
def iSort (ks : List Int) : List Int := (dI ks).mergeSort fun a b => decide (a ≤ b)
section
variable {w : World} {K : PySem.W.Frag} {mg : Str → Option Value} {tb : Tbs} {Mx : Addr → Prop} {W W' W1 : List Addr} {σ : L2.St} {H H' H1 : Hp} {env : MEnv} {st st' : Sto} {D : Addr}
structure SiI (w : World) (K : PySem.W.Frag) (tb : Tbs) (Mx : Addr → Prop) (D : Addr) (W1 : List Addr) (H1 : Hp) (σ : L2.St) (env : MEnv) (W' : List Addr) (H' : Hp) (st' : Sto) (acc : List Int) : Prop where
  rel : Rel K tb (fun b => Mx b ∨ b = D) W' σ H' env st'
  kb : KB W1 H1 No W' H' No
  acc : H' D = some (SetIO w D (fun j => decide (j ∈ acc)) (dI acc).length)
theorem SiI.stp {env1 : MEnv} {σ1 : L2.St} {W2 : List Addr} {H2 : Hp} {s2 : Sto} {acc : List Int} (l : SiI w K tb Mx D W1 H1 σ env W' H' st' acc) (a : Stp K tb (fun b => Mx b ∨ b = D) env σ W' H' W2 H2 s2) : SiI w K tb Mx D W1 H1 σ env W2 H2 s2 acc := by
  have nD : D ∉ W' := fun z => (l.rel.wo D z).1 (.inr rfl)
  exact ⟨a.rel, l.kb.trans a.kb, a.kp D _ l.acc nD noTbl_setI⟩
theorem SiI.turn {env1 : MEnv} {σ1 : L2.St} {acc : List Int} (l : SiI w K tb Mx D W1 H1 σ env W' H' st' acc) (r : Rel K tb (fun b => Mx b ∨ b = D) W' σ1 H' env1 st') (om : ∀ p, Om env1 σ1 p → Om env σ p) : SiI w K tb Mx D W1 H1 σ1 env1 W' H' st' acc :=
  ⟨r, l.kb, l.acc⟩
theorem setI_step (acc : List Int) (k : Int) : SetIO w D (fun j => decide (j ∈ acc) || decide (j = k)) (if decide (k ∈ acc) = true then (dI acc).length else (dI acc).length + 1) = SetIO w D (fun j => decide (j ∈ acc ++ [k])) (dI (acc ++ [k])).length := by
  have e1 : (fun j => decide (j ∈ acc) || decide (j = k)) = fun j => decide (j ∈ acc ++ [k]) := by
    funext j; simp [List.mem_append]
  have e2 : (if decide (k ∈ acc) = true then (dI acc).length else (dI acc).length + 1) = (dI (acc ++ [k])).length := by
    rw [dI_snoc]
    by_cases h : k ∈ acc
    · rw [if_pos (decide_eq_true h), if_pos ((dI_mem acc k).mpr h)]
    · rw [if_neg (by simpa using h), if_neg (fun z => h ((dI_mem acc k).mp z)), List.length_append]; rfl
  rw [e1, e2]
theorem SiI.push {acc : List Int} {k : Int} (hD : H1 D = none) (l : SiI w K tb Mx D W1 H1 σ env W' H' st' acc) :
    SiI w K tb Mx D W1 H1 σ env W' (upd H' D (SetIO w D (fun j => decide (j ∈ acc) || decide (j = k)) (if decide (k ∈ acc) = true then (dI acc).length else (dI acc).length + 1))) st' (acc ++ [k]) := by
  refine ⟨l.rel.putMxS (.inr rfl) l.acc setI_noTab, ⟨fun b o h n1 n2 t => by rw [upd_ne (fun z => by rw [z, hD] at h; cases h)]; exact l.kb.kp b o h n1 n2 t, fun b h => ?_, l.kb.pre, l.kb.fr, fun _ h => h.elim⟩, by rw [upd_same, setI_step]⟩
  by_cases q : b = D
  · rw [q, upd_same]; simp
  · rw [upd_ne q]; exact l.kb.nt b h
end
section
variable {K : PySem.W.Frag} {mg : Str → Option Value} {tb : Tbs} {Wx : WX} {mi mi1 : AM} {g g1 : PV → MEnv → Option MEnv} {tc tc1 : TM} {me : EM} {is is1 vs vs1 : List Nat}
end
section
variable {X : Cx} {tb : Tbs} {Wx : WX} {elt tg iter tg1 iter1 : Expr} {ifs ifs1 : List Expr} {scope : Scope} {own : List (Str × Nat)} {pos : Pos} {mi mi1 : AM} {g g1 : PV → MEnv → Option MEnv} {tc tc1 : TM} {me : EM} {is is1 vs1 : List Nat}
end
end Mp
end
section
set_option maxRecDepth 100000
set_option maxHeartbeats 1000000
namespace Mp
open PySem PySem.Spec PyProof.Rows L2
section
variable {X : Cx} {tb : Tbs} {Wx : WX} {a b : Expr} {ma mb m : EM} {pos : Pos} {i : Nat}
end
end Mp
end
section
set_option maxRecDepth 100000
set_option maxHeartbeats 1000000
namespace Mp
open PySem PySem.Spec PyProof.Rows L2
section
variable {K : PySem.W.Frag} {tb : Tbs} {Mx : Addr → Prop} {W W' : List Addr} {σ : L2.St} {H H' : Hp} {env : MEnv} {st st' : Sto}
theorem Rel.toStoO {p : Addr} {o : PO} (nm : ¬ Mx p) (r : Rel K tb (fun b => Mx b ∨ b = p) W' σ H' env st') (ro : RO K (Mt (fun b => Mx b ∨ b = p) W' env σ) W' H' o p) :
    Rel K tb Mx (W' ++ [p]) σ H' env (st' ++ [o]) := by
  have nw : p ∉ W' := fun z => (r.wo p z).1 (.inr rfl)
  have g : Grow (Mt (fun b => Mx b ∨ b = p) W' env σ) (Mt Mx (W' ++ [p]) env σ) W' (W' ++ [p]) H' H' := ⟨fun b o h _ _ => h, fun b _ n z => by
    rcases z with z | z | z
    · rcases List.mem_append.mp z with z | z
      · exact n (.inl z)
      · exact n (.inr (.inl (.inr (List.mem_singleton.mp z))))
    · exact n (.inr (.inl (.inl z)))
    · exact n (.inr (.inr z)), List.prefix_append _ _⟩
  refine ⟨r.tab, fun b h => r.mx b (.inl h), ?_, fun q hq => ?_, fun q hq z => r.om q hq (.inl z), r.inj, r.el, by simp [r.len], fun i q o h1 h2 => ?_, fun i v h => ?_, fun i o h => ?_⟩
  · rw [List.nodup_append]
    exact ⟨r.nd, by simp, fun a ha b hb => by rw [List.mem_singleton.mp hb]; exact fun z => nw (z ▸ ha)⟩
  · rcases List.mem_append.mp hq with z | z
    · exact ⟨fun y => (r.wo q z).1 (.inl y), (r.wo q z).2⟩
    · rw [List.mem_singleton.mp z]
      exact ⟨nm, fun y => r.om p y (.inr rfl)⟩
  · by_cases hi : i < W'.length
    · rw [List.getElem?_append_left hi] at h1
      rw [List.getElem?_append_left (by rw [← r.len]; exact hi)] at h2
      exact (r.sto i q o h1 h2).grow g (fun _ e _ => e)
    · have hi : W'.length ≤ i := Nat.not_lt.mp hi
      rw [List.getElem?_append_right hi] at h1
      rw [List.getElem?_append_right (by rw [← r.len]; exact hi), ← r.len] at h2
      obtain ⟨n, hn⟩ : ∃ n, i - W'.length = n := ⟨_, rfl⟩
      rw [hn] at h1 h2
      cases n with
      | zero =>
        simp at h1 h2
        subst h1 h2
        exact ro.grow g (fun _ e _ => e)
      | succ n => simp at h1
  · obtain ⟨w, e1, e2⟩ := r.pv i v h
    exact ⟨w, e1, RF.grow g _ e2⟩
  · obtain ⟨q, e1, e2⟩ := r.own i o h
    exact ⟨q, e1, e2.grow g (fun _ e _ => e)⟩
theorem grow_putSto {n : Nat} {u : HO} {p : Addr} (hp : W[n]? = some p) : Grow (Mt Mx W env σ) (Mt Mx W env σ) W W H (upd H p u) :=
  ⟨fun b o h nm _ => by rw [upd_ne (fun z => nm (.inl (by rw [z]; exact List.mem_of_getElem? hp)))]; exact h, fun b _ n => n, List.prefix_refl _⟩
theorem Rel.putStoO {n : Nat} {o : PO} {u : HO} {p : Addr} (r : Rel K tb Mx W σ H env st) (hp : W[n]? = some p) (ro : RO K (Mt Mx W env σ) W (upd H p u) o p) :
    Stp K tb Mx env σ W H W (upd H p u) (st.set n o) := by
  have hm : p ∈ W := List.mem_of_getElem? hp
  obtain ⟨hn, _⟩ := List.getElem?_eq_some_iff.mp hp
  have hns : n < st.length := by rw [← r.len]; exact hn
  have kp : ∀ b v, H b = some v → b ∉ W → upd H p u b = some v := fun b v h n => by rw [upd_ne (a := p) (b := b) (fun z => n (by rw [z]; exact hm))]; exact h
  have nt : ∀ b, H b ≠ none → upd H p u b ≠ none := fun b h => by
    by_cases q : b = p
    · rw [q, upd_same]; simp
    · rw [upd_ne q]; exact h
  have g : Grow (Mt Mx W env σ) (Mt Mx W env σ) W W H (upd H p u) := grow_putSto hp
  refine ⟨⟨fun P hP => ?_, fun b h => nt b (r.mx b h), r.nd, r.wo, r.om, r.inj, r.el, by simp [r.len], fun j q v h1 h2 => ?_, fun j v h => ?_, fun j v h => ?_⟩, fun b v h n _ => kp b v h n, nt, List.prefix_refl _, fun _ h => .inl h⟩
  · refine (r.tab P hP).keep fun b o h t => ?_
    rw [upd_ne (fun z => r.wL hm o (by rw [← z]; exact h) t)]
    exact h
  · by_cases q' : n = j
    · subst q'
      rw [hp] at h1; cases h1
      rw [List.getElem?_set_self hns] at h2; cases h2
      exact ro
    · rw [List.getElem?_set_ne q'] at h2
      refine (r.sto j q v h1 h2).grow g fun x hx _ => ?_
      rw [upd_ne (fun z => by
        subst z
        exact q' ((List.getElem?_inj hn r.nd).mp (hp.trans h1.symm)))]
      exact hx
  · obtain ⟨x, e2, rf⟩ := r.pv j v h
    exact ⟨x, e2, RF.grow g _ rf⟩
  · obtain ⟨x, e2, rf⟩ := r.own j v h
    exact ⟨x, e2, rf.grow g fun y hy _ => kp x y hy fun z => (r.wo x z).2 ⟨j, v, h, e2⟩⟩
end
section
variable {X : Cx} {tb : Tbs} {Wx : WX} {kx vx tg iter : Expr} {ifs : List Expr} {sc : Scope} {own : List (Str × Nat)} {pos : Pos} {mi : AM} {g : PV → MEnv → Option MEnv} {tc : TM} {mk mv : EM} {is vs : List Nat}
end
end Mp
end
section
set_option maxRecDepth 100000
set_option maxHeartbeats 1000000
namespace Mp
open PySem PySem.Spec PyProof.Rows L2
def rInD (K : PySem.W.Frag) : R2 := fun x y H Q => ∃ (M : Addr → Prop) (p : Addr) (ks : List (List Int)) (as : List Addr) (ws : List V) (k : List Int) (b : Addr), x = .ref b ∧ FzT K M H b (k.map V.int) ∧ y = .ref p ∧ H p = some (dctO p ks as ws) ∧ KsOk K M H ks as ∧ Q (.bl (decide (k ∈ ks))) H
theorem op_inD {X : Cx} (hu : X.A.units + 65 < cLine) : OpR X (compareOp .In) (rInD X.K) := by
  intro pins s σ H x y v u Q I rx ry h
  obtain ⟨M, p, ks, as, ws, k, b, rfl, fz, rfl, e, ko, q⟩ := h
  cases (show v = Value.ref b from rx)
  cases (show u = Value.ref p from ry)
  obtain ⟨hd, _, xs, e1, _, _, dd⟩ := dct_of I e ko
  refine wpAny_in_heap (knd := tupleKind (PySem.intKind X.prog X.w)) (tupleKind_room_in1 (by omega)) (fzT_key I fz) hd dd ?_
  rw [atKey_some, e1]
  exact ⟨.bl _, H, I.tok _, rfl, q⟩
section
variable {X : Cx} {tb : Tbs} {Wx : WX} {a b : Expr} {mk md m : EM} {pos : Pos} {i : Nat}
end
def dropP {α : Type} (k : List Int) : List (List Int) → List α → List α
  | q :: ks, v :: vs => if q = k then dropP k ks vs else v :: dropP k ks vs
  | _, _ => []
def dropK1 (k : List Int) (ks : List (List Int)) : List (List Int) := ks.filter fun q => decide (q ≠ k)
end Mp
end
section
set_option maxRecDepth 100000
set_option maxHeartbeats 1000000
namespace Mp
open PySem PySem.Spec PyProof.Rows L2
section
variable {X : Cx} {o e : Expr} {es : List Expr} {to : TE} {t : TA} {name : Str} {apos cpos : Pos} {id : String} {r : V → List V → Hp → VK → Prop}
end
theorem KsOk.drop {K : PySem.W.Frag} {M : Addr → Prop} {H : Hp} {k : List Int} : ∀ {ks : List (List Int)} {as : List Addr}, KsOk K M H ks as → KsOk K M H (dropK1 k ks) (dropP k ks as)
  | [], as, h => rfl
  | q :: ks, as, ⟨a, r, e, h1, h2⟩ => by
    subst e
    have ih := KsOk.drop (k := k) h2
    unfold dropK1 at *
    by_cases c : q = k
    · simpa [c, dropP] using ih
    · have : KsOk K M H (q :: ks.filter fun q => decide (q ≠ k)) (a :: dropP k ks r) := ⟨a, _, rfl, h1, ih⟩
      simpa [c, dropP] using this
section
variable {X : Cx} {tb : Tbs} {Wx : WX} {mk : EM} {i : Nat}
end
end Mp
end
section
set_option maxRecDepth 100000
set_option maxHeartbeats 1000000
namespace Mp
open PySem PySem.Spec PyProof.Rows L2
section
variable {X : Cx} {tb : Tbs} {Wx : WX} {mo : EM} {e : Expr}
end
end Mp
end
section
set_option maxRecDepth 100000
set_option maxHeartbeats 1000000
namespace Mp
open PySem PySem.Spec PyProof.Rows L2
section
variable {prog : Program} {w : World} {A : Around} {E : Value → Shared → Prop} {s : Shared}
end
def tNewE : TE := fun _ H Q => ∀ p, H p = none → Q (.ref p) (upd H p (dctO p [] [] []))
theorem pe_newE {X : Cx} {pos : Pos} : PE X (.Dict [] [] pos) tNewE := ⟨fun pins s σ H Q I h =>
  wpAny_Dict_empty ⟨.ref s.heap.objs.size, _, I.laid (a := s.heap.objs.size) (o := dctO s.heap.objs.size [] [] []) (t' := s.toks) (fun _ _ q => Heap.get?_push_of_some _ q) (Nat.le_refl _) (dctO_ok (P := X.prog) (w := X.w) (new_dct (P := X.prog) (w := X.w) s.heap H I.big).1), rfl, h _ (I.hok.fresh (Nat.le_refl _))⟩⟩
end Mp
end
section
set_option maxRecDepth 100000
set_option maxHeartbeats 1000000
namespace Mp
open PySem PySem.Spec PyProof.Rows L2
def mDct0 : EM := fun env st => .ok (.ref st.length) (st ++ [.dct [] []])
theorem e_dct0 {X : Cx} {tb : Tbs} {Wx : WX} {pos : Pos} : EOk X tb Wx .F (.Dict [] [] pos) mDct0 := PE_mono pe_newE fun σ H Q ⟨Mx, W, env, st, rel, post⟩ p hp => by
  have nm : ¬ Mx p := fun z => rel.mx p z hp
  have r2 := rel.new hp (noTbl_dct (p := p) (ks := []) (as := []) (ws := []))
  have rS := Rel.toStoO (o := .dct [] []) nm r2 ⟨[], [], upd_same, rfl, RFs.nil⟩
  have kp : ∀ b o, H b = some o → upd H p (dctO p [] [] []) b = some o := fun b o h => by rw [upd_ne (fun z => by rw [z, hp] at h; cases h)]; exact h
  refine post (W ++ [p]) _ (.ref p) ⟨rS, fun b o h _ _ => kp b o h, fun b h => ?_, List.prefix_append _ _, fun b hb => ?_⟩ ?_
  · by_cases q : b = p
    · rw [q, upd_same]; simp
    · rw [upd_ne q]; exact h
  · rcases List.mem_append.mp hb with z | z
    · exact .inl z
    · rw [List.mem_singleton.mp z]; exact .inr hp
  · show RF X.K (Mt Mx (W ++ [p]) env σ) (W ++ [p]) (upd H p (dctO p [] [] [])) (.ref st.length) (.ref p)
    unfold RF
    refine ⟨p, rfl, ?_⟩
    rw [← rel.len]
    simp
end Mp
end
section
set_option maxRecDepth 100000
set_option maxHeartbeats 1000000
namespace Mp
open PySem PySem.Spec PyProof.Rows L2
end Mp
end
section
set_option maxRecDepth 100000
set_option maxHeartbeats 4000000
namespace Mp
open PySem PySem.Calls PyProof.Rows
section
variable {prog : Program} {w : World} {A : Around} {z TI TO i1 i2 l1 l2 S : Addr} {xs ys : Array Value}
def ZSt (z TI TO i1 i2 l1 l2 S : Addr) (xs ys : Array Value) (i : Nat) (h : Heap) : Prop :=
  (∃ oO, h.get? TO = some oO) ∧ IsPair h TI (.ref i1) (.ref i2) ∧ h.IsListIter i1 l1 i ∧ h.IsListIter i2 l2 i ∧ h.IsList l1 xs ∧ h.IsList l2 ys ∧
    ((IsZip h z TI TO .none ∧ ∃ a b, IsPair h TO a b) ∨ ∃ T f oT, IsZipHeld h z TI TO T f ∧ h.get? T = some oT ∧ T ≠ z ∧ T ≠ i1 ∧ T ≠ i2 ∧ T ≠ S)
structure ZOff (z TI TO i1 i2 l1 l2 S : Addr) : Prop where
  z : S ≠ z
  TI : S ≠ TI
  TO : S ≠ TO
  i1 : S ≠ i1
  i2 : S ≠ i2
  l1 : S ≠ l1
  l2 : S ≠ l2
theorem ZSt.frame {i : Nat} {h h' : Heap} (O : ZOff z TI TO i1 i2 l1 l2 S) (st : ZSt z TI TO i1 i2 l1 l2 S xs ys i h) (hk : ∀ b o, b ≠ S → h.get? b = some o → h'.get? b = some o) : ZSt z TI TO i1 i2 l1 l2 S xs ys i h' := by
  obtain ⟨⟨oO, hO⟩, hTI, h1, h2, hl1, hl2, hz⟩ := st
  refine ⟨⟨oO, hk _ _ (Ne.symm O.TO) hO⟩, hk _ _ (Ne.symm O.TI) hTI, h1.at fun o e => hk _ o (Ne.symm O.i1) e, h2.at fun o e => hk _ o (Ne.symm O.i2) e, hl1.at fun o e => hk _ o (Ne.symm O.l1) e, hl2.at fun o e => hk _ o (Ne.symm O.l2) e, ?_⟩
  rcases hz with ⟨hz, a, b, hTO⟩ | ⟨T, f, oT, hz, hT, r1, r2, r3, r4⟩
  · exact .inl ⟨hk _ _ (Ne.symm O.z) hz, a, b, hk _ _ (Ne.symm O.TO) hTO⟩
  · exact .inr ⟨T, f, oT, hk _ _ (Ne.symm O.z) hz, hk _ _ r4 hT, r1, r2, r3, r4⟩
theorem ZSt.item {i : Nat} {s₁ : Shared} {Q₁ : Option Value → Shared → Prop} {E₁ : Value → Shared → Prop} (D : ZipApart z TI TO i1 i2 l1 l2) (hi : i < min xs.size ys.size) (st : ZSt z TI TO i1 i2 l1 l2 S xs ys i s₁.heap) (hds : S < s₁.heap.objs.size)
    (hQ : ∀ x y h', xs[i]? = some x → ys[i]? = some y → IsPair h' s₁.heap.objs.size x y → ZSt z TI TO i1 i2 l1 l2 S xs ys (i + 1) h' → (∀ b o, b ≠ z → b ≠ TO → b ≠ i1 → b ≠ i2 → s₁.heap.get? b = some o → h'.get? b = some o) → Q₁ (some (.ref s₁.heap.objs.size)) { s₁ with heap := h' }) :
    wpAny (model prog w) A (pyNext (.ref z)) Q₁ E₁ s₁ := by
  obtain ⟨⟨oO, hO⟩, hTI, h1, h2, hl1, hl2, hz⟩ := st
  have hix : i < xs.size := Nat.lt_of_lt_of_le hi (Nat.min_le_left ..)
  have hiy : i < ys.size := Nat.lt_of_lt_of_le hi (Nat.min_le_right ..)
  have ex := Array.getElem?_eq_getElem hix
  have ey := Array.getElem?_eq_getElem hiy
  have lt : ∀ {c o}, s₁.heap.get? c = some o → s₁.heap.objs.size ≠ c := fun e => Nat.ne_of_gt (Heap.lt_size e)
  have n1 : s₁.heap.objs.size ≠ i1 := let ⟨_, e, _⟩ := h1; lt e
  have n2 : s₁.heap.objs.size ≠ i2 := let ⟨_, e, _⟩ := h2; lt e
  rcases hz with ⟨hz, a, b, hTO⟩ | ⟨T, f, oT, hz, hT, r1, r2, r3, r4⟩
  · refine wpAny_pyNext_zip_item D hz hTI hTO h1 h2 hl1 hl2 ex ey fun h' a1 a2 a3 a4 a5 a6 hk => ?_
    exact hQ _ _ h' ex ey a5
      ⟨⟨_, a2⟩, hk _ _ D.TIz D.TITO D.TIi1 D.TIi2 hTI, a3, a4, hl1.at fun o e => hk _ o D.l1z D.l1TO D.l1i1 D.l1i2 e, hl2.at fun o e => hk _ o D.l2z D.l2TO D.l2i1 D.l2i2 e,
        .inr ⟨s₁.heap.objs.size, false, _, a1, a5, lt hz, n1, n2, Nat.ne_of_gt hds⟩⟩
      hk
  · refine wpAny_pyNext_zip_item_held D hz hT hTI h1 h2 hl1 hl2 ex ey fun h' a1 a3 a4 a5 a6 hk => ?_
    exact hQ _ _ h' ex ey a5
      ⟨⟨oO, hk _ _ D.TOz D.TOi1 D.TOi2 hO⟩, hk _ _ D.TIz D.TIi1 D.TIi2 hTI, a3, a4, hl1.at fun o e => hk _ o D.l1z D.l1i1 D.l1i2 e, hl2.at fun o e => hk _ o D.l2z D.l2i1 D.l2i2 e,
        .inr ⟨T, true, oT, a1, hk _ _ r1 r2 r3 hT, r1, r2, r3, r4⟩⟩
      fun b o b1 _ b3 b4 e => hk b o b1 b3 b4 e
theorem ZSt.done {s₁ : Shared} {Q₁ : Option Value → Shared → Prop} {E₁ : Value → Shared → Prop} (hA : A.handled = none) (D : ZipApart z TI TO i1 i2 l1 l2) (st : ZSt z TI TO i1 i2 l1 l2 S xs ys (min xs.size ys.size) s₁.heap)
    (hQ : ∀ h', (∀ b o, b ≠ z → b ≠ TO → b ≠ i1 → b ≠ i2 → s₁.heap.get? b = some o → h'.get? b = some o) → Q₁ none { s₁ with heap := h' }) : wpAny (model prog w) A (pyNext (.ref z)) Q₁ E₁ s₁ := by
  obtain ⟨⟨oO, hO⟩, hTI, h1, h2, hl1, hl2, hz⟩ := st
  have hend : xs[min xs.size ys.size]? = none ∨ ys[min xs.size ys.size]? = none := by
    rcases Nat.le_total xs.size ys.size with h | h
    · exact .inl (Array.getElem?_eq_none (by rw [Nat.min_eq_left h]; exact Nat.le_refl _))
    · exact .inr (Array.getElem?_eq_none (by rw [Nat.min_eq_right h]; exact Nat.le_refl _))
  rcases hz with ⟨hz, a, b, hTO⟩ | ⟨T, f, oT, hz, hT, r1, r2, r3, r4⟩
  · exact wpAny_pyNext_zip_end hA D hz hTI hTO h1 h2 hl1 hl2 hend fun h' hk => hQ h' hk
  · exact wpAny_pyNext_zip_end_held hA D hz hT hTI h1 h2 hl1 hl2 hend fun h' hk => hQ h' fun b o b1 _ b3 b4 e => hk b o b1 b3 b4 e
end
end Mp
namespace PySem.W
open PySem PySem.Calls PyProof.Rows
section
variable {prog : Program} {w : World} {A : Around} {E : Value → Shared → Prop} {s : Shared} {β : Type} {R : Value → β → Prop} {enc : β → PyData}
end
end PySem.W
namespace Mp
open PySem PySem.Spec PyProof.Rows L2
section
variable {X : Cx}
end
end Mp
end
section
set_option maxRecDepth 100000
set_option maxHeartbeats 1000000
namespace Mp
open PySem PySem.Spec PyProof.Rows L2
def cEq0 (a b : PV) : Option PV := match a, b with
  | .lst xs, .lst [] => some (.bl xs.isEmpty)
  | a, b => cEq a b
section
variable {X : Cx}
theorem opv_eq0 (hu : X.A.units + 64 < cLine) : OpV X (compareOp .Eq) cEq0 := by
  intro pins s σ H x y v u Q I rx ry h
  obtain ⟨M, W, a, b, r, hm, ra, rb, hg, q⟩ := id h
  unfold cEq0 at hg
  split at hg
  · rename_i xs
    cases hg
    obtain ⟨p, ws, rfl, h1, h2⟩ := RV.lst ra
    obtain ⟨p', ws', rfl, h1', h2'⟩ := RV.lst rb
    cases h2'.nil_inv
    cases (show v = Value.ref p from rx)
    cases (show u = Value.ref p' from ry)
    obtain ⟨its, rv, p1, _⟩ := I.list h1
    obtain ⟨its2, rv2, p2, _⟩ := I.list h1'
    have l2 : its2 = [] := List.eq_nil_of_length_eq_zero (by rw [← rv2.length]; rfl)
    subst l2
    have l1 : its.length = xs.length := by rw [← rv.length]; exact h2.len
    have fin := q H _ (.inl rfl) (rf_bl (K := X.K) (M := M) (W := W) (H := H) (i := xs.isEmpty))
    cases xs with
    | nil =>
      have : its = [] := List.eq_nil_of_length_eq_zero (by rw [l1]; rfl)
      subst this
      exact SeqAt.RcAt.lists (e := fun _ => true) p1.isList p2.isList rfl (by omega) (fun j h1 _ => absurd h1 (Nat.not_lt_zero _)) X.prog X.w _ _ ⟨.bl _, H, I, rfl, fin⟩
    | cons z zs =>
      exact SeqAt.RcAt.lists_lengths p1.isList p2.isList (by simp at l1 ⊢; intro e; rw [e] at l1; cases l1) (by omega) X.prog X.w _ _ ⟨.bl _, H, I, rfl, fin⟩
  · exact opv_eq hu pins s σ H x y v u Q I rx ry ⟨M, W, _, _, r, hm, ra, rb, hg, q⟩
end
end Mp
end
section
set_option maxRecDepth 100000
set_option maxHeartbeats 1000000
namespace Mp
open PySem PySem.Spec PyProof.Rows L2
section
variable {K : PySem.W.Frag} {M : Addr → Prop} {W : List Addr} {H : Hp}
end
section
variable {X : Cx} {tb : Tbs} {Wx : WX} {a b e o i v : Expr} {mk md mo mi mv : EM} {pos pos' : Pos}
end
end Mp
end
section
set_option maxRecDepth 100000
set_option maxHeartbeats 1000000
namespace Mp
open PySem PySem.Spec PyProof.Rows L2
section
variable {X : Cx} {tb : Tbs} {Wx : WX} {a b e o i v : Expr} {mk md mo mi mv : EM} {pos pos' : Pos}
end
end Mp
end
section
set_option maxRecDepth 100000
set_option maxHeartbeats 1000000
namespace Mp
open PySem PySem.Spec PyProof.Rows L2
section
variable {X : Cx} {tb : Tbs} {Wx : WX} {m : EM} {i : Nat}
end
end Mp
end
section
set_option maxRecDepth 100000
set_option maxHeartbeats 1000000
namespace Mp
open PySem PySem.Spec PyProof.Rows L2
section
variable {X : Cx} {tb : Tbs} {Wx : WX} {e : Expr} {md : EM} {pos p : Pos} {x : Str}
end
end Mp
end
section
set_option maxRecDepth 100000
set_option maxHeartbeats 1000000
namespace Mp
open PySem PySem.Spec PyProof.Rows L2
end Mp
end
section
set_option maxRecDepth 100000
set_option maxHeartbeats 1000000
namespace Mp
open PySem PySem.Spec PyProof.Rows L2
mutual
def noR : PV → Bool
  | .tup xs => noRs xs
  | .lst xs => noRs xs
  | .dct _ _ => false
  | .ref _ => false
  | .nti _ => false
  | _ => true
def noRs : List PV → Bool
  | [] => true
  | x :: xs => noR x && noRs xs
end
section
variable {K : PySem.W.Frag} {M M2 : Addr → Prop} {W W2 : List Addr} {H : Hp}
theorem FzT.less {q : Addr} {ws : List V} (hM : ∀ b, M2 b → M b) (h : FzT K M H q ws) : FzT K M2 H q ws := h.imp (fun h => ⟨h.1, fun z => h.2 (hM _ z)⟩) id
theorem FzL.less {q : Addr} {ws : List V} (hM : ∀ b, M2 b → M b) (h : FzL K M H q ws) : FzL K M2 H q ws := h.imp (fun h => ⟨h.1, fun z => h.2 (hM _ z)⟩) id
mutual
theorem RF.less (hM : ∀ b, M2 b → M b) : ∀ (v : PV) {w : V}, noR v = true → RF K M W H v w → RF K M2 W2 H v w
  | .non, _, _, h => by unfold RF at h ⊢; exact h
  | .bl b, _, _, h => by unfold RF at h ⊢; exact h
  | .int i, _, _, h => by unfold RF at h ⊢; exact h
  | .str s, _, _, h => by unfold RF at h ⊢; exact h
  | .tup xs, _, n, h => by
    unfold RF at h ⊢
    unfold noR at n
    obtain ⟨q, ws, e, h1, h2⟩ := h
    exact ⟨q, ws, e, h1.less hM, RFs.less hM xs n h2⟩
  | .lst xs, _, n, h => by
    unfold RF at h ⊢
    unfold noR at n
    obtain ⟨q, ws, e, h1, h2⟩ := h
    exact ⟨q, ws, e, h1.less hM, RFs.less hM xs n h2⟩
  | .ref n, _, z, h => by unfold noR at z; cases z
  | .fn x, _, _, h => by unfold RF at h ⊢; exact h
  | .dct ks vs, _, n, h => by unfold noR at n; cases n
  | .nti ns, _, n, h => by unfold noR at n; cases n
theorem RFs.less (hM : ∀ b, M2 b → M b) : ∀ (xs : List PV) {ws : List V}, noRs xs = true → RFs K M W H xs ws → RFs K M2 W2 H xs ws
  | [], _, _, h => by unfold RFs at h ⊢; exact h
  | x :: xs, _, n, h => by
    unfold noRs at n
    rw [Bool.and_eq_true] at n
    unfold RFs at h ⊢
    obtain ⟨w, r, e, h1, h2⟩ := h
    exact ⟨w, r, e, RF.less hM x n.1 h1, RFs.less hM xs n.2 h2⟩
end
end
section
variable {K : PySem.W.Frag} {tb : Tbs} {Mx : Addr → Prop} {W : List Addr} {σ : L2.St} {H : Hp} {env : MEnv} {st : Sto} {i : Nat} {xs : List PV}
end
end Mp
end
section
set_option maxRecDepth 100000
set_option maxHeartbeats 4000000
namespace Mp
open PySem PySem.Spec PyProof.Rows L2
end Mp
end
section
set_option maxRecDepth 100000
set_option maxHeartbeats 1000000
namespace Mp
open PySem PySem.Spec PyProof.Rows L2 GenW
section
variable {X Y : Cx} {Lp : Addr → Prop} {a : Nat} {gi : Nat} {Pn : Nat → List (Addr × Obj) → Prop} {sp : Nat → Bool} {Yd : Nat → V → Hp → Prop} {Fin : Hp → Prop} {r : Nat} {s : Shared}
end
end Mp
end
section
set_option maxRecDepth 100000
set_option maxHeartbeats 1000000
namespace Mp
open PySem PySem.Spec PyProof.Rows L2 GenW
section
variable {X : Cx} {s0 : Shared} {H0 : Hp} {scope : Scope} {C : Addr} {code : Value} {fp fp1 : List Addr} {elt tg iter tg1 iter1 : Expr} {ifs ifs1 : List Expr} {pos : Pos} {it it1 : Addr} {tn tn1 : Nat → Heap → Prop} {J J1 : It} {g g1 : TG} {tt tt1 : TT} {wi1 : TI} {te : TE} {vs vs1 : List Nat} {σ : L2.St}
  {Lp : Addr → Prop} {Pn : Nat → List (Addr × Obj) → Prop} {sp : Nat → Bool} {Yd : Nat → V → Hp → Prop} {Fin : Hp → Prop} {Nx : Nat → Hp → Prop} {W W1 : Nat → Nat → Nat → Hp → Prop} {cenv : Env}
end
end Mp
end
section
set_option maxRecDepth 100000
set_option maxHeartbeats 1000000
namespace Mp
open PySem PySem.Spec PyProof.Rows L2 GenW GxR
section
variable {M : Model} {A : Around} {E : Value → Shared → Prop} {s : Shared}
end
section
variable {X : Cx} {s0 : Shared} {H0 : Hp} {scope : Scope} {C : Addr} {code : Value} {fp fp1 : List Addr} {elt tg iter tg1 iter1 : Expr} {ifs ifs1 : List Expr} {pos : Pos} {it it1 : Addr} {tn tn1 : Nat → Heap → Prop} {J J1 : It} {g g1 : TG} {tt tt1 : TT} {wi1 : TI} {te : TE} {vs vs1 : List Nat} {σ : L2.St}
  {Lp : Addr → Prop} {Pn : Nat → List (Addr × Obj) → Prop} {sp : Nat → Bool} {Yd : Nat → V → Hp → Prop} {Fin : Hp → Prop} {Nx : Nat → Hp → Prop} {W W1 : Nat → Nat → Nat → Hp → Prop} {cenv : Env}
end
section
variable {X : Cx} {pins : List (Addr × Obj)} {σ : L2.St} {H : Hp} {s : Shared}
section
variable {c P : Addr} {elt tg iter tg1 iter1 : Expr} {ifs ifs1 : List Expr} {gpos p pos : Pos} {scope : Scope} {own : List (Str × Nat)} {wi wi1 : TI} {g g1 : TG} {tt tt1 : TT} {te : TE} {vs1 : List Nat}
end
end
end Mp
end
section
set_option maxRecDepth 100000
set_option maxHeartbeats 1000000
namespace Mp
open PySem PySem.Spec PyProof.Rows L2 GenW GxR
section
variable {K : PySem.W.Frag} {mg : Str → Option Value} {tb : Tbs} {Mx : Addr → Prop} {W1 : List Addr} {σ : L2.St} {H1 : Hp} {env : MEnv} {J : It} {g g1 : PV → MEnv → Option MEnv} {tc tc1 : TM} {mi1 : AM} {me : EM} {is is1 vs vs1 : List Nat} {xs ys : List PV} {s sF : Sto}
end
section
variable {X : Cx} {tb : Tbs} {Wx : WX} {elt tg iter tg1 iter1 : Expr} {ifs ifs1 : List Expr} {scope : Scope} {own : List (Str × Nat)} {p gpos pos : Pos} {mi mi1 : AM} {g g1 : PV → MEnv → Option MEnv} {tc tc1 : TM} {me : EM} {is is1 vs1 : List Nat} {c P : Addr}
end
end Mp
end
section
set_option maxRecDepth 100000
set_option maxHeartbeats 1000000
namespace Mp
open PySem PySem.Spec PyProof.Rows L2
section
variable {X : Cx} {tb : Tbs} {Wx : WX} {md mk mv mo m : EM} {e1 : Expr}
end
section
variable {X : Cx} {tb : Tbs} {Wx : WX} {ek ev : Expr} {mk mv : EM} {pos : Pos}
end
end Mp
end
section
set_option maxRecDepth 100000
set_option maxHeartbeats 1000000
namespace ZM
open PySem
open PySem.Sem (wp)
section
variable {prog : Program} {w : World} {A : Around} {E : Value → Shared → Prop} {s : Shared}
end
section
variable {prog : Program} {w : World} {A : Around} {E : Value → Shared → Prop} {s : Shared}
end
end ZM
namespace ZM
open PySem PySem.Spec PyProof.Rows L2
end ZM
end
section
set_option maxRecDepth 100000
set_option maxHeartbeats 1000000
namespace ZN
open PySem
open PySem.Sem (wp)
section
variable {prog : Program} {w : World} {A : Around} {E : Value → Shared → Prop} {s : Shared}
end
section
variable {prog : Program} {w : World} {A : Around} {E : Value → Shared → Prop} {s : Shared}
end
end ZN
namespace ZN
open PySem PySem.Spec PyProof.Rows L2
end ZN
end
section
set_option maxRecDepth 100000
set_option maxHeartbeats 1000000
namespace Mp
open PySem PySem.Spec PyProof.Rows L2 RZ
section
variable {K : PySem.W.Frag} {M : Addr → Prop} {W : List Addr} {H : Hp}
end
end Mp
end
section
set_option maxRecDepth 100000
set_option maxHeartbeats 1000000
namespace Mp
open PySem L2
abbrev Pt := Int × Int
def tp (p : Pt) : PV := .tup [.int p.1, .int p.2]
theorem pd_tp (n : Nat) (p : Pt) : pd (n + 1) (tp p) = true := by simp [tp, pd, pds]
theorem isD_tp (p : Pt) : isD (tp p) = true := pd_tp 59 p
theorem pds_tps (n : Nat) : ∀ xs : List Pt, pds (n + 1) (xs.map tp) = true
  | [] => by simp [pds]
  | x :: xs => by simp only [List.map_cons, pds, pd_tp, pds_tps n xs, Bool.and_self]
theorem isD_ttps (xs : List Pt) : isD (.tup (xs.map tp)) = true := by unfold isD pd; exact pds_tps 58 xs
theorem pvEq_int {i j : Int} : pvEq (.int i) (.int j) = decide (i = j) := by simp only [pvEq]; rfl
theorem pvEq_tp (p q : Pt) : pvEq (tp p) (tp q) = decide (p = q) := by
  obtain ⟨a, b⟩ := p; obtain ⟨c, d⟩ := q
  simp only [tp, pvEq, pvEqs, pvEq_int, Bool.and_true]
  by_cases h1 : a = c <;> by_cases h2 : b = d <;> simp [h1, h2]
theorem cEq_tp (p q : Pt) : cEq (tp p) (tp q) = some (.bl (decide (p = q))) := by unfold cEq; rw [isD_tp, isD_tp, pvEq_tp]; rfl
theorem cNe_tp (p q : Pt) : cNe (tp p) (tp q) = some (.bl (!decide (p = q))) := by unfold cNe; rw [isD_tp, isD_tp, pvEq_tp]; rfl
theorem pvIn_tps (p : Pt) : ∀ xs : List Pt, pvIn (tp p) (xs.map tp) = decide (p ∈ xs)
  | [] => by simp [pvIn]
  | x :: xs => by
    have := pvIn_tps p xs
    unfold pvIn at this ⊢
    rw [List.map_cons, List.any_cons, this, pvEq_tp]
    by_cases h : x = p
    · simp [h]
    · have : ¬ p = x := fun z => h z.symm
      by_cases h2 : p ∈ xs <;> simp [h, this, h2]
theorem cIn_ttps (p : Pt) (xs : List Pt) : cIn (tp p) (.tup (xs.map tp)) = some (.bl (decide (p ∈ xs))) := by simp only [cIn, isD_tp, isD_ttps, pvIn_tps]; rfl
def pLt (a b : Pt) : Bool := decide (a.1 < b.1) || (decide (a.1 = b.1) && decide (a.2 < b.2))
def pLe (a b : Pt) : Bool := !pLt b a
def srt (xs : List Pt) : List Pt := xs.mergeSort pLe
theorem pvLt_tp (a b : Pt) : pvLt (tp a) (tp b) = pLt a b := by
  unfold pLt tp
  simp only [pvLt, pvLts, pvEq]
  by_cases h1 : a.1 = b.1
  · by_cases h2 : a.2 = b.2
    · simp [h1, h2]
    · simp [h1, h2]
  · simp only [beq_eq_false_iff_ne.mpr h1, Bool.false_eq_true, if_false]
    by_cases h3 : a.1 < b.1 <;> simp [h1, h3]
theorem alk_tp (a b : Pt) : alk (tp a) (tp b) = true := by simp [tp, alk, alks]
theorem ordd_tp (a b : Pt) : ordd (tp a) (tp b) = true := by unfold ordd; rw [isD_tp, isD_tp, alk_tp]; rfl
end Mp
end
section
set_option maxRecDepth 100000
set_option maxHeartbeats 1000000
namespace Mp
open PySem L2
def bt (n : Nat) : Nat := n.log2 + 1
def fr (q : Rat) : PV := .tup [.int q.num, .int (q.den : Int)]
def sz (q : Rat) : Nat := max (bt q.num.natAbs) (bt q.den)
@[simp] theorem isiO_fr {T : String} (q : Rat) : isiO T (fr q) = some (.bl (isiB T (fr q))) := rfl
@[simp] theorem fr_ix0 (q : Rat) (s : Sto) : ixV s (fr q) (.int 0) = some (.int q.num) := rfl
@[simp] theorem fr_ix1 (q : Rat) (s : Sto) : ixV s (fr q) (.int 1) = some (.int q.den) := rfl
section
variable {a b : Rat} {st : Sto}
end
end Mp
end
section
set_option maxRecDepth 100000
set_option maxHeartbeats 1000000
namespace Mp
open PySem L2
theorem mComp_map {α : Type} {mi : AM} {gt : PV → MEnv → Option MEnv} {tc : TM} {me : EM} {vs : List Nat} {env : MEnv} {st : Sto} (f : α → PV) (p : α → Bool) (g : α → PV) (xs : List α) (hi : mi env st = .ok (xs.map f) st) (hn : noOwn vs env = true) (hl : xs.length ≤ 1000000)
    (h : ∀ a ∈ xs, ∃ e1, gt (f a) (killE vs env) = some e1 ∧ tc e1 st = .ok (p a) st ∧ (p a = true → me e1 st = .ok (g a) st)) : mComp mi gt tc me vs env st = .ok (.lst ((xs.filter p).map g)) st := by
  have C := compL_map (st := st) f p g xs h
  have hl' : (xs.map f).length ≤ 1000000 := by rw [List.length_map]; exact hl
  unfold mComp
  rw [hi, ev_bindR, hn]
  simp only [hl', decide_true, Bool.and_self, if_true, C, ev_bindX]
theorem mComp_all {α : Type} {mi : AM} {gt : PV → MEnv → Option MEnv} {me : EM} {vs : List Nat} {env : MEnv} {st : Sto} (f : α → PV) (g : α → PV) (xs : List α) (hi : mi env st = .ok (xs.map f) st) (hn : noOwn vs env = true) (hl : xs.length ≤ 1000000)
    (h : ∀ a ∈ xs, ∃ e1, gt (f a) (killE vs env) = some e1 ∧ me e1 st = .ok (g a) st) : mComp mi gt tYesM me vs env st = .ok (.lst (xs.map g)) st := by
  have := mComp_map (tc := tYesM) f (fun _ => true) g xs hi hn hl fun a ha => by
    obtain ⟨e1, h1, h2⟩ := h a ha
    exact ⟨e1, h1, rfl, fun _ => h2⟩
  rw [List.filter_eq_self.mpr (fun _ _ => rfl)] at this
  exact this
theorem rng1_ev {ms : AM} {env : MEnv} {st : Sto} {n : Nat} (h : ms env st = .ok [.int (n : Int)] st) (hn : n ≤ 1000000) : iRng1M ms env st = .ok ((List.range n).map fun (k : Nat) => .int (k : Int)) st := by
  have r : rgOk (n : Int) = true := by unfold rgOk; simp; omega
  rw [ev_rng1, h, ev_bindR]
  simp only [r, if_true, rangeL, Int.toNat_natCast, Int.zero_add]
theorem seq_ev {m : EM} {env : MEnv} {st : Sto} {xs : List PV} (h : m env st = .ok (.lst xs) st) : iSeq m env st = .ok xs st := by rw [ev_seqI, h]; rfl
theorem seqT_ev {m : EM} {env : MEnv} {st : Sto} {xs : List PV} (h : m env st = .ok (.tup xs) st) : iSeq m env st = .ok xs st := by rw [ev_seqI, h]; rfl
theorem for_ev {mi : AM} {gt : PV → MEnv → Option MEnv} {b : SM} {ks : List Nat} {env : MEnv} {st : Sto} {xs : List PV} (h : mi env st = .ok xs st) : sFor mi gt b ks env st = forL gt b ks xs env st := by rw [ev_for, h]; rfl
theorem ixNn {n i : Nat} (h : i < n) : ixN n (i : Int) = some i := by
  unfold ixN; simp [h]
theorem atIn {α : Type} {l : List α} {k : Nat} {v : α} (h : l[k]? = some v) : atI l (k : Int) = some v := by
  obtain ⟨hl, _⟩ := List.getElem?_eq_some_iff.mp h
  unfold atI
  rw [ixNn hl]
  exact h
theorem atIlast {α : Type} {l : List α} {v : α} (h : l[l.length - 1]? = some v) : atI l (-1) = some v := by
  obtain ⟨hl, _⟩ := List.getElem?_eq_some_iff.mp h
  unfold atI ixN
  rw [if_neg (by omega), if_pos (by omega)]
  have : ((-1 : Int) + (l.length : Int)).toNat = l.length - 1 := by omega
  rw [this]; exact h
theorem ixT {s : Sto} {l : List PV} {k : Nat} {v : PV} (h : l[k]? = some v) : ixV s (.tup l) (.int (k : Int)) = some v := atIn h
theorem lenL {s : Sto} {l : List PV} : bLen s [.lst l] = some (.int l.length) := rfl
theorem lenT {s : Sto} {l : List PV} : bLen s [.tup l] = some (.int l.length) := rfl
theorem cut_take {α : Type} (xs : List α) (n : Nat) : cutL xs none (some (n : Int)) = xs.take n := by
  unfold cutL
  simp only [HT.sIx_none, HT.sIx_nat, List.drop_zero, Nat.sub_zero]
  rw [List.take_eq_take_iff]; omega
theorem cut_drop {α : Type} (xs : List α) (n : Nat) : cutL xs (some (n : Int)) none = xs.drop n := by
  unfold cutL
  simp only [HT.sIx_none, HT.sIx_nat]
  by_cases h : n ≤ xs.length
  · rw [Nat.min_eq_left h, List.take_of_length_le (by rw [List.length_drop]; omega)]
  · rw [Nat.min_eq_right (by omega), List.drop_eq_nil_of_le (Nat.le_refl _), List.drop_eq_nil_of_le (by omega), List.take_nil]
theorem enumP_map {α : Type} (f : α → PV) (xs : List α) : enumP (xs.map f) = (xs.zipIdx 0).map fun p => .tup [.int (p.2 : Nat), f p.1] := by
  unfold enumP
  rw [List.zipIdx_map, List.map_map]
  rfl
theorem seq_ev2 {m : EM} {env : MEnv} {st st1 : Sto} {xs : List PV} (h : m env st = .ok (.lst xs) st1) : iSeq m env st = .ok xs st1 := by rw [ev_seqI, h]; rfl
theorem if_skip {t : TM} {a : SM} {env : MEnv} {st : Sto} (h : t env st = .ok false st) : sIf t a sNil env st = .nx env st := by rw [ev_if, h]; rfl
end Mp
end
section
set_option maxRecDepth 100000
set_option maxHeartbeats 1000000
namespace Ge
open PySem L2 Mp
def Bd (n : Int) (p : Pt) : Prop := -n ≤ p.1 ∧ p.1 ≤ n ∧ -n ≤ p.2 ∧ p.2 ≤ n
def ls (a b : Pt) : Pt := (a.1 - b.1, a.2 - b.2)
def crs (a b : Pt) : Int := a.1 * b.2 - a.2 * b.1
def dt (a b : Pt) : Int := a.1 * b.1 + a.2 * b.2
def sg (i : Int) : Int := Mp.bi (decide (0 < i)) - Mp.bi (decide (i < 0))
def d2 (a b : Pt) : Int := dt (ls a b) (ls a b)
def tr (a b c : Pt) : Int := crs (ls b a) (ls c a)
def mn (a b : Int) : Int := if b < a then b else a
def mx (a b : Int) : Int := if a < b then b else a
def inB (a b p : Pt) : Bool := (decide (mn a.1 b.1 ≤ p.1) && decide (p.1 ≤ mx a.1 b.1)) && (decide (mn a.2 b.2 ≤ p.2) && decide (p.2 ≤ mx a.2 b.2))
def onS (a b p : Pt) : Bool := decide (tr a b p = 0) && inB a b p
theorem sg0 (i : Int) : sg i = 0 ↔ i = 0 := by
  unfold sg Mp.bi
  by_cases h1 : 0 < i <;> by_cases h2 : i < 0 <;> simp [h1, h2] <;> omega
theorem Bd.ls {n m : Int} {a b : Pt} (h : Bd n a) (g : Bd m b) : Bd (n + m) (ls a b) := by
  unfold Bd Ge.ls at *; dsimp only; omega
theorem Bd.le {n m : Int} {a : Pt} (h : Bd n a) (k : n ≤ m) : Bd m a := by unfold Bd at *; omega
theorem minD_int (s : Sto) (a b : Int) : bMinD s [.int a, .int b] = some (.int (mn a b)) := by
  show (if (isL (.int a) || isL (.int b)) = true then none else pvMin [.int a, .int b]) = _
  rw [if_neg (by simp [isL])]
  have : mmOk [.int a, .int b] = true := by simp [mmOk, ordd_int]
  simp only [pvMin, this, if_true, List.foldl_cons, List.foldl_nil, mnF, pvLt, mn]
  by_cases h : b < a <;> simp [h]
theorem maxD_int (s : Sto) (a b : Int) : bMaxD s [.int a, .int b] = some (.int (mx a b)) := by
  show (if (isL (.int a) || isL (.int b)) = true then none else pvMax [.int a, .int b]) = _
  rw [if_neg (by simp [isL])]
  have : mmOk [.int a, .int b] = true := by simp [mmOk, ordd_int]
  simp only [pvMax, this, if_true, List.foldl_cons, List.foldl_nil, mxF, pvLt, mx]
  by_cases h : a < b <;> simp [h]
def mnP (a b : Pt) : Pt := if pLt b a then b else a
def mxP (a b : Pt) : Pt := if pLt a b then b else a
theorem minD_tp (s : Sto) (a b : Pt) : bMinD s [tp a, tp b] = some (tp (mnP a b)) := by
  show (if (isL (tp a) || isL (tp b)) = true then none else pvMin [tp a, tp b]) = _
  rw [if_neg (by simp [isL, tp])]
  have : mmOk [tp a, tp b] = true := by simp [mmOk, ordd_tp]
  simp only [pvMin, this, if_true, List.foldl_cons, List.foldl_nil, mnF, pvLt_tp, mnP]
  by_cases h : pLt b a = true <;> simp [h]
theorem maxD_tp (s : Sto) (a b : Pt) : bMaxD s [tp a, tp b] = some (tp (mxP a b)) := by
  show (if (isL (tp a) || isL (tp b)) = true then none else pvMax [tp a, tp b]) = _
  rw [if_neg (by simp [isL, tp])]
  have : mmOk [tp a, tp b] = true := by simp [mmOk, ordd_tp]
  simp only [pvMax, this, if_true, List.foldl_cons, List.foldl_nil, mxF, pvLt_tp, mxP]
  by_cases h : pLt a b = true <;> simp [h]
@[simp] theorem tp_ix0 (p : Pt) (s : Sto) : ixV s (tp p) (.int 0) = some (.int p.1) := rfl
@[simp] theorem tp_ix1 (p : Pt) (s : Sto) : ixV s (tp p) (.int 1) = some (.int p.2) := rfl
theorem sub_bl (a b : Bool) : pSub (.bl a) (.bl b) = some (.int (Mp.bi a - Mp.bi b)) := rfl
theorem tp_mk (a b : Int) : PV.tup [.int a, .int b] = tp (a, b) := rfl
theorem eChain_ev {env : MEnv} {g g' : PV → PV → Option PV} {ma mb mc : EM} {s : Sto} {x y z : PV} {k l : Bool} (h1 : ma env s = .ok x s) (h2 : mb env s = .ok y s) (h3 : mc env s = .ok z s) (e1 : g x y = some (.bl k)) (e2 : g' y z = some (.bl l)) : eChain g g' ma mb mc env s = .ok (.bl (k && l)) s := by
  unfold eChain
  rw [h1, ev_bindR, h2, ev_bindR, e1]
  cases k with
  | true => simp [h3, e2]
  | false => simp
theorem mnP_fst (a b : Pt) : (mnP a b).1 = mn a.1 b.1 := by
  unfold mnP mn pLt
  by_cases h1 : b.1 < a.1
  · simp [h1]
  · by_cases h2 : b.1 = a.1 <;> by_cases h3 : b.2 < a.2 <;> simp [h1, h2, h3]
theorem mxP_fst (a b : Pt) : (mxP a b).1 = mx a.1 b.1 := by
  unfold mxP mx pLt
  by_cases h1 : a.1 < b.1
  · simp [h1]
  · by_cases h2 : a.1 = b.1 <;> by_cases h3 : a.2 < b.2 <;> simp [h1, h2, h3]
theorem pLt_iff {a b : Pt} : pLt a b = true ↔ a.1 < b.1 ∨ (a.1 = b.1 ∧ a.2 < b.2) := by
  unfold pLt; simp
theorem pt_ext {a b : Pt} (h1 : a.1 = b.1) (h2 : a.2 = b.2) : a = b := Prod.ext h1 h2
theorem mul_mid {u t g : Int} (h0 : 0 ≤ t) (h1 : t ≤ g) : (0 ≤ u → 0 ≤ u * t ∧ u * t ≤ u * g) ∧ (u ≤ 0 → u * g ≤ u * t ∧ u * t ≤ 0) := by
  refine ⟨fun hu => ⟨Int.mul_nonneg hu h0, Int.mul_le_mul_of_nonneg_left h1 hu⟩, fun hu => ?_⟩
  have a1 := Int.mul_nonneg (show 0 ≤ -u by omega) h0
  have a2 := Int.mul_le_mul_of_nonneg_left h1 (show 0 ≤ -u by omega)
  rw [Int.neg_mul] at a1
  rw [Int.neg_mul, Int.neg_mul] at a2
  omega
end Ge
end
section
set_option maxRecDepth 100000
set_option maxHeartbeats 1000000
namespace Ge
open Mp
def xB (a b c d : Pt) : Bool := decide (sg (tr a b c) * sg (tr a b d) < 0) && decide (sg (tr c d a) * sg (tr c d b) < 0)
def meetB (a b c d : Pt) : Bool := xB a b c d || (onS a b c || (onS a b d || (onS c d a || onS c d b)))
theorem tr_turn (a b p : Pt) : tr b a p = -tr a b p := by unfold tr crs ls; dsimp only; grind
theorem mn_comm (a b : Int) : mn a b = mn b a := by unfold mn; split <;> split <;> omega
theorem mx_comm (a b : Int) : mx a b = mx b a := by unfold mx; split <;> split <;> omega
def wy (a b : Pt) : Pt := ls b a
def mu (a b c d : Pt) : Int := crs (wy a b) (wy c d)
def al (a b c d : Pt) : Int := crs (ls c a) (wy c d)
def X1 (a b c d : Pt) : Rat := Rat.divInt (a.1 * mu a b c d + (wy a b).1 * al a b c d) (mu a b c d)
def X2 (a b c d : Pt) : Rat := Rat.divInt (a.2 * mu a b c d + (wy a b).2 * al a b c d) (mu a b c d)
section
variable {a b c d : Pt}
end
end Ge
end
section
set_option maxRecDepth 100000
set_option maxHeartbeats 1000000
namespace Ge
open Mp
theorem onS_iff {a b p : Pt} : onS a b p = true ↔ tr a b p = 0 ∧ (mn a.1 b.1 ≤ p.1 ∧ p.1 ≤ mx a.1 b.1) ∧ (mn a.2 b.2 ≤ p.2 ∧ p.2 ≤ mx a.2 b.2) := by
  unfold onS inB
  simp only [Bool.and_eq_true, decide_eq_true_eq]
section
variable {a b c d : Pt}
end
def lo (a b c d : Pt) : Pt := mxP (mnP a b) (mnP c d)
def hi (a b c d : Pt) : Pt := mnP (mxP a b) (mxP c d)
def pl (p q : Pt) : Prop := p.1 < q.1 ∨ (p.1 = q.1 ∧ p.2 ≤ q.2)
theorem mnP_cases (p q : Pt) : (mnP p q = p ∧ pl p q) ∨ (mnP p q = q ∧ pl q p) := by
  unfold mnP pl
  by_cases h : pLt q p = true
  · right; rw [pLt_iff] at h; simp [pLt_iff.mpr h]; omega
  · left; simp only [h]; rw [pLt_iff] at h
    exact ⟨rfl, by omega⟩
theorem mxP_cases (p q : Pt) : (mxP p q = q ∧ pl p q) ∨ (mxP p q = p ∧ pl q p) := by
  unfold mxP pl
  by_cases h : pLt p q = true
  · left; rw [pLt_iff] at h; simp [pLt_iff.mpr h]; omega
  · right; simp only [h]; rw [pLt_iff] at h
    exact ⟨rfl, by omega⟩
theorem pl_refl (p : Pt) : pl p p := by unfold pl; omega
theorem pl_trans {p q r : Pt} (h1 : pl p q) (h2 : pl q r) : pl p r := by unfold pl at *; omega
theorem pl_anti {p q : Pt} (h1 : pl p q) (h2 : pl q p) : p = q := by
  unfold pl at *; exact pt_ext (by omega) (by omega)
theorem pl_total (p q : Pt) : pl p q ∨ pl q p := by unfold pl; omega
theorem col_lt {p q r : Pt} (h : pl p q) (hne : p ≠ q) (o : tr p q r = 0) : ((mn p.1 q.1 ≤ r.1 ∧ r.1 ≤ mx p.1 q.1) ∧ (mn p.2 q.2 ≤ r.2 ∧ r.2 ≤ mx p.2 q.2)) ↔ pl p r ∧ pl r q := by
  unfold tr crs ls at o
  dsimp only at o
  unfold pl at *
  have e1 : mn p.1 q.1 = p.1 := by unfold mn; split <;> omega
  have e2 : mx p.1 q.1 = q.1 := by unfold mx; split <;> omega
  rw [e1, e2]
  by_cases z : p.1 = q.1
  · have z' : q.1 - p.1 = 0 := by omega
    rw [z', Int.zero_mul] at o
    have hq : p.2 < q.2 := by
      have y : p.2 ≠ q.2 := fun y => hne (pt_ext z y)
      omega
    have o' : (q.2 - p.2) * (r.1 - p.1) = 0 := by omega
    have : r.1 = p.1 := by
      rcases Int.mul_eq_zero.mp o' with y | y <;> omega
    unfold mn mx
    constructor
    · rintro ⟨_, h3, h4⟩
      split at h3 <;> split at h4 <;> omega
    · rintro ⟨h3, h4⟩
      refine ⟨by omega, ?_, ?_⟩ <;> split <;> omega
  · have hp : 0 < q.1 - p.1 := by omega
    constructor
    · rintro ⟨⟨h1, h2⟩, h3⟩
      constructor
      · by_cases y : p.1 = r.1
        · have : r.1 - p.1 = 0 := by omega
          rw [this, Int.mul_zero] at o
          have : (q.1 - p.1) * (r.2 - p.2) = 0 := by omega
          rcases Int.mul_eq_zero.mp this with y | y <;> omega
        · omega
      · by_cases y : r.1 = q.1
        · have e : r.1 - p.1 = q.1 - p.1 := by omega
          rw [e, Int.mul_comm (q.2 - p.2)] at o
          have : (q.1 - p.1) * ((r.2 - p.2) - (q.2 - p.2)) = 0 := by rw [Int.mul_sub]; omega
          rcases Int.mul_eq_zero.mp this with y | y <;> omega
        · omega
    · rintro ⟨h1, h2⟩
      refine ⟨by omega, ?_⟩
      have b0 : 0 ≤ r.1 - p.1 := by omega
      have b1 : r.1 - p.1 ≤ q.1 - p.1 := by omega
      have mm := mul_mid (u := q.2 - p.2) b0 b1
      have ee : (q.1 - p.1) * (r.2 - p.2) = (q.2 - p.2) * (r.1 - p.1) := by omega
      have cc := Int.mul_comm (q.1 - p.1) (q.2 - p.2)
      have key : (0 ≤ q.2 - p.2 → 0 ≤ r.2 - p.2 ∧ r.2 - p.2 ≤ q.2 - p.2) ∧ (q.2 - p.2 ≤ 0 → q.2 - p.2 ≤ r.2 - p.2 ∧ r.2 - p.2 ≤ 0) := by
        constructor
        · intro g
          have := mm.1 g
          constructor
          · refine Int.not_lt.mp fun z => ?_
            have := Int.mul_pos hp (show 0 < -(r.2 - p.2) by omega)
            rw [Int.mul_neg] at this; omega
          · refine Int.not_lt.mp fun z => ?_
            have := Int.mul_pos hp (show 0 < (r.2 - p.2) - (q.2 - p.2) by omega)
            rw [Int.mul_sub] at this; omega
        · intro g
          have := mm.2 g
          constructor
          · refine Int.not_lt.mp fun z => ?_
            have := Int.mul_pos hp (show 0 < (q.2 - p.2) - (r.2 - p.2) by omega)
            rw [Int.mul_sub] at this; omega
          · refine Int.not_lt.mp fun z => ?_
            have := Int.mul_pos hp (show 0 < r.2 - p.2 by omega)
            omega
      unfold mn mx
      rcases Int.le_total 0 (q.2 - p.2) with g | g
      · have := key.1 g
        constructor <;> split <;> omega
      · have := key.2 g
        constructor <;> split <;> omega
theorem col {p q r : Pt} (hne : p ≠ q) (o : tr p q r = 0) : onS p q r = true ↔ pl (mnP p q) r ∧ pl r (mxP p q) := by
  rw [onS_iff]
  rcases pl_total p q with h | h
  · have e1 : mnP p q = p := by
      rcases mnP_cases p q with ⟨e, _⟩ | ⟨e, h'⟩
      · exact e
      · rw [e]; exact pl_anti h' h
    have e2 : mxP p q = q := by
      rcases mxP_cases p q with ⟨e, _⟩ | ⟨e, h'⟩
      · exact e
      · rw [e]; exact pl_anti h h'
    rw [e1, e2]
    have := col_lt h hne o
    exact ⟨fun z => this.mp z.2, fun z => ⟨o, this.mpr z⟩⟩
  · have e1 : mnP p q = q := by
      rcases mnP_cases p q with ⟨e, h'⟩ | ⟨e, h'⟩
      · rw [e]; exact pl_anti h' h
      · exact e
    have e2 : mxP p q = p := by
      rcases mxP_cases p q with ⟨e, h'⟩ | ⟨e, h'⟩
      · rw [e]; exact pl_anti h h'
      · exact e
    rw [e1, e2]
    have := col_lt (p := q) (q := p) (r := r) h (Ne.symm hne) (by rw [tr_turn]; omega)
    rw [mn_comm q.1, mx_comm q.1, mn_comm q.2, mx_comm q.2] at this
    exact ⟨fun z => this.mp z.2, fun z => ⟨o, this.mpr z⟩⟩
section
variable {a b c d : Pt}
theorem par_of {w s v : Pt} (hw : w ≠ (0, 0)) (h1 : crs w s = 0) (h2 : crs w v = 0) : crs v s = 0 := by
  unfold crs at *
  have e1 : w.1 * (v.1 * s.2 - v.2 * s.1) = 0 := by grind
  have e2 : w.2 * (v.1 * s.2 - v.2 * s.1) = 0 := by grind
  rcases Int.mul_eq_zero.mp e1 with z | z
  · rcases Int.mul_eq_zero.mp e2 with y | y
    · exact absurd (pt_ext z y) hw
    · exact y
  · exact z
theorem ls_ne {p q : Pt} (h : p ≠ q) : ls q p ≠ (0, 0) := fun z => h (by
  unfold ls at z
  simp only [Prod.mk.injEq] at z
  exact pt_ext (by omega) (by omega))
end
end Ge
end
section
set_option maxRecDepth 100000
set_option maxHeartbeats 1000000
namespace Ge
open Mp
def up (v : Pt) : Prop := 0 < v.1 ∨ (v.1 = 0 ∧ 0 < v.2)
def lt (a b : Pt) : Prop := a.1 < b.1 ∨ (a.1 = b.1 ∧ a.2 < b.2)
theorem up_ls {a b : Pt} : up (ls b a) ↔ lt a b := by unfold up ls lt; dsimp only; omega
theorem lt_trans {a b c : Pt} (h : lt a b) (k : lt b c) : lt a c := by unfold lt at *; omega
theorem lt_irr {a : Pt} : ¬ lt a a := by unfold lt; omega
theorem lt_tri (a b : Pt) : lt a b ∨ a = b ∨ lt b a := by
  by_cases h : a = b
  · exact .inr (.inl h)
  · have : ¬ (a.1 = b.1 ∧ a.2 = b.2) := fun z => h (pt_ext z.1 z.2)
    unfold lt; omega
theorem pl_lt {a b : Pt} : pl a b ↔ a = b ∨ lt a b := by
  constructor
  · intro h
    rcases lt_tri a b with k | k | k
    · exact .inr k
    · exact .inl k
    · unfold pl at h; unfold lt at k; omega
  · rintro (rfl | h)
    · exact pl_refl _
    · unfold pl; unfold lt at h; omega
theorem nn_of_mul {x y : Int} (hy : 0 < y) (h : 0 ≤ x * y) : 0 ≤ x := by
  refine Int.not_lt.mp fun z => ?_
  have := Int.mul_pos (show 0 < -x by omega) hy
  rw [Int.neg_mul] at this; omega
def Edg (D : Pt → Prop) : List Pt → Prop
  | b :: a :: r => (∀ q, D q → 0 ≤ tr a b q) ∧ lt a b ∧ Edg D (a :: r)
  | _ => True
theorem tr_self1 (a b : Pt) : tr a b a = 0 := by unfold tr crs ls; dsimp only; grind
theorem tr_w1 (a b p : Pt) : tr a b p = crs (ls b a) (ls p a) := rfl
theorem tr_w2 (a b p : Pt) : tr a b p = crs (ls b a) (ls p b) := by unfold tr crs ls; dsimp only; grind
theorem Edg.imp {D D' : Pt → Prop} (h : ∀ q, D' q → D q) : ∀ {s : List Pt}, Edg D s → Edg D' s
  | [], _ => trivial
  | [_], _ => trivial
  | b :: a :: r, ⟨h1, h2, h3⟩ => ⟨fun q hq => h1 q (h q hq), h2, Edg.imp h h3⟩
end Ge
end
section
set_option maxRecDepth 100000
set_option maxHeartbeats 1000000
namespace Ge
open Mp
structure Arc (D : Pt → Prop) (L : Pt → Pt → Prop) (x z : Pt) (l : List Pt) : Prop where
  ed : ∀ i a b, l[i]? = some a → l[i + 1]? = some b → (∀ q, D q → 0 ≤ tr a b q) ∧ L a b
  st : ∀ i a b c, l[i]? = some a → l[i + 1]? = some b → l[i + 2]? = some c → 0 < tr a b c
  mem : ∀ y ∈ l, D y
  hd : l[0]? = some x
  tl : l[l.length - 1]? = some z
def cy (C : List Pt) (k : Nat) : Pt := C.getD (k % C.length) (0, 0)
structure Conv (D : Pt → Prop) (C : List Pt) : Prop where
  n3 : 3 ≤ C.length
  mem : ∀ c ∈ C, D c
  nd : C.Nodup
  mn : ∀ q, D q → pl (cy C 0) q
  ed : ∀ k q, D q → 0 ≤ tr (cy C k) (cy C (k + 1)) q
  st : ∀ k, 0 < tr (cy C k) (cy C (k + 1)) (cy C (k + 2))
theorem flat_of {a b p q : Pt} (hne : a ≠ b) (h1 : tr a b p = 0) (h2 : tr a b q = 0) : crs (ls p b) (ls q b) = 0 := by
  have hw : ls b a ≠ (0, 0) := ls_ne hne
  exact par_of hw (s := ls q b) (v := ls p b) (by rw [← tr_w2]; exact h2) (by rw [← tr_w2]; exact h1)
theorem flat3 {a b p q r : Pt} (hne : a ≠ b) (h1 : tr a b p = 0) (h2 : tr a b q = 0) (h3 : tr a b r = 0) : tr p q r = 0 := by
  have k1 := flat_of hne h1 h2; have k2 := flat_of hne h1 h3; have k3 := flat_of hne h2 h3
  have : tr p q r = crs (ls q b) (ls r b) - crs (ls p b) (ls r b) + crs (ls p b) (ls q b) := by unfold tr crs ls; dsimp only; grind
  omega
theorem getD_of {l : List Pt} {i : Nat} {a : Pt} (h : l[i]? = some a) : l.getD i (0, 0) = a := by rw [List.getD_eq_getElem?_getD, h]; rfl
end Ge
end
section
set_option maxRecDepth 100000
set_option maxHeartbeats 1000000
namespace Ge
open Mp
inductive HullOf (D : Pt → Prop) : List Pt → Prop
  | none (h : ∀ q, ¬ D q) : HullOf D []
  | one (p : Pt) (hp : D p) (h : ∀ q, D q → q = p) : HullOf D [p]
  | two (p r : Pt) (l : lt p r) (hp : D p) (hr : D r) (h : ∀ q, D q → tr p r q = 0 ∧ pl p q ∧ pl q r) : HullOf D [p, r]
  | poly (C : List Pt) (h : Conv D C) : HullOf D C
theorem Arc.congr {D D' : Pt → Prop} {L : Pt → Pt → Prop} {x z : Pt} {l : List Pt} (h : Arc D L x z l) (e : ∀ q, D q ↔ D' q) : Arc D' L x z l :=
  ⟨fun i a b h1 h2 => ⟨fun q hq => (h.ed i a b h1 h2).1 q ((e q).mpr hq), (h.ed i a b h1 h2).2⟩, h.st, fun y hy => (e y).mp (h.mem y hy), h.hd, h.tl⟩
def Ext (D : Pt → Prop) (x : Pt) : Prop := ∃ d, ∀ q, D q → q ≠ x → 0 < crs d (ls q x)
def Kept (D : Pt → Prop) (x : Pt) : Prop := (∀ a b, D a → a ≠ x → D b → b ≠ x → onS a b x = false) ∧ (∀ a b c, D a → a ≠ x → D b → b ≠ x → D c → c ≠ x → ¬ (0 < tr a b x ∧ 0 < tr b c x ∧ 0 < tr c a x))
theorem box_le {a b x : Int} (h1 : mn a b ≤ x) (h2 : x ≤ mx a b) : (a ≤ x ∧ x ≤ b) ∨ (b ≤ x ∧ x ≤ a) := by
  unfold mn at h1; unfold mx at h2
  split at h1 <;> split at h2 <;> omega
theorem box_of {a b x : Int} (h : (a ≤ x ∧ x ≤ b) ∨ (b ≤ x ∧ x ≤ a)) : mn a b ≤ x ∧ x ≤ mx a b := by
  unfold mn mx
  constructor <;> split <;> omega
theorem opp {u v P Q : Int} (h : P * v = Q * u) (hP : 0 < P) (hQ : 0 < Q) (o : (u ≤ 0 ∧ 0 ≤ v) ∨ (v ≤ 0 ∧ 0 ≤ u)) : u = 0 ∧ v = 0 := by
  have pos : ∀ {a b : Int}, 0 < a → 0 < b → 0 < a * b := fun h k => Int.mul_pos h k
  have neg : ∀ {a b : Int}, 0 < a → b < 0 → a * b < 0 := fun {a b} h k => by
    have := Int.mul_pos h (show 0 < -b by omega)
    rw [Int.mul_neg] at this; omega
  rcases Int.lt_trichotomy u 0 with hu | hu | hu <;> rcases Int.lt_trichotomy v 0 with hv | hv | hv
  · omega
  · have := neg hQ hu; rw [hv, Int.mul_zero] at h; omega
  · have := neg hQ hu; have := pos hP hv; omega
  · have := neg hP hv; rw [hu, Int.mul_zero] at h; omega
  · exact ⟨hu, hv⟩
  · have := pos hP hv; rw [hu, Int.mul_zero] at h; omega
  · have := pos hQ hu; have := neg hP hv; omega
  · have := pos hQ hu; rw [hv, Int.mul_zero] at h; omega
  · omega
theorem Ext.kept {D : Pt → Prop} {x : Pt} (h : Ext D x) : Kept D x := by
  obtain ⟨d, h⟩ := h
  constructor
  · intro a b ha hax hb hbx
    rw [Bool.eq_false_iff]
    intro z
    obtain ⟨t0, ⟨b1, b2⟩, b3, b4⟩ := onS_iff.mp z
    have e1 := h a ha hax; have e2 := h b hb hbx
    have i1 : crs d (ls a x) * (ls b x).1 = crs d (ls b x) * (ls a x).1 := by
      have : crs d (ls a x) * (ls b x).1 - crs d (ls b x) * (ls a x).1 = -(tr a b x * d.1) := by unfold tr crs ls; dsimp only; grind
      rw [t0] at this; omega
    have i2 : crs d (ls a x) * (ls b x).2 = crs d (ls b x) * (ls a x).2 := by
      have : crs d (ls a x) * (ls b x).2 - crs d (ls b x) * (ls a x).2 = -(tr a b x * d.2) := by unfold tr crs ls; dsimp only; grind
      rw [t0] at this; omega
    have o1 := (opp i1 e1 e2 (by have := box_le b1 b2; unfold ls; dsimp only; omega)).1
    have o2 := (opp i2 e1 e2 (by have := box_le b3 b4; unfold ls; dsimp only; omega)).1
    refine hax (pt_ext ?_ ?_)
    · unfold ls at o1; dsimp only at o1; omega
    · unfold ls at o2; dsimp only at o2; omega
  · rintro a b c ha hax hb hbx hc hcx ⟨t1, t2, t3⟩
    have e1 := h a ha hax; have e2 := h b hb hbx; have e3 := h c hc hcx
    have i : tr a b x * crs d (ls c x) + tr b c x * crs d (ls a x) + tr c a x * crs d (ls b x) = 0 := by unfold tr crs ls; dsimp only; grind
    have := Int.mul_pos t1 e3; have := Int.mul_pos t2 e1; have := Int.mul_pos t3 e2
    omega
section
variable {D : Pt → Prop} {C : List Pt}
theorem cy_add (k : Nat) : cy C (k + C.length) = cy C k := by unfold cy; rw [Nat.add_mod_right]
theorem cy_at {i : Nat} (h : i < C.length) : cy C i = C[i] := by
  unfold cy; rw [Nat.mod_eq_of_lt h]; exact getD_of (List.getElem?_eq_getElem h)
theorem cy_mod (k : Nat) : cy C (k % C.length) = cy C k := by unfold cy; rw [Nat.mod_mod]
theorem cy_mem (h : 0 < C.length) (k : Nat) : cy C k ∈ C := by
  rw [← cy_mod, cy_at (Nat.mod_lt _ h)]; exact List.getElem_mem _
theorem Conv.n0 (h : Conv D C) : 0 < C.length := by have := h.n3; omega
theorem Conv.at_ (h : Conv D C) {c : Pt} (hc : c ∈ C) : ∃ k, k < C.length ∧ c = cy C (k + 1) := by
  obtain ⟨i, hi, e⟩ := List.getElem_of_mem hc
  have n0 := h.n0
  by_cases hz : i = 0
  · refine ⟨C.length - 1, by omega, ?_⟩
    rw [show C.length - 1 + 1 = 0 + C.length by omega, cy_add, ← hz, cy_at hi, e]
  · refine ⟨i - 1, by omega, ?_⟩
    rw [show i - 1 + 1 = i by omega, cy_at hi, e]
theorem Conv.D_ (h : Conv D C) (k : Nat) : D (cy C k) := h.mem _ (cy_mem h.n0 k)
theorem Conv.ext (h : Conv D C) (k : Nat) : Ext D (cy C (k + 1)) := by
  refine ⟨ls (cy C (k + 2)) (cy C k), fun q hq hne => ?_⟩
  have e1 := h.ed k q hq; have e2 := h.ed (k + 1) q hq; have s := h.st k
  rw [show k + 1 + 1 = k + 2 from rfl] at e2
  generalize cy C k = a at *
  generalize cy C (k + 1) = x at *
  generalize cy C (k + 2) = b at *
  have i0 : crs (ls b a) (ls q x) = tr a x q + tr x b q := by unfold tr crs ls; dsimp only; grind
  suffices h0 : ¬ (tr a x q = 0 ∧ tr x b q = 0) by omega
  rintro ⟨z1, z2⟩
  have j1 : tr a x b * (ls q x).1 = tr a x q * (ls b x).1 - tr x b q * (ls x a).1 := by unfold tr crs ls; dsimp only; grind
  have j2 : tr a x b * (ls q x).2 = tr a x q * (ls b x).2 - tr x b q * (ls x a).2 := by unfold tr crs ls; dsimp only; grind
  rw [z1, z2, Int.zero_mul, Int.zero_mul, Int.sub_zero] at j1 j2
  have k1 : (ls q x).1 = 0 := (Int.mul_eq_zero.mp j1).resolve_left (by omega)
  have k2 : (ls q x).2 = 0 := (Int.mul_eq_zero.mp j2).resolve_left (by omega)
  unfold ls at k1 k2; dsimp only at k1 k2
  exact hne (pt_ext (by omega) (by omega))
theorem Conv.extM (h : Conv D C) {c : Pt} (hc : c ∈ C) : Ext D c := by
  obtain ⟨k, _, e⟩ := h.at_ hc
  rw [e]; exact h.ext k
theorem between1 {e r P Q P' Q' : Int} (h1 : P * r = Q * e) (hP : 0 < P) (hQ : 0 ≤ Q) (h2 : P' * (e - r) = Q' * e) (hP' : 0 < P') (hQ' : 0 ≤ Q') : (0 ≤ r ∧ r ≤ e) ∨ (e ≤ r ∧ r ≤ 0) := by
  have sgn : ∀ {P Q r e : Int}, P * r = Q * e → 0 < P → 0 ≤ Q → (0 ≤ e → 0 ≤ r) ∧ (e ≤ 0 → r ≤ 0) := fun {P Q r e} h hP hQ => by
    constructor
    · intro he
      refine nn_of_mul hP ?_
      rw [Int.mul_comm, h]; exact Int.mul_nonneg hQ he
    · intro he
      have : 0 ≤ -r := by
        refine nn_of_mul hP ?_
        rw [Int.neg_mul, Int.mul_comm, h, ← Int.mul_neg]; exact Int.mul_nonneg hQ (by omega)
      omega
  have a1 := sgn h1 hP hQ; have a2 := sgn h2 hP' hQ'
  omega
theorem seg_of {a b x f g : Pt} (t0 : tr a b x = 0) (h1 : 0 < crs g (ls b a)) (h2 : 0 ≤ crs g (ls x a)) (h3 : 0 < crs (ls b a) f) (h4 : 0 ≤ crs f (ls x b)) : onS a b x = true := by
  have i1 : crs g (ls b a) * (x.1 - a.1) = crs g (ls x a) * (b.1 - a.1) := by
    have : crs g (ls b a) * (x.1 - a.1) - crs g (ls x a) * (b.1 - a.1) = -(tr a b x * g.1) := by unfold tr crs ls; dsimp only; grind
    rw [t0] at this; omega
  have i2 : crs g (ls b a) * (x.2 - a.2) = crs g (ls x a) * (b.2 - a.2) := by
    have : crs g (ls b a) * (x.2 - a.2) - crs g (ls x a) * (b.2 - a.2) = -(tr a b x * g.2) := by unfold tr crs ls; dsimp only; grind
    rw [t0] at this; omega
  have i3 : crs (ls b a) f * ((b.1 - a.1) - (x.1 - a.1)) = crs f (ls x b) * (b.1 - a.1) := by
    have : crs (ls b a) f * ((b.1 - a.1) - (x.1 - a.1)) - crs f (ls x b) * (b.1 - a.1) = -(tr a b x * f.1) := by unfold tr crs ls; dsimp only; grind
    rw [t0] at this; omega
  have i4 : crs (ls b a) f * ((b.2 - a.2) - (x.2 - a.2)) = crs f (ls x b) * (b.2 - a.2) := by
    have : crs (ls b a) f * ((b.2 - a.2) - (x.2 - a.2)) - crs f (ls x b) * (b.2 - a.2) = -(tr a b x * f.2) := by unfold tr crs ls; dsimp only; grind
    rw [t0] at this; omega
  have b1 := between1 i1 h1 h2 i3 h3 h4
  have b2 := between1 i2 h1 h2 i4 h3 h4
  exact onS_iff.mpr ⟨t0, box_of (by omega), box_of (by omega)⟩
theorem Conv.side_seg (h : Conv D C) {k : Nat} {x : Pt} (e0 : 0 ≤ tr (cy C k) (cy C (k + 1)) x) (t0 : tr (cy C (k + 1)) (cy C (k + 2)) x = 0) (e2 : 0 ≤ tr (cy C (k + 2)) (cy C (k + 3)) x) : onS (cy C (k + 1)) (cy C (k + 2)) x = true :=
  seg_of (g := ls (cy C (k + 1)) (cy C k)) (f := ls (cy C (k + 3)) (cy C (k + 2))) t0 (by rw [← tr_w2]; exact h.st k) (by rw [← tr_w2]; exact e0) (by rw [← tr_w2]; exact h.st (k + 1)) e2
theorem Conv.side_segD (h : Conv D C) {k : Nat} {x : Pt} (hx : ∀ j, 0 ≤ tr (cy C j) (cy C (j + 1)) x) (t0 : tr (cy C k) (cy C (k + 1)) x = 0) : onS (cy C k) (cy C (k + 1)) x = true := by
  have n0 := h.n0
  have e : ∀ j, cy C (k + C.length - 1 + 1 + j) = cy C (k + j) := fun j => by rw [show k + C.length - 1 + 1 + j = k + j + C.length by omega, cy_add]
  have := h.side_seg (k := k + C.length - 1) (x := x) (hx _) (by rw [e 0, e 1]; exact t0) (hx _)
  rwa [e 0, e 1] at this
theorem cy_inj (nd : C.Nodup) {i j : Nat} (h : 0 < C.length) (e : cy C i = cy C j) : i % C.length = j % C.length := by
  rw [← cy_mod i, ← cy_mod j, cy_at (Nat.mod_lt _ h), cy_at (Nat.mod_lt _ h)] at e
  have pw := List.pairwise_iff_getElem.mp (List.nodup_iff_pairwise_ne.mp nd)
  rcases Nat.lt_trichotomy (i % C.length) (j % C.length) with k | k | k
  · exact absurd e (pw _ _ _ _ k)
  · exact k
  · exact absurd e.symm (pw _ _ _ _ k)
theorem Conv.pos3 (h : Conv D C) {k : Nat} {c : Pt} (hc : c ∈ C) (h1 : c ≠ cy C k) (h2 : c ≠ cy C (k + 1)) : 0 < tr (cy C k) (cy C (k + 1)) c := by
  have e := h.ed k c (h.mem c hc)
  suffices tr (cy C k) (cy C (k + 1)) c ≠ 0 by omega
  intro z
  have := h.side_segD (x := c) (fun j => h.ed j c (h.mem c hc)) z
  rw [(h.extM hc).kept.1 _ _ (h.D_ k) (Ne.symm h1) (h.D_ (k + 1)) (Ne.symm h2)] at this
  cases this
theorem ivt {s : Nat → Int} (p : Int → Prop) [DecidablePred p] : ∀ (m : Nat), p (s 1) → ¬ p (s (m + 2)) → ∃ k, 1 ≤ k ∧ k ≤ m + 1 ∧ p (s k) ∧ ¬ p (s (k + 1))
  | 0, h1, h2 => ⟨1, by omega, by omega, h1, h2⟩
  | m + 1, h1, h2 => by
    by_cases h : p (s (m + 2))
    · exact ⟨m + 2, by omega, by omega, h, h2⟩
    · obtain ⟨k, a, b, c, d⟩ := ivt p m h1 h
      exact ⟨k, a, by omega, c, d⟩
theorem Conv.fan_pos (h : Conv D C) {k : Nat} (h1 : 1 ≤ k) (h2 : k + 1 < C.length) : 0 < tr (cy C 0) (cy C k) (cy C (k + 1)) := by
  have n0 := h.n0
  have := h.pos3 (k := k) (c := cy C 0) (cy_mem n0 0) (fun e => by
    have := cy_inj h.nd n0 e
    rw [Nat.zero_mod, Nat.mod_eq_of_lt (by omega)] at this; omega) (fun e => by
    have := cy_inj h.nd n0 e
    rw [Nat.zero_mod, Nat.mod_eq_of_lt (by omega)] at this; omega)
  have e : tr (cy C 0) (cy C k) (cy C (k + 1)) = tr (cy C k) (cy C (k + 1)) (cy C 0) := by unfold tr crs ls; dsimp only; grind
  omega
theorem Conv.last (h : Conv D C) {x : Pt} (m : Nat) (hm : C.length = m + 3) : tr (cy C 0) (cy C (m + 2)) x = -tr (cy C (m + 2)) (cy C (m + 3)) x := by
  have : cy C (m + 3) = cy C 0 := by have := cy_add (C := C) 0; rw [Nat.zero_add, hm] at this; exact this
  rw [this]; exact tr_turn _ _ _
theorem Conv.not_kept (h : Conv D C) {x : Pt} (dx : D x) (nx : x ∉ C) : ¬ Kept D x := by
  rintro ⟨k1, k2⟩
  have ne : ∀ k, cy C k ≠ x := fun k e => nx (e ▸ cy_mem h.n0 k)
  have hs : ∀ j, 0 < tr (cy C j) (cy C (j + 1)) x := fun j => by
    have e := h.ed j x dx
    suffices tr (cy C j) (cy C (j + 1)) x ≠ 0 by omega
    intro z
    have := h.side_segD (x := x) (fun j => h.ed j x dx) z
    rw [k1 _ _ (h.D_ _) (ne _) (h.D_ _) (ne _)] at this; cases this
  obtain ⟨m, hm⟩ : ∃ m, C.length = m + 3 := ⟨C.length - 3, by have := h.n3; omega⟩
  obtain ⟨k, a, b, c, d⟩ := ivt (s := fun k => tr (cy C 0) (cy C k) x) (fun i => 0 < i) m (hs 0) (by
    show ¬ 0 < tr (cy C 0) (cy C (m + 2)) x
    rw [h.last m hm]
    have := hs (m + 2)
    rw [show m + 2 + 1 = m + 3 from rfl] at this
    omega)
  have d : ¬ 0 < tr (cy C 0) (cy C (k + 1)) x := d
  have c : 0 < tr (cy C 0) (cy C k) x := c
  by_cases z : tr (cy C 0) (cy C (k + 1)) x = 0
  · have n0 := h.n0
    have hk : k + 2 < C.length := by
      refine Nat.not_le.mp fun w => ?_
      obtain rfl : k = m + 1 := by omega
      rw [h.last m hm] at z
      have := hs (m + 2)
      rw [show m + 2 + 1 = m + 3 from rfl] at this
      omega
    have := seg_of (a := cy C 0) (b := cy C (k + 1)) (x := x) (g := ls (cy C 1) (cy C 0)) (f := ls (cy C (k + 2)) (cy C (k + 1))) z (by
      rw [← tr_w1]
      refine h.pos3 (k := 0) (cy_mem n0 _) (fun e => ?_) (fun e => ?_)
      · have := cy_inj h.nd n0 e
        rw [Nat.zero_mod, Nat.mod_eq_of_lt (by omega)] at this; omega
      · have := cy_inj h.nd n0 e
        rw [Nat.mod_eq_of_lt (by omega), Nat.mod_eq_of_lt (by omega)] at this; omega) (by rw [← tr_w1]; exact Int.le_of_lt (hs 0)) (by rw [← tr_w2]; exact h.fan_pos (by omega) (by omega)) (by rw [← tr_w1]; exact Int.le_of_lt (hs (k + 1)))
    rw [k1 _ _ (h.D_ _) (ne _) (h.D_ _) (ne _)] at this; cases this
  · exact k2 _ _ _ (h.D_ 0) (ne _) (h.D_ k) (ne _) (h.D_ (k + 1)) (ne _) ⟨c, hs k, by rw [tr_turn]; omega⟩
end
theorem dt_pos {u v : Pt} (hu : up u) (hv : up v) (h : crs u v = 0) : 0 < dt u v := by
  unfold crs at h; unfold dt
  have e : u.1 * v.2 = u.2 * v.1 := by omega
  rcases hu with hu | ⟨hu, hu2⟩
  · have hv1 : 0 < v.1 := by
      rcases hv with k | ⟨k, k2⟩
      · exact k
      · rw [k, Int.mul_zero] at e
        have := Int.mul_pos hu k2; omega
    have a := Int.mul_pos hu hv1
    have b : 0 ≤ u.2 * v.2 := by
      rcases Int.lt_trichotomy u.2 0 with k | k | k
      · have : v.2 < 0 := by
          refine Int.not_le.mp fun z => ?_
          have := Int.mul_nonneg (Int.le_of_lt hu) z
          have := Int.mul_pos (show 0 < -u.2 by omega) hv1
          rw [Int.neg_mul] at this; omega
        have := Int.mul_pos (show 0 < -u.2 by omega) (show 0 < -v.2 by omega)
        rw [Int.neg_mul_neg] at this; omega
      · rw [k, Int.zero_mul]; omega
      · have : 0 < v.2 := by
          refine Int.not_le.mp fun z => ?_
          have := Int.mul_pos k hv1
          have := Int.mul_nonneg (Int.le_of_lt hu) (show 0 ≤ -v.2 by omega)
          rw [Int.mul_neg] at this; omega
        exact Int.le_of_lt (Int.mul_pos k this)
    omega
  · rw [hu, Int.zero_mul] at e
    have hv1 : v.1 = 0 := by
      rcases Int.mul_eq_zero.mp e.symm with k | k
      · omega
      · exact k
    have hv2 : 0 < v.2 := by unfold up at hv; omega
    have := Int.mul_pos hu2 hv2
    rw [hu, Int.zero_mul]; omega
theorem HullOf.mem {D : Pt → Prop} {C : List Pt} (h : HullOf D C) : ∀ c ∈ C, D c := by
  cases h with
  | none h => intro c hc; cases hc
  | one p hp h => intro c hc; rw [List.mem_singleton.mp hc]; exact hp
  | two p r l hp hr h =>
    intro c hc
    rcases List.mem_cons.mp hc with e | hc
    · rw [e]; exact hp
    · rw [List.mem_singleton.mp hc]; exact hr
  | poly _ h => exact h.mem
theorem HullOf.nd {D : Pt → Prop} {C : List Pt} (h : HullOf D C) : C.Nodup := by
  cases h with
  | none h => exact List.nodup_nil
  | one p hp h => simp
  | two p r l hp hr h => simp; exact fun e => lt_irr (e ▸ l)
  | poly _ h => exact h.nd
theorem HullOf.ext {D : Pt → Prop} {C : List Pt} (h : HullOf D C) {c : Pt} (hc : c ∈ C) : Ext D c := by
  cases h with
  | none h => cases hc
  | one p hp h => rw [List.mem_singleton.mp hc]; exact ⟨(0, 0), fun q hq hne => absurd (h q hq) hne⟩
  | two p r l hp hr h =>
    rcases List.mem_cons.mp hc with e | hc
    · rw [e]
      refine ⟨((ls r p).2, -(ls r p).1), fun q hq hne => ?_⟩
      obtain ⟨a, b, _⟩ := h q hq
      have := dt_pos (up_ls.mpr l) (up_ls.mpr ((pl_lt.mp b).resolve_left (Ne.symm hne))) (by rw [← tr_w1]; exact a)
      have e2 : crs ((ls r p).2, -(ls r p).1) (ls q p) = dt (ls r p) (ls q p) := by unfold crs dt; dsimp only; grind
      rw [e2]; exact this
    · rw [List.mem_singleton.mp hc]
      refine ⟨(-(ls r p).2, (ls r p).1), fun q hq hne => ?_⟩
      obtain ⟨a, _, b⟩ := h q hq
      have := dt_pos (up_ls.mpr l) (up_ls.mpr ((pl_lt.mp b).resolve_left hne)) (by
        have : tr p r q = -crs (ls r p) (ls r q) := by unfold tr crs ls; dsimp only; grind
        omega)
      have e2 : crs (-(ls r p).2, (ls r p).1) (ls q r) = dt (ls r p) (ls r q) := by unfold crs dt ls; dsimp only; grind
      rw [e2]; exact this
  | poly _ h => exact h.extM hc
theorem HullOf.not_kept {D : Pt → Prop} {C : List Pt} (h : HullOf D C) {x : Pt} (dx : D x) (nx : x ∉ C) : ¬ Kept D x := by
  cases h with
  | none h => exact absurd dx (h x)
  | one p hp h => exact absurd (by rw [h x dx]; simp) nx
  | two p r l hp hr h =>
    intro k
    have a1 : p ≠ x := fun e => nx (by simp [e])
    have a2 : r ≠ x := fun e => nx (by simp [e])
    obtain ⟨t, b1, b2⟩ := h x dx
    have := (col_lt (pl_lt.mpr (.inr l)) (fun e => lt_irr (e ▸ l)) t).mpr ⟨b1, b2⟩
    have := onS_iff.mpr ⟨t, this⟩
    rw [k.1 p r hp a1 hr a2] at this; cases this
  | poly _ h => exact h.not_kept dx nx
theorem HullOf.corner {D : Pt → Prop} {C : List Pt} (h : HullOf D C) {x : Pt} (dx : D x) : x ∈ C ↔ Kept D x :=
  ⟨fun hc => (h.ext hc).kept, fun hk => Classical.byContradiction fun n => h.not_kept dx n hk⟩
theorem tr_flat_two {D : Pt → Prop} {p r : Pt} (l : lt p r) (h : ∀ q, D q → tr p r q = 0 ∧ pl p q ∧ pl q r) {C : List Pt} (c : Conv D C) : False := by
  have := c.st 0
  rw [flat3 (fun e => lt_irr (e ▸ l)) (h _ (c.D_ 0)).1 (h _ (c.D_ 1)).1 (h _ (c.D_ 2)).1] at this
  omega
theorem three_col {a b c : Pt} (hab : a ≠ b) (hbc : b ≠ c) (hac : a ≠ c) (t : tr a b c = 0) : onS a b c = true ∨ onS b c a = true ∨ onS a c b = true := by
  have t1 : tr b c a = 0 := by rw [← t]; unfold tr crs ls; dsimp only; grind
  have t2 : tr a c b = 0 := by have : tr a c b = -tr a b c := (by unfold tr crs ls; dsimp only; grind); omega
  have k1 := col hab t; have k2 := col hbc t1; have k3 := col hac t2
  rcases mnP_cases a b with ⟨e1, l1⟩ | ⟨e1, l1⟩ <;> rcases mnP_cases b c with ⟨e2, l2⟩ | ⟨e2, l2⟩ <;> rcases mnP_cases a c with ⟨e3, l3⟩ | ⟨e3, l3⟩ <;>
    rcases mxP_cases a b with ⟨f1, m1⟩ | ⟨f1, m1⟩ <;> rcases mxP_cases b c with ⟨f2, m2⟩ | ⟨f2, m2⟩ <;> rcases mxP_cases a c with ⟨f3, m3⟩ | ⟨f3, m3⟩ <;>
    rw [e1, f1] at k1 <;> rw [e2, f2] at k2 <;> rw [e3, f3] at k3 <;>
    first
      | exact .inl (k1.mpr ⟨by assumption, by assumption⟩)
      | exact .inr (.inl (k2.mpr ⟨by assumption, by assumption⟩))
      | exact .inr (.inr (k3.mpr ⟨by assumption, by assumption⟩))
      | exact absurd (pl_anti l1 m1) hab
      | exact absurd (pl_anti m1 l1) hab
      | exact absurd (pl_anti l2 m2) hbc
      | exact absurd (pl_anti m2 l2) hbc
      | exact absurd (pl_anti l3 m3) hac
      | exact absurd (pl_anti m3 l3) hac
      | exact absurd (pl_anti (pl_trans l1 l2) l3) hac
      | exact absurd (pl_anti l3 (pl_trans l1 l2)) hac
      | exact absurd (pl_anti (pl_trans l2 l1) l3) (Ne.symm hac)
      | exact absurd (pl_anti l3 (pl_trans l2 l1)) hac
      | exact absurd (pt_ext (by unfold pl at *; omega) (by unfold pl at *; omega)) hac
theorem Conv.uniq {D : Pt → Prop} {C C' : List Pt} (h : Conv D C) (h' : Conv D C') : C = C' := by
  have e : ∀ k, cy C k = cy C' k := fun k => by
    induction k with
    | zero => exact pl_anti (h.mn _ (h'.D_ 0)) (h'.mn _ (h.D_ 0))
    | succ k ih =>
      refine Classical.byContradiction fun n => ?_
      have s1 := h.ed k _ (h'.D_ (k + 1)); have s2 := h'.ed k _ (h.D_ (k + 1))
      have n1 : cy C k ≠ cy C (k + 1) := fun z => by
        have := h.st k
        rw [← z] at this
        have e : tr (cy C k) (cy C k) (cy C (k + 2)) = 0 := by unfold tr crs ls; dsimp only; grind
        omega
      have n2 : cy C k ≠ cy C' (k + 1) := fun z => by
        have := h'.st k
        rw [← ih, ← z] at this
        have e : tr (cy C k) (cy C k) (cy C' (k + 2)) = 0 := by unfold tr crs ls; dsimp only; grind
        omega
      rw [← ih] at s2
      have c2 : tr (cy C k) (cy C' (k + 1)) (cy C (k + 1)) = -tr (cy C k) (cy C (k + 1)) (cy C' (k + 1)) := by unfold tr crs ls; dsimp only; grind
      have K0 := (h.extM (cy_mem h.n0 k)).kept.1
      have K1 := (h.extM (cy_mem h.n0 (k + 1))).kept.1
      have K2 := (h'.extM (cy_mem h'.n0 (k + 1))).kept.1
      rcases three_col n1 n n2 (by omega) with z | z | z
      · rw [K2 _ _ (h.D_ _) n2 (h.D_ _) n] at z; cases z
      · rw [K0 _ _ (h.D_ _) (Ne.symm n1) (h'.D_ _) (Ne.symm n2)] at z; cases z
      · rw [K1 _ _ (h.D_ _) n1 (h'.D_ _) (Ne.symm n)] at z; cases z
  have hl : ∀ {C C' : List Pt}, Conv D C → Conv D C' → (∀ k, cy C k = cy C' k) → C'.length ≤ C.length := fun {C C'} h h' e => by
    refine Nat.not_lt.mp fun hlt => ?_
    have a := e C.length
    have b : cy C C.length = cy C 0 := by have := cy_add (C := C) 0; rwa [Nat.zero_add] at this
    rw [b, e 0] at a
    have := cy_inj h'.nd h'.n0 a
    rw [Nat.zero_mod, Nat.mod_eq_of_lt hlt] at this
    have := h.n0; omega
  have l1 := hl h h' e; have l2 := hl h' h (fun k => (e k).symm)
  refine List.ext_getElem (by omega) fun i i1 i2 => ?_
  have := e i
  rwa [cy_at i1, cy_at i2] at this
theorem HullOf.uniq {D : Pt → Prop} {C C' : List Pt} (h : HullOf D C) (h' : HullOf D C') : C = C' := by
  cases h with
  | none h =>
    cases h' with
    | none h' => rfl
    | one p hp h' => exact absurd hp (h p)
    | two p r l hp hr h' => exact absurd hp (h p)
    | poly _ h' => exact absurd (h'.D_ 0) (h _)
  | one p hp h =>
    cases h' with
    | none h' => exact absurd hp (h' p)
    | one p' hp' h' => rw [h p' hp']
    | two p' r l hp' hr h' => exact absurd (by rw [h p' hp', h r hr]) (fun e : p' = r => lt_irr (e ▸ l))
    | poly _ h' =>
      have := h'.st 0
      rw [h _ (h'.D_ 0), h _ (h'.D_ (0 + 1)), h _ (h'.D_ (0 + 2)), tr_self1] at this; omega
  | two p r l hp hr h =>
    cases h' with
    | none h' => exact absurd hp (h' p)
    | one p' hp' h' => exact absurd (by rw [h' p hp, h' r hr]) (fun e : p = r => lt_irr (e ▸ l))
    | two p' r' l' hp' hr' h' => rw [pl_anti (h p' hp').2.1 (h' p hp).2.1, pl_anti (h r' hr').2.2 (h' r hr).2.2]
    | poly _ h' => exact (tr_flat_two l h h').elim
  | poly _ h =>
    cases h' with
    | none h' => exact absurd (h.D_ 0) (h' _)
    | one p hp h' =>
      have := h.st 0
      rw [h' _ (h.D_ 0), h' _ (h.D_ (0 + 1)), h' _ (h.D_ (0 + 2)), tr_self1] at this; omega
    | two p r l hp hr h' => exact (tr_flat_two l h' h).elim
    | poly _ h' => exact h.uniq h'
end Ge
end
section
set_option maxRecDepth 100000
set_option maxHeartbeats 1000000
namespace Mp
open PySem L2
def Ga (k : Nat) (st : Sto) : Prop := st.length = k ∧ Gs k st
theorem rounds_ga (ns : List Int) (m : Nat) (hl : ns.length ≤ 1000) : ∃ (k : Nat) (st : Sto), fnM 4 roundsB [pInts ns, .int (m : Int)] [] = .ok (.lst ((List.range k).map PV.ref)) st ∧ Ga k st ∧ k ≤ ns.length + 1 := by
  have cut : cutL (ns.map PV.int) none (some (m : Int)) = (ns.take m).map PV.int := by
    unfold cutL
    simp [HT.sIx_none, HT.sIx_nat, List.map_take]
  have key : ∀ (cs : List Int), ∃ (st : Sto), compL (gNm 3) tYesM (mCall 1 (fnM 1 diceB) (aCons (mVar 3) aNil)) (cs.map PV.int) (killE [3] [.pv (pInts ns), .pv (.int (m : Int)), .pv (.lst (cs.map PV.int)), .un]) [] = .ok ((List.range cs.length).map PV.ref) st ∧ Ga cs.length st := fun cs => by
    refine ⟨[] ++ cs.map diceO, ?_, by simp, fun i hi => ?_⟩
    · rw [comp_dice cs _ [] (by simp [killE])]
      simp
    · obtain ⟨x, y, z, e⟩ := diceO_gd cs[i]
      exact ⟨x, y, z, by simp [hi, e]⟩
  by_cases he : ns.take m = []
  · obtain ⟨st, h1, h2⟩ := key [0]
    refine ⟨1, st, ?_, h2, by omega⟩
    have h1 : compL (gNm 3) tYesM (mCall 1 (fnM 1 diceB) (aCons (mVar 3) aNil)) [.int 0] (killE [3] [.pv (pInts ns), .pv (.int (m : Int)), .pv (.lst [.int 0]), .un]) [] = .ok ((List.range 1).map PV.ref) st := h1
    have z1 : cEq (.lst []) (.lst []) = some (.bl true) := by rfl
    simp [fnM, roundsB, env0, sSeq, sSet, sIf, sRet, mSlice, pN, pS, mVar, mC, mLst, aCons, aNil, tBin, bindR, bindF, pInts, cut, he, z1, mComp, iSeq, noOwn]
    rw [← pInts, h1]
    simp [bindX]
  · obtain ⟨st, h1, h2⟩ := key (ns.take m)
    refine ⟨(ns.take m).length, st, ?_, h2, by rw [List.length_take]; omega⟩
    have z1 : cEq (.lst ((ns.take m).map PV.int)) (.lst []) = some (.bl false) := by
      unfold cEq
      rw [isD_ints, show isD (.lst []) = true from by decide]
      cases q : ns.take m with
      | nil => exact absurd q he
      | cons c cs => rfl
    have hl2 : (ns.take m).length ≤ 1000000 := by rw [List.length_take]; omega
    generalize hcs : ns.take m = cs at *
    have h1 : compL (gNm 3) tYesM (mCall 1 (fnM 1 diceB) (aCons (mVar 3) aNil)) (cs.map PV.int) (killE [3] [.pv (.lst (ns.map PV.int)), .pv (.int (m : Int)), .pv (.lst (cs.map PV.int)), .un]) [] = .ok ((List.range cs.length).map PV.ref) st := h1
    simp only [fnM, roundsB, env0, sSeq, sSet, sIf, sRet, sNil, mSlice, pN, pS, mVar, mC, mLst, aCons, aNil, tBin, bindR, bindF, pInts, List.map_cons, List.map_nil, List.length_cons, List.length_nil, List.cons_append, List.nil_append, List.getElem?_cons_zero, List.getElem?_cons_succ, cut, List.set_cons_succ, List.set_cons_zero, List.replicate, z1, mComp, iSeq, noOwn, Nat.reduceAdd, Nat.reduceSub]
    simp [h1, bindX, hl2, z1]
theorem Ga.ok {k : Nat} {st : Sto} (g : Ga k st) : st.all okO = true := by
  rw [List.all_eq_true]
  intro o ho
  obtain ⟨i, hi, e⟩ := List.getElem_of_mem ho
  obtain ⟨a, b, c, h⟩ := g.2 i (by rw [← g.1]; exact hi)
  rw [List.getElem?_eq_getElem hi, e] at h
  cases h
  simp [okO, noLs, noL]
end Mp
end
section
set_option maxRecDepth 100000
set_option maxHeartbeats 1000000
namespace Mp
open PySem L2
end Mp
end
section
set_option maxRecDepth 100000
set_option maxHeartbeats 1000000
namespace Ge
open PySem L2 Mp
def dd (xs : List Pt) : List Pt := xs.foldl (fun l p => if p ∈ l then l else l ++ [p]) []
theorem HullOf.congr {D D' : Pt → Prop} (e : ∀ q, D q ↔ D' q) {C : List Pt} (h : HullOf D C) : HullOf D' C := by
  have : D = D' := funext fun q => propext (e q)
  exact this ▸ h
end Ge
end
section
set_option maxRecDepth 100000
set_option maxHeartbeats 1000000
namespace Ge
open PySem L2 Mp
def mxL : List Int → Int
  | [] => 0
  | x :: l => l.foldl mx x
abbrev T3 := Int × Pt × Pt
def t3 (t : T3) : PV := .tup [.int t.1, tp t.2.1, tp t.2.2]
end Ge
end
section
set_option maxRecDepth 100000
set_option maxHeartbeats 1000000
namespace Mp
open PySem PySem.Spec PyProof.Rows L2
end Mp
end
section
set_option maxRecDepth 100000
set_option maxHeartbeats 1000000
namespace Mp
open PySem PySem.Spec PyProof.Rows L2 GxR
section
variable {X : Cx} {tb : Tbs} {Wx : WX} {e : Expr} {es : List Expr} {ms : AM} {pos p : Pos} {k j n i : Nat} {x t : Str} {m : FM}
end
end Mp
end
section
set_option maxRecDepth 100000
set_option maxHeartbeats 1000000
namespace Mp
open PySem PySem.Spec PyProof.Rows L2
section
variable {X : Cx} {tb : Tbs} {Wx : WX} {md mk mv mo m : EM} {e1 : Expr} {i : Nat}
end
end Mp
end
section
set_option maxRecDepth 100000
set_option maxHeartbeats 1000000
namespace Mp
open PySem PySem.Spec PyProof.Rows L2
section
variable {X : Cx} {tb : Tbs} {Wx : WX} {md mk mv mo m : EM} {e e1 : Expr}
end
end Mp
end
section
set_option maxRecDepth 100000
set_option maxHeartbeats 1000000
namespace Mp
open PySem PySem.Spec PyProof.Rows L2
section
variable {P : Program} {w : World} {K : PySem.W.Frag} {tg : Expr} {d : Addr} {o : Obj} {es : Array DictEntry} {ep : Nat} {ks : List (List Int)} {as : List Addr} {ws : List V}
end
end Mp
end
section
set_option maxRecDepth 100000
set_option maxHeartbeats 1000000
namespace Mp
open PySem PySem.Spec PyProof.Rows L2
section
variable {K : PySem.W.Frag} {tb : Tbs} {Mx Mx2 : Addr → Prop} {W : List Addr} {σ : L2.St} {H H' : Hp} {env : MEnv} {st : Sto} {i : Nat} {ks : List (List Int)} {vs : List PV}
theorem FzT.lk {M M2 : Addr → Prop} {q : Addr} {ws : List V} (hM : ∀ b, M2 b → M b) (hH : ∀ b xs, Rd H b (.tup xs) → Rd H' b (.tup xs)) (h : FzT K M H q ws) : FzT K M2 H' q ws :=
  h.imp (fun h => ⟨hH _ _ h.1, fun z => h.2 (hM _ z)⟩) id
theorem FzL.lk {M M2 : Addr → Prop} {q : Addr} {ws : List V} (hM : ∀ b, M2 b → M b) (hH : ∀ b xs, Rd H b (.lst xs) → Rd H' b (.lst xs)) (h : FzL K M H q ws) : FzL K M2 H' q ws :=
  h.imp (fun h => ⟨hH _ _ h.1, fun z => h.2 (hM _ z)⟩) id
theorem KsOk.lk {M M2 : Addr → Prop} (hM : ∀ b, M2 b → M b) (hH : ∀ b xs, Rd H b (.tup xs) → Rd H' b (.tup xs)) : ∀ {ks : List (List Int)} {as : List Addr}, KsOk K M H ks as → KsOk K M2 H' ks as
  | [], _, h => h
  | _ :: _, _, ⟨a, r, e, h1, h2⟩ => ⟨a, r, e, h1.lk hM hH, h2.lk hM hH⟩
mutual
theorem RF.lk {M M2 : Addr → Prop} {W2 : List Addr} (hM : ∀ b, M2 b → M b) (hT : ∀ b xs, Rd H b (.tup xs) → Rd H' b (.tup xs)) (hL : ∀ b xs, Rd H b (.lst xs) → Rd H' b (.lst xs)) : ∀ (v : PV) {w : V}, noR v = true → RF K M W H v w → RF K M2 W2 H' v w
  | .non, _, _, h => by unfold RF at h ⊢; exact h
  | .bl b, _, _, h => by unfold RF at h ⊢; exact h
  | .int i, _, _, h => by unfold RF at h ⊢; exact h
  | .str s, _, _, h => by unfold RF at h ⊢; exact h
  | .tup xs, _, n, h => by
    unfold RF at h ⊢
    unfold noR at n
    obtain ⟨q, ws, e, h1, h2⟩ := h
    exact ⟨q, ws, e, h1.lk hM hT, RFs.lk hM hT hL xs n h2⟩
  | .lst xs, _, n, h => by
    unfold RF at h ⊢
    unfold noR at n
    obtain ⟨q, ws, e, h1, h2⟩ := h
    exact ⟨q, ws, e, h1.lk hM hL, RFs.lk hM hT hL xs n h2⟩
  | .ref n, _, z, h => by unfold noR at z; cases z
  | .fn x, _, _, h => by unfold RF at h ⊢; exact h
  | .dct ks vs, _, n, h => by unfold noR at n; cases n
  | .nti ns, _, n, h => by unfold noR at n; cases n
theorem RFs.lk {M M2 : Addr → Prop} {W2 : List Addr} (hM : ∀ b, M2 b → M b) (hT : ∀ b xs, Rd H b (.tup xs) → Rd H' b (.tup xs)) (hL : ∀ b xs, Rd H b (.lst xs) → Rd H' b (.lst xs)) : ∀ (xs : List PV) {ws : List V}, noRs xs = true → RFs K M W H xs ws → RFs K M2 W2 H' xs ws
  | [], _, _, h => by unfold RFs at h ⊢; exact h
  | x :: xs, _, n, h => by
    unfold noRs at n
    rw [Bool.and_eq_true] at n
    unfold RFs at h ⊢
    obtain ⟨w, r, e, h1, h2⟩ := h
    exact ⟨w, r, e, RF.lk hM hT hL x n.1 h1, RFs.lk hM hT hL xs n.2 h2⟩
end
theorem FzT.out {M M2 : Addr → Prop} {q : Addr} {ws : List V} (hT : ∀ b xs, Rd H b (.tup xs) → ¬ M b → Rd H' b (.tup xs) ∧ ¬ M2 b) (h : FzT K M H q ws) : FzT K M2 H' q ws := h.imp (fun h => hT _ _ h.1 h.2) id
theorem KsOk.out {M M2 : Addr → Prop} (hT : ∀ b xs, Rd H b (.tup xs) → ¬ M b → Rd H' b (.tup xs) ∧ ¬ M2 b) : ∀ {ks : List (List Int)} {as : List Addr}, KsOk K M H ks as → KsOk K M2 H' ks as
  | [], _, h => h
  | _ :: _, _, ⟨a, r, e, h1, h2⟩ => ⟨a, r, e, h1.out hT, h2.out hT⟩
mutual
theorem RF.out {M M2 : Addr → Prop} {W2 : List Addr} (hT : ∀ b xs, Rd H b (.tup xs) → ¬ M b → Rd H' b (.tup xs) ∧ ¬ M2 b) : ∀ (v : PV) {w : V}, noR v = true → noL v = true → RF K M W H v w → RF K M2 W2 H' v w
  | .non, _, _, _, h => by unfold RF at h ⊢; exact h
  | .bl b, _, _, _, h => by unfold RF at h ⊢; exact h
  | .int i, _, _, _, h => by unfold RF at h ⊢; exact h
  | .str s, _, _, _, h => by unfold RF at h ⊢; exact h
  | .tup xs, _, n, l, h => by
    unfold RF at h ⊢
    unfold noR at n
    unfold noL at l
    obtain ⟨q, ws, e, h1, h2⟩ := h
    exact ⟨q, ws, e, h1.out hT, RFs.out hT xs n l h2⟩
  | .lst xs, _, _, n, h => by unfold noL at n; cases n
  | .ref n, _, z, _, h => by unfold noR at z; cases z
  | .fn x, _, _, _, h => by unfold RF at h ⊢; exact h
  | .dct ks vs, _, n, _, h => by unfold noR at n; cases n
  | .nti ns, _, n, _, h => by unfold noR at n; cases n
theorem RFs.out {M M2 : Addr → Prop} {W2 : List Addr} (hT : ∀ b xs, Rd H b (.tup xs) → ¬ M b → Rd H' b (.tup xs) ∧ ¬ M2 b) : ∀ (xs : List PV) {ws : List V}, noRs xs = true → noLs xs = true → RFs K M W H xs ws → RFs K M2 W2 H' xs ws
  | [], _, _, _, h => by unfold RFs at h ⊢; exact h
  | x :: xs, _, n, l, h => by
    unfold noRs at n
    unfold noLs at l
    rw [Bool.and_eq_true] at n l
    unfold RFs at h ⊢
    obtain ⟨w, r, e, h1, h2⟩ := h
    exact ⟨w, r, e, RF.out hT x n.1 l.1 h1, RFs.out hT xs n.2 l.2 h2⟩
end
theorem RO.noTup {M : Addr → Prop} {o : PO} {p : Addr} (h : RO K M W H o p) {xs : List V} : ¬ Rd H p (.tup xs) := fun z => by
  cases o with
  | lst ys => obtain ⟨ws, e, _⟩ := h; rcases z with z | ⟨_, z⟩ <;> (rw [e] at z; cases z)
  | dct ks vs => obtain ⟨as, ws, e, _⟩ := h; rcases z with z | ⟨_, z⟩ <;> (rw [e] at z; cases z)
  | dci ks vs => obtain ⟨ws, e, _⟩ := h; rcases z with z | ⟨_, z⟩ <;> (rw [e] at z; cases z)
  | ins c fs => obtain ⟨dx, ws, e, _⟩ := h; rcases z with z | ⟨_, z⟩ <;> (rw [e] at z; cases z)
theorem Rel.wT (r : Rel K tb Mx W σ H env st) {p : Addr} (h : p ∈ W ∨ Om env σ p) {xs : List V} : ¬ Rd H p (.tup xs) := by
  rcases h with h | ⟨i, o, e1, e2⟩
  · obtain ⟨i, hi, e⟩ := List.getElem_of_mem h
    have hs : i < st.length := by rw [← r.len]; exact hi
    exact (r.sto i p st[i] (by rw [List.getElem?_eq_getElem hi, e]) (List.getElem?_eq_getElem hs)).noTup
  · obtain ⟨q, e3, ro⟩ := r.own i o e1
    rw [e2] at e3; cases e3
    exact ro.noTup
end
end Mp
end
section
set_option maxRecDepth 100000
set_option maxHeartbeats 1000000
namespace Mp
open PySem PySem.Spec PyProof.Rows L2
section
variable {X : Cx} {tb : Tbs} {Wx : WX} {o i : Expr} {mk md : EM} {pos : Pos}
end
end Mp
end
section
set_option maxRecDepth 100000
set_option maxHeartbeats 1000000
namespace Mp
open PySem PySem.Spec PyProof.Rows L2
section
variable {K : PySem.W.Frag} {mg : Str → Option Value} {tb : Tbs} {Wx : WX} {mi : AM} {g : PV → MEnv → Option MEnv} {tc : TM} {me : EM} {is vs : List Nat}
end
section
variable {X : Cx} {tb : Tbs} {Wx : WX} {elt tg iter : Expr} {ifs : List Expr} {scope : Scope} {own : List (Str × Nat)} {pos : Pos} {mi : AM} {g : PV → MEnv → Option MEnv} {tc : TM} {me : EM} {is : List Nat}
end
end Mp
end
section
set_option maxRecDepth 100000
set_option maxHeartbeats 1000000
namespace Mp
open PySem PySem.Spec PyProof.Rows L2
def tEqS (ma mb : EM) : TM := fun env st => bindR (ma env st) fun a s => bindR (mb env s) fun b s' => match a with
  | .ref n => match s'[n]? with
    | some (.lst xs) => if isD (.lst xs) && isD b then .ok (pvEq (.lst xs) b) s' else .bad
    | _ => .bad
  | _ => .bad
section
variable {X : Cx} {tb : Tbs} {Wx : WX} {a b : Expr} {ma mb m : EM} {pos : Pos} {i : Nat}
theorem t_eqS (hu : X.A.units + 64 < cLine) (ha : EOk X tb Wx .F a ma) (hb : EOk X tb Wx .R b mb) (hm : behindInMarks .Eq b = false) : TOk X tb Wx (.Compare a [.Eq] [b] pos) (tEqS ma mb) :=
  PT_mono (pt_cmpR (op_eqD hu) ha hb hm) fun σ H Q ⟨Mx, W, env, st, rel, post⟩ => by
    refine ebindT rel post fun v1 s1 W1 H1 w1 a1 r1 post => ebindT a1.rel post fun v2 s2 W2 H2 w2 a2 r2 post => ?_
    have r1' : RF X.K (Mt Mx W1 env σ) W1 H1 v1 w1 := r1
    obtain ⟨n, rfl⟩ : ∃ n, v1 = .ref n := by
      cases v1 <;> first | exact ⟨_, rfl⟩ | exact post.elim
    unfold RF at r1'
    obtain ⟨p, rfl, hp⟩ := r1'
    dsimp only at post
    split at post
    rotate_left
    · exact post.elim
    rename_i xs hs
    split at post
    rotate_left
    · exact post.elim
    rename_i hk
    rw [Bool.and_eq_true] at hk
    have hp1 : W2[n]? = some p := by
      obtain ⟨t, e⟩ := a2.pre
      rw [← e, List.getElem?_append_left (List.getElem?_eq_some_iff.mp hp).1]; exact hp
    obtain ⟨ws, h1, h2⟩ := a2.rel.sto n p _ hp1 hs
    have d1 : Dp X.K H2 (.ref p) (toD (.lst xs)) := by
      have hd := isD_lst hk.1
      simp only [toD]
      exact .lst (.of h1) (RFs.dp 59 xs hd h2)
    refine ⟨toD (.lst xs), toD v2, d1, r2.dp hk.2, pd_shaped hk.1 (by decide), pd_shaped hk.2 (by decide), ?_⟩
    rw [pvEq_toD 60 60 (.lst xs) v2 hk.1 hk.2]
    exact ⟨_, rfl, post W2 H2 (.refl a2.rel)⟩
end
section
variable {K : PySem.W.Frag} {tb : Tbs} {Mx Mx2 : Addr → Prop} {W : List Addr} {σ : L2.St} {H H' : Hp} {env : MEnv} {st : Sto} {i : Nat}
end
end Mp
end
section
set_option maxRecDepth 100000
set_option maxHeartbeats 1000000
namespace Mp
open PySem PySem.Spec PyProof.Rows L2
section
variable {X : Cx} {tb : Tbs} {Wx : WX} {kx vx tg iter : Expr} {ifs : List Expr} {sc : Scope} {own : List (Str × Nat)} {pos : Pos} {mi : AM} {g : PV → MEnv → Option MEnv} {tc : TM} {mk mv : EM} {is vs : List Nat}
end
end Mp
end
section
set_option maxRecDepth 100000
set_option maxHeartbeats 1000000
namespace Mp
open PySem PySem.Spec PyProof.Rows L2
section
variable {prog : Program} {w : World} {A : Around} {R : Result → Shared → Prop} {s : Shared} {elt vx t0 i0 t1 i1 : Expr} {ifs0 ifs1 : List Expr} {scope : Scope} {pos : Pos} {it : Value} {D : Addr} {env : Env}
end
section
variable {X : Cx}
end
end Mp
end
section
set_option maxRecDepth 100000
set_option maxHeartbeats 1000000
namespace Mp
open PySem PySem.Spec PyProof.Rows L2
def isSc : PV → Bool
  | .non => true
  | .bl _ => true
  | .int _ => true
  | .str _ => true
  | _ => false
theorem RF.sc {K : PySem.W.Frag} {M M2 : Addr → Prop} {W W2 : List Addr} {H H2 : Hp} {v : PV} {w : V} (h : isSc v = true) (r : RF K M W H v w) : RF K M2 W2 H2 v w := by
  cases v <;> first | (unfold RF at r ⊢; exact r) | (unfold isSc at h; cases h)
theorem RFs.sc {K : PySem.W.Frag} {M M2 : Addr → Prop} {W W2 : List Addr} {H H2 : Hp} : ∀ {vs : List PV} {ws : List V}, (∀ v ∈ vs, isSc v = true) → RFs K M W H vs ws → RFs K M2 W2 H2 vs ws
  | [], _, _, h => by unfold RFs at h ⊢; exact h
  | v :: vs, _, q, h => by
    obtain ⟨w, r, rfl, h1, h2⟩ := h.inv
    exact RFs.cons (h1.sc (q v List.mem_cons_self)) (RFs.sc (fun x hx => q x (List.mem_cons_of_mem _ hx)) h2)
def putP (x : PV) (d : List (List Int) × List PV) : Option (List (List Int) × List PV) := match x with
  | .tup [kv, v] => match keyI kv with
    | some k => if isSc v then some (if k ∈ d.1 then (d.1, updW k v d.1 d.2) else (d.1 ++ [k], d.2 ++ [v])) else none
    | none => none
  | _ => none
def putAll : List PV → List (List Int) × List PV → Option (List (List Int) × List PV)
  | [], d => some d
  | x :: r, d => (putP x d).bind (putAll r)
theorem putAll_app : ∀ (a b : List PV) (d : List (List Int) × List PV), putAll (a ++ b) d = (putAll a d).bind (putAll b)
  | [], b, d => rfl
  | x :: a, b, d => by
    show (putP x d).bind (putAll (a ++ b)) = ((putP x d).bind (putAll a)).bind (putAll b)
    cases putP x d with
    | none => rfl
    | some e => exact putAll_app a b e
theorem updW_sc {k : List Int} {v : PV} (hv : isSc v = true) : ∀ {ks : List (List Int)} {vs : List PV}, (∀ x ∈ vs, isSc x = true) → ∀ x ∈ updW k v ks vs, isSc x = true
  | [], vs, h => by unfold updW; exact h
  | _ :: _, [], h => by unfold updW; exact h
  | q :: ks, u :: vs, h => by
    intro x hx
    unfold updW at hx
    rcases List.mem_cons.mp hx with e | hx
    · rw [e]; split
      · exact hv
      · exact h u List.mem_cons_self
    · exact updW_sc hv (fun y hy => h y (List.mem_cons_of_mem _ hy)) x hx
section
variable {K : PySem.W.Frag} {mg : Str → Option Value} {tb : Tbs} {Mx : Addr → Prop} {W W' W1 : List Addr} {σ : L2.St} {H H' H1 : Hp} {env : MEnv} {st st' : Sto} {D : Addr}
structure SdI (K : PySem.W.Frag) (tb : Tbs) (Mx : Addr → Prop) (D : Addr) (W1 : List Addr) (H1 : Hp) (σ : L2.St) (env : MEnv) (W' : List Addr) (H' : Hp) (st' : Sto) (acc : List PV) : Prop where
  rel : Rel K tb (fun b => Mx b ∨ b = D) W' σ H' env st'
  kb : KB W1 H1 No W' H' No
  acc : ∃ ks vals as ws, putAll acc ([], []) = some (ks, vals) ∧ H' D = some (dctO D ks as ws) ∧ KsOk K (fun b => Mx b ∨ b = D) H' ks as ∧ RFs K No [] (fun _ => none) vals ws ∧ (∀ v ∈ vals, isSc v = true) ∧ ks.length ≤ acc.length
theorem rd_kp {b : Addr} {xs : List V} (kp : ∀ u, H b = some u → NoTbl u → H' b = some u) (h : Rd H b (.tup xs)) : Rd H' b (.tup xs) := by
  rcases h with h | ⟨o, h⟩
  · exact .inl (kp _ h fun ps z => nomatch z)
  · exact .inr ⟨o, kp _ h fun ps z => nomatch z⟩
theorem SdI.stp {W2 : List Addr} {H2 : Hp} {s2 : Sto} {acc : List PV} (l : SdI K tb Mx D W1 H1 σ env W' H' st' acc) (a : Stp K tb (fun b => Mx b ∨ b = D) env σ W' H' W2 H2 s2) : SdI K tb Mx D W1 H1 σ env W2 H2 s2 acc := by
  have nD : D ∉ W' := fun z => (l.rel.wo D z).1 (.inr rfl)
  obtain ⟨ks, vals, as, ws, h1, h2, h3, h4⟩ := l.acc
  exact ⟨a.rel, l.kb.trans a.kb, ks, vals, as, ws, h1, a.kp D _ h2 nD noTbl_dct, h3.out fun b xs z n => ⟨rd_kp (fun u hu t => a.kp b u hu (fun y => l.rel.wT (.inl y) z) t) z, n⟩, h4⟩
theorem SdI.turn {env1 : MEnv} {σ1 : L2.St} {acc : List PV} (l : SdI K tb Mx D W1 H1 σ env W' H' st' acc) (r : Rel K tb (fun b => Mx b ∨ b = D) W' σ1 H' env1 st') : SdI K tb Mx D W1 H1 σ1 env1 W' H' st' acc :=
  ⟨r, l.kb, l.acc⟩
theorem dctO_noTab {p : Addr} {ks : List (List Int)} {as : List Addr} {ws : List V} : ¬ TabLike (dctO p ks as ws) := by
  rintro (⟨_, t⟩ | ⟨_, _, t⟩)
  · unfold dctO at t; cases t
  · exact dctO_code t
theorem SdI.push {acc : List PV} {ks as ws vals} {kv v : PV} {k : List Int} {b : Addr} {w : V} (hD : H1 D = none) (l : SdI K tb Mx D W1 H1 σ env W' H' st' acc) (h1 : putAll acc ([], []) = some (ks, vals)) (h2 : H' D = some (dctO D ks as ws)) (h3 : KsOk K (fun b => Mx b ∨ b = D) H' ks as) (h4 : RFs K No [] (fun _ => none) vals ws) (h5 : ∀ v ∈ vals, isSc v = true) (h6 : ks.length ≤ acc.length)
    (hk : keyI kv = some k) (hv : isSc v = true) (fz : FzT K (fun b => Mx b ∨ b = D) H' b (k.map V.int)) (rw' : RF K No [] (fun _ => none) v w) :
    SdI K tb Mx D W1 H1 σ env W' (if k ∈ ks then upd H' D (dctO D ks as (updW k w ks ws)) else upd H' D (dctO D (ks ++ [k]) (as ++ [b]) (ws ++ [w]))) st' (acc ++ [.tup [kv, v]]) := by
  have kbD : ∀ o, KB W1 H1 No W' (upd H' D o) No := fun o => ⟨fun b o' h n1 n2 t => by rw [upd_ne (fun z => by rw [z, hD] at h; cases h)]; exact l.kb.kp b o' h n1 n2 t, fun b h => by
    by_cases q : b = D
    · rw [q, upd_same]; simp
    · rw [upd_ne q]; exact l.kb.nt b h, l.kb.pre, l.kb.fr, fun _ h => h.elim⟩
  have hT : ∀ (o : HO) b xs, Rd H' b (.tup xs) → ¬ (Mx b ∨ b = D) → Rd (upd H' D o) b (.tup xs) ∧ ¬ (Mx b ∨ b = D) := fun o b xs z n => ⟨by unfold Rd; rw [upd_ne fun y => n (.inr y)]; exact z, n⟩
  have pa : putAll (acc ++ [.tup [kv, v]]) ([], []) = some (if k ∈ ks then (ks, updW k v ks vals) else (ks ++ [k], vals ++ [v])) := by
    rw [putAll_app, h1]
    show (putP (.tup [kv, v]) (ks, vals)).bind (putAll []) = _
    unfold putP
    dsimp only
    rw [hk]
    dsimp only
    rw [if_pos hv]
    rfl
  by_cases hm : k ∈ ks
  · rw [if_pos hm] at pa ⊢
    exact ⟨l.rel.putMxS (.inr rfl) h2 dctO_noTab, kbD _, ks, updW k v ks vals, as, updW k w ks ws, pa, upd_same, h3.out (hT _), h4.updW rw', updW_sc hv h5, by rw [List.length_append]; omega⟩
  · rw [if_neg hm] at pa ⊢
    refine ⟨l.rel.putMxS (.inr rfl) h2 dctO_noTab, kbD _, ks ++ [k], vals ++ [v], as ++ [b], ws ++ [w], pa, upd_same, (h3.snoc fz).out (hT _), h4.append (RFs.cons rw' RFs.nil), fun x hx => ?_, by rw [List.length_append, List.length_append]; simp; omega⟩
    rcases List.mem_append.mp hx with hx | hx
    · exact h5 x hx
    · rw [List.mem_singleton.mp hx]; exact hv
end
section
variable {K : PySem.W.Frag} {mg : Str → Option Value} {tb : Tbs} {Wx : WX} {mi mi1 : AM} {g g1 : PV → MEnv → Option MEnv} {tc tc1 : TM} {mk mv : EM} {is is1 vs vs1 : List Nat}
end
section
variable {X : Cx} {tb : Tbs} {Wx : WX} {kx vx tg iter tg1 iter1 : Expr} {ifs ifs1 : List Expr} {scope : Scope} {own : List (Str × Nat)} {pos : Pos} {mi mi1 : AM} {g g1 : PV → MEnv → Option MEnv} {tc tc1 : TM} {mk mv : EM} {is is1 vs1 : List Nat}
end
end Mp
end
section
set_option maxRecDepth 100000
set_option maxHeartbeats 1000000
namespace Mp
open PySem PySem.Spec PyProof.Rows L2
section
variable {X : Cx}
end
section
variable {X : Cx} {tb : Tbs} {Wx : WX} {kx vx tg iter tg1 iter1 : Expr} {ifs ifs1 : List Expr} {scope : Scope} {own : List (Str × Nat)} {pos : Pos} {mi mi1 : AM} {g g1 : PV → MEnv → Option MEnv} {tc tc1 : TM} {mk mv : EM} {is is1 vs1 : List Nat}
end
end Mp
end
section
set_option maxRecDepth 100000
set_option maxHeartbeats 1000000
namespace Mp
open PySem PySem.Spec PyProof.Rows L2
section
variable {X : Cx} {tb : Tbs} {Wx : WX} {m : VM} {s1 : Stmt}
end
end Mp
end
section
set_option maxRecDepth 100000
set_option maxHeartbeats 1000000
namespace Mp
open PySem PySem.Spec PyProof.Rows L2
section
variable {X : Cx} {tb : Tbs} {Wx : WX} {o e f k1 v1 k2 v2 : Expr} {md mk mv ma mx mb my : EM} {apos cpos pos : Pos}
end
end Mp
end
section
set_option maxRecDepth 100000
set_option maxHeartbeats 1000000
namespace ZN
open PySem
open PySem.Sem (wp)
section
variable {prog : Program} {w : World} {A : Around} {E : Value → Shared → Prop} {s : Shared}
end
section
variable {prog : Program} {w : World}
end
end ZN
namespace Mp
open PySem PySem.Spec PyProof.Rows L2
end Mp
end
section
set_option maxRecDepth 100000
set_option maxHeartbeats 4000000
namespace Mp
open PySem PySem.Spec PyProof.Rows L2
theorem tuple_mul1 (l : Addr) (items : Array Value) (n : Nat) (dd : Option Addr) (sl : Array (Option Value)) (u : Tok) :
    Meets (Builtin.«tuple.__mul__» ⟨[.ref l, .int 1 u], []⟩) (fun _ R s => s.heap.get? l = some { cls := .type "tuple", dict := dd, data := .seq items n, slots := sl } ∧ R (.ok (.ret (Value.ref l))) s) :=
  .of_wp fun prog w A R s h => by
    obtain ⟨hp, g, d, tk, os⟩ := s
    obtain ⟨hl, h⟩ := h
    have f1 := AutoSeq1.idx_int
    wp_walk using wpAny_loadPart' hl
    repeat (first
      | (refine wpAny_ite_false (by decide) ?_; wp_walk using wpAny_loadPart' hl)
      | (refine wpAny_ite_true (by simp) ?_; wp_walk using wpAny_loadPart' hl))
    all_goals (try exact ⟨_, rfl, h⟩)
theorem tuple_mul0 (l : Addr) (items : Array Value) (n : Nat) (dd : Option Addr) (sl : Array (Option Value)) (u : Tok) (hi : items.isEmpty = false) :
    Meets (Builtin.«tuple.__mul__» ⟨[.ref l, .int 0 u], []⟩) (fun _ R s => s.heap.get? l = some { cls := .type "tuple", dict := dd, data := .seq items n, slots := sl } ∧
      R (.ok (.ret (Value.ref s.heap.objs.size))) { s with heap := s.heap.push { cls := Value.type "tuple", data := Data.seq #[] }, toks := s.toks }) :=
  .of_wp fun prog w A R s h => by
    obtain ⟨hp, g, d, tk, os⟩ := s
    obtain ⟨hl, h⟩ := h
    have f1 := AutoSeq1.idx_int
    wp_walk using wpAny_loadPart' hl
    repeat (first
      | (refine wpAny_ite_false (by decide) ?_; wp_walk using wpAny_loadPart' hl)
      | (refine wpAny_ite_false (decide_eq_false (by rw [hi]; decide)) ?_; wp_walk using wpAny_loadPart' hl)
      | (refine wpAny_ite_true (by simp) ?_; wp_walk using wpAny_loadPart' hl))
    all_goals (try exact ⟨_, rfl, h⟩)
def rRepU (K : PySem.W.Frag) : R2 := fun x y H Q => ∃ l k xs, x = .ref l ∧ y = .int k ∧ SqT K H l xs ∧ xs ≠ [] ∧ 0 ≤ k ∧ k ≤ 1000 ∧ xs.length ≤ 1000 ∧ ((k = 1 ∧ Q (.ref l) H) ∨ (k ≠ 1 ∧ ∀ p, H p = none → Q (.ref p) (upd H p (.tup (List.replicate k.toNat xs).flatten))))
section
variable {X : Cx}
theorem op_repU : OpR X (binaryOp .Mult) (rRepU X.K) := by
  intro pins s σ H x y v u Q I rx ry h
  obtain ⟨l, k, xs, rfl, rfl, hT, hne, h1, h2, hz, q⟩ := h
  by_cases k2 : 2 ≤ k
  · rcases q with ⟨q, _⟩ | ⟨_, q⟩
    · omega
    · exact op_repT pins s σ H _ _ v u Q I rx ry ⟨l, k, xs, rfl, rfl, hT, hne, k2, h2, hz, q⟩
  · cases rx
    obtain ⟨t, rfl⟩ := ry
    obtain ⟨its, r, ⟨⟨cls, dd, data, sl⟩, ho, hc, n, hd⟩, hs⟩ := I.tuple hT
    simp only at hc hd
    subst hc hd
    have hle : its.length = xs.length := r.length.symm
    have hi : its.toArray.isEmpty = false := by
      cases its with
      | nil => exact absurd (List.eq_nil_of_length_eq_zero hle.symm) hne
      | cons a b => rfl
    have k01 : k = 0 ∨ k = 1 := by omega
    rcases k01 with rfl | rfl
    · rcases q with ⟨q, _⟩ | ⟨_, q⟩
      · omega
      refine wpAny_binaryOp_repeat_ref (T := "tuple") (U := "int") (by decide) ⟨_, ho, rfl⟩ (fun s' => typeIs_int s' 0 t) noFill_tuple_mul F.fills_int_mul F.slot_int_rmul repeat_tuple F.slot_int_index.lookup
        (call_meets F.slot_int_rmul (typeIs_int s 0 t) F.entry_int_rmul (F.args_int_rmul_2 _ _) (int_rmul_tuple 0 t l its.toArray n dd sl)
          ⟨ho, rfl, ⟨_, ho, rfl⟩, call_meets F.slot_tuple_mul ⟨_, ho, rfl⟩ F.entry_tuple_mul (F.args_tuple_mul_2 _ _) (tuple_mul0 l its.toArray n dd sl t hi) ⟨ho, ?_⟩⟩)
      have z : (List.replicate (0 : Int).toNat xs).flatten = [] := rfl
      rw [z] at q
      refine ⟨.ref s.heap.objs.size, _, I.laid (t' := s.toks) (o := .tup []) (fun b ob q => Heap.get?_push_of_some _ q) (Nat.le_refl _) ?_, rfl, q _ (I.hok.fresh (Nat.le_refl _))⟩
      exact ⟨Nat.zero_le _, [], .nil, IsTup.new _ _⟩
    · rcases q with ⟨_, q⟩ | ⟨q, _⟩
      · refine wpAny_binaryOp_repeat_ref (T := "tuple") (U := "int") (by decide) ⟨_, ho, rfl⟩ (fun s' => typeIs_int s' 1 t) noFill_tuple_mul F.fills_int_mul F.slot_int_rmul repeat_tuple F.slot_int_index.lookup
          (call_meets F.slot_int_rmul (typeIs_int s 1 t) F.entry_int_rmul (F.args_int_rmul_2 _ _) (int_rmul_tuple 1 t l its.toArray n dd sl)
            ⟨ho, rfl, ⟨_, ho, rfl⟩, call_meets F.slot_tuple_mul ⟨_, ho, rfl⟩ F.entry_tuple_mul (F.args_tuple_mul_2 _ _) (tuple_mul1 l its.toArray n dd sl t) ⟨ho, ?_⟩⟩)
        exact ⟨.ref l, H, I, rfl, q⟩
      · exact absurd rfl q
end
def mRepU (ma mb : EM) : EM := fun env st => bindR (ma env st) fun a s => bindR (mb env s) fun b s' => match a, b with
  | .tup xs, .int k => if xs ≠ [] ∧ xs.length ≤ 1000 ∧ 0 ≤ k ∧ k ≤ 1000 then .ok (.tup (List.replicate k.toNat xs).flatten) s' else .bad
  | _, _ => .bad
theorem e_repU {X : Cx} {tb : Tbs} {Wx : WX} {a b : Expr} {ma mb : EM} {pos : Pos} (ha : EOk X tb Wx .R a ma) (hb : EOk X tb Wx .R b mb) : EOk X tb Wx .F (.BinOp a .Mult b pos) (mRepU ma mb) :=
  PE_mono (pe_op op_repU ha hb) fun σ H Q ⟨Mx, W, env, st, rel, post⟩ => by
    refine ebindE rel post fun v1 s1 W1 H1 w1 a1 r1 post => ebindE a1.rel post fun v2 s2 W2 H2 w2 a2 r2 post => ?_
    have r1' := RV.stp a2 r1
    cases v1 with
    | tup xs =>
      obtain ⟨p, ws, rfl, h1, h2⟩ := r1'.tup
      cases v2 with
      | int k =>
        cases (RV.int r2)
        dsimp only at post
        split at post
        · rename_i hk
          obtain ⟨k1, k2, k3, k4⟩ := hk
          have hl := h2.len
          have hne : ws ≠ [] := fun z => by rw [z] at hl; exact k1 (List.eq_nil_of_length_eq_zero hl.symm)
          refine ⟨p, k, ws, rfl, rfl, h1, hne, k3, k4, by rw [hl]; exact k2, ?_⟩
          by_cases z : k = 1
          · refine .inl ⟨z, ?_⟩
            subst z
            have e : (List.replicate (1 : Int).toNat xs).flatten = xs := by simp
            rw [e] at post
            refine post W2 H2 _ (.refl a2.rel) ?_
            have r1'' : RV X.K (Mt Mx W2 env σ) W2 H2 (.tup xs) (.ref p) := r1'
            rcases r1'' with r1'' | ⟨_, _, _, z, _⟩
            · exact r1''
            · cases z
          · exact .inr ⟨z, fun q hq => post W2 _ _ (.new a2.rel hq fun ps z => nomatch z) (rf_newT (fun p z => a2.rel.mtS z) hq (RFs.rep h2 _))⟩
        · exact post.elim
      | _ => exact post.elim
    | _ => exact post.elim
end Mp
end
section
set_option maxRecDepth 100000
set_option maxHeartbeats 1000000
namespace Mp
open PySem PySem.Spec PyProof.Rows L2
structure ClsF (K : PySem.W.Frag) (mg : Str → Option Value) (c : Str) (ats : List Str) : Prop where
  cls : Cls K (clsA K c)
  glo : mg c = some (.ref (clsA K c))
  no : ∀ f ∈ ats, NoAttr K (clsA K c) f
def putA (f : Str) (v : PV) : List (Str × PV) → List (Str × PV)
  | [] => [(f, v)]
  | (g, x) :: r => if g = f then (g, v) :: r else (g, x) :: putA f v r
def insOf (c : Str) (s : Sto) (v : PV) : Option (List (Str × PV)) := match v with
  | .ref n => match s[n]? with
    | some (.ins c' fs) => if c' = c then some fs else none
    | _ => none
  | _ => none
def refN : PV → Nat
  | .ref n => n
  | _ => 0
def mFld (c f : Str) (mo : EM) : EM := fun env st => bindR (mo env st) fun o s => match (insOf c s o).bind (List.lookup f) with
  | some v => .ok v s
  | none => .bad
def sFldM (c f : Str) (mo mv : EM) : SM := fun env st => bindF (mv env st) fun v s => bindF (mo env s) fun o s1 => match insOf c s1 o with
  | some fs => if fs.length < 1000 then .nx env (s1.set (refN o) (.ins c (putA f v fs))) else .bad
  | none => .bad
section
variable {K : PySem.W.Frag} {M : Addr → Prop} {W : List Addr} {H : Hp}
theorem lookup_rf {f : Str} {v : PV} : ∀ {fs : List (Str × PV)} {ws : List V}, fs.lookup f = some v → RFs K M W H (fs.map (·.2)) ws → ∃ w, ((fs.map (·.1)).zip ws).lookup f = some w ∧ RF K M W H v w
  | [], _, h, _ => by cases h
  | (g, x) :: r, ws, h, rs => by
    obtain ⟨w, us, rfl, h1, h2⟩ := rs.inv
    rw [List.lookup_cons] at h
    show ∃ w', (((g, w) :: ((r.map (·.1)).zip us)) : List (Str × V)).lookup f = some w' ∧ _
    rw [List.lookup_cons]
    cases q : f == g with
    | true =>
      rw [q] at h
      cases h
      exact ⟨w, rfl, h1⟩
    | false =>
      rw [q] at h
      exact lookup_rf h h2
theorem put_rf {f : Str} {v : PV} {w : V} (hv : RF K M W H v w) : ∀ {fs : List (Str × PV)} {ws : List V}, RFs K M W H (fs.map (·.2)) ws → ∃ us, putF f w ((fs.map (·.1)).zip ws) = ((putA f v fs).map (·.1)).zip us ∧ RFs K M W H ((putA f v fs).map (·.2)) us
  | [], _, rs => by
    rw [rs.nil_inv]
    exact ⟨[w], rfl, RFs.cons hv RFs.nil⟩
  | (g, x) :: r, ws, rs => by
    obtain ⟨u, us, rfl, h1, h2⟩ := rs.inv
    by_cases q : g = f
    · refine ⟨w :: us, ?_, ?_⟩
      · show putF f w ((g, u) :: ((r.map (·.1)).zip us)) = _
        unfold putF putA
        rw [if_pos q, if_pos q]; rfl
      · unfold putA
        rw [if_pos q]
        exact RFs.cons hv h2
    · obtain ⟨us', e, rs'⟩ := put_rf hv h2
      refine ⟨u :: us', ?_, ?_⟩
      · show putF f w ((g, u) :: ((r.map (·.1)).zip us)) = _
        unfold putF putA
        rw [if_neg q, if_neg q, e]; rfl
      · unfold putA
        rw [if_neg q]
        exact RFs.cons h1 rs'
theorem zip_len {fs : List (Str × PV)} {ws : List V} (rs : RFs K M W H (fs.map (·.2)) ws) : ((fs.map (·.1)).zip ws).length = fs.length := by
  have := rs.len
  rw [List.length_zip, List.length_map]
  rw [List.length_map] at this
  omega
end
theorem insOf_ok {c : Str} {s : Sto} {v : PV} {fs : List (Str × PV)} (h : insOf c s v = some fs) : ∃ n, v = .ref n ∧ s[n]? = some (.ins c fs) := by
  cases v with
  | ref n =>
    cases hs : s[n]? with
    | none => simp only [insOf, hs] at h; cases h
    | some o =>
      cases o with
      | ins c' fs' =>
        simp only [insOf, hs] at h
        by_cases e : c' = c
        · rw [if_pos e] at h
          cases h
          subst e
          exact ⟨n, rfl, hs⟩
        · rw [if_neg e] at h; cases h
      | lst _ => simp only [insOf, hs] at h; cases h
      | dct _ _ => simp only [insOf, hs] at h; cases h
      | dci _ _ => simp only [insOf, hs] at h; cases h
  | _ => cases h
section
variable {X : Cx} {tb : Tbs} {Wx : WX} {c f : Str} {ats : List Str} {o e : Expr} {mo mv : EM} {pos pos' : Pos}
theorem e_fld (h : ClsF X.K X.mg c ats) (hf : f ∈ ats) (ho : EOk X tb Wx .R o mo) (hb : attributeBase o f X.env (eval o X.env) = eval o X.env := by rfl) : EOk X tb Wx .F (.Attribute o f pos) (mFld c f mo) :=
  PE_mono (pe_fld ho hb) fun σ H Q ⟨Mx, W, env, st, rel, post⟩ => by
    refine ebindE rel post fun ov s W1 H1 w a1 rm post => ?_
    cases q : insOf c s ov with
    | none => rw [q] at post; exact post.elim
    | some fs =>
      rw [q] at post
      obtain ⟨n, rfl, hs⟩ := insOf_ok q
      cases q2 : fs.lookup f with
      | none => simp only [Option.bind_some, q2] at post; exact post.elim
      | some v =>
        simp only [Option.bind_some, q2] at post
        obtain ⟨p, rfl, hp⟩ := RV.ref rm
        obtain ⟨dx, ws, e1, rs⟩ := a1.rel.sto n p _ hp hs
        obtain ⟨w', e2, rv⟩ := lookup_rf q2 rs
        exact ⟨p, _, dx, _, w', rfl, e1, h.cls, h.no f hf, e2, post W1 H1 w' (.refl a1.rel) rv⟩
theorem s_fld (h : ClsF X.K X.mg c ats) (hf : f ∈ ats) (ho : EOk X tb Wx .R o mo) (hv : EOk X tb Wx .F e mv) (hs : swapsWith e (some (.Attribute o f pos')) pos.line X.env = pure false := by rfl) : SOk X tb Wx (.Assign [.Attribute o f pos'] e pos) (sFldM c f mo mv) :=
  PS_mono (ps_fld ho hv hs) fun D σ H ⟨Mx, W0, H0, O0, W, env, st, rel, kb, post⟩ => by
    refine ebindS rel kb post fun v s W1 H1 w a1 kb1 rm post => ?_
    refine ebindS a1.rel kb1 post fun ov s1 W2 H2 w2 a2 kb2 rm2 post => ?_
    cases q : insOf c s1 ov with
    | none => rw [q] at post; exact post.elim
    | some fs =>
      rw [q] at post
      obtain ⟨n, rfl, hs'⟩ := insOf_ok q
      dsimp only [refN] at post
      split at post
      · rename_i hl
        obtain ⟨p, rfl, hp⟩ := RV.ref rm2
        obtain ⟨dx, ws, e1, rs⟩ := a2.rel.sto n p _ hp hs'
        have rm' : RF X.K (Mt Mx W2 env σ) W2 H2 v w := RF.grow a2.grow _ rm
        obtain ⟨us, e2, rs2⟩ := put_rf (f := f) rm' rs
        have st' := a2.rel.putStoO (o := .ins c (putA f v fs)) (u := .ins (clsA X.K c) dx (putF f w ((fs.map (·.1)).zip ws))) hp ⟨dx, us, by rw [upd_same, e2], RFs.grow (grow_putSto hp) _ rs2⟩
        exact ⟨p, _, dx, _, rfl, e1, h.cls, h.no f hf, by rw [zip_len rs]; exact hl, post σ W2 _ st'.rel (kb2.trans st'.kb)⟩
      · exact post.elim
end
end Mp
end
section
set_option maxRecDepth 100000
set_option maxHeartbeats 1000000
namespace Mp
open PySem PySem.Spec PyProof.Rows L2
def mNew (c : Str) (n : Nat) (m : FM) (ms : AM) : EM := fun env st => bindR (ms env st) fun vs s => if vs.length + 1 = n then (match m (.ref s.length :: vs) (s ++ [.ins c []]) with
  | .ok .non s' => .ok (.ref s.length) s'
  | .exc x s' => .exc x s'
  | _ => .bad) else .bad
def mMeth (c mt : Str) (n : Nat) (m : FM) (mo : EM) (ms : AM) : EM := fun env st => bindR (mo env st) fun o s => match insOf c s o with
  | some fs => if (fs.lookup mt).isNone = true then bindR (ms env s) fun vs s1 => if vs.length + 1 = n then m (o :: vs) s1 else .bad else .bad
  | none => .bad
structure CalC (P : Program) (w : World) (K : PySem.W.Frag) (mg : Str → Option Value) (base : Heap) (tb : Tbs) (k : Nat) (c mt : Str) (n : Nat) (m : FM) : Prop where
  ex : ∃ f fd ps, FnOk P w K mg base (L2.CX P w) k f fd ps (spM K mg tb n m) ∧ Cls K (clsA K c) ∧ Meth K (clsA K c) mt f ∧ Binds K fd ps []
structure CalI (P : Program) (w : World) (K : PySem.W.Frag) (mg : Str → Option Value) (base : Heap) (tb : Tbs) (k : Nat) (c : Str) (n : Nat) (m : FM) : Prop where
  ex : ∃ f fd ps, FnOk P w K mg base (L2.CX P w) k f fd ps (spM K mg tb n m) ∧ Mk K (clsA K c) f ∧ mg c = some (.ref (clsA K c)) ∧ Binds K fd ps []
section
variable {X : Cx} {CX : CXT} {k : Nat} {f C : Addr} {fd : FuncData} {ps : List Str} {sp : Sp} {E : L2.St → XK} {x m : Str} {p pos apos : Pos} {e o : Expr} {es : List Expr} {ta : TE} {t : TA}
def tMethW (C : Addr) (m : Str) (sp : Sp) (E : L2.St → XK) (ta : TE) (t : TA) : TE := fun σ H Q => ta σ H fun x H1 => ∃ a dx fs, x = .ref a ∧ H1 a = some (.ins C dx fs) ∧ fs.lookup m = none ∧ t σ H1 fun vs H2 => sp (x :: vs) H2 Q (E σ)
def tMakeW (C : Addr) (sp : Sp) (E : L2.St → XK) (t : TA) : TE := fun σ H Q => t σ H fun vs H1 => ∀ x dx, H1 x = none → H1 dx = none → dx ≠ x →
  sp (.ref x :: vs) (upd (upd H1 dx (.own x)) x (.ins C dx [])) (fun v H2 => v = .non ∧ Q (.ref x) H2) (E σ)
theorem pe_methW0 {pl : Sem Bool} (he : PE X o ta) (c : Cls X.K C) (hm : Meth X.K C m f) (F : FnOk X.prog X.w X.K X.mg X.base CX k f fd ps sp) (hr : Room k X.A) (hb : Binds X.K fd ps []) (hx : ∀ σ, PassesAt CX X σ (E σ))
    (ht : eval (.Call (.Attribute o m apos) [] [] pos) X.env = (do
      let ov ← eval o X.env
      standAt apos.atName
      let (f, first) ← holding [ov] (getMethod ov m pl)
      callWith pos f first (backTo pos (starEach [] X.env)) (backToKw pos (keywordEach [] X.env))) := by rfl) :
    PE X (.Call (.Attribute o m apos) [] [] pos) (tMethW C m sp E ta tNil) := by
  refine ⟨fun pins s σ H Q I h => ?_⟩
  refine PySem.W.methodCall_KW (pl := pl) (thn (he.run pins s σ H _ I h) fun u s1 ⟨x, H1, I1, rx, a, dx, fs, ex, ea, l, q⟩ => ?_) ht
  subst ex
  obtain rfl : u = Value.ref a := rx
  refine getmeth_ok I1 ea c hm l ?_
  exact PySem.W.callWith_K0 (first := [.ref a]) I1.kIn hm.kp (run_fnS (us := [.ref a]) (vs := [.ref a]) F hr hb (hx σ) I1 (.cons rfl .nil) q)
theorem run_makeW {pins : List (Addr × Obj)} {σ : L2.St} {H : Hp} {s : Shared} {Q : VK} {us : List Value} {vs : List V} (M : Mk X.K C f) (F : FnOk X.prog X.w X.K X.mg X.base CX k f fd ps sp) (hr : Room (k + 1) X.A) (hb : Binds X.K fd ps [])
    (hx : PassesAt CX X σ (E σ)) (I : Inv X pins σ H s) (r : Vals vs us)
    (h : ∀ x dx, H x = none → H dx = none → dx ≠ x → sp (.ref x :: vs) (upd (upd H dx (.own x)) x (.ins C dx [])) (fun v H2 => v = .non ∧ Q (.ref x) H2) (E σ)) :
    wpAny (model X.prog X.w) X.A (call (.ref C) us) (EP X pins σ Q) X.xe s := by
  have hq := h (s.heap.objs.size + 1) s.heap.objs.size (I.hok.fresh (Nat.le_succ _)) (I.hok.fresh (Nat.le_refl _)) (Nat.ne_of_lt (Nat.lt_succ_self _))
  have I2 := Inv.made (C := C) I
  have r2 : Vals (V.ref (s.heap.objs.size + 1) :: vs) (Value.ref (s.heap.objs.size + 1) :: us) := .cons rfl r
  have hl : (Value.ref (s.heap.objs.size + 1) :: us).length = ps.length := by
    have e := r2.length
    rw [F.len _ _ _ _ hq] at e
    exact e.symm
  have b := hb _ (Value.ref (s.heap.objs.size + 1) :: us) I2.kIn (by rw [List.append_nil]; exact hl)
  rw [List.append_nil] at b
  refine wpAny_call (make_map (f := f) I.kIn M.makes M.init (beq_iff_eq.mp M.fn) (codeAny_mono (F.run _ X.stack _ _ ⟨Value.ref (s.heap.objs.size + 1) :: us, []⟩ (Value.ref (s.heap.objs.size + 1) :: us) _ _ (E σ) (hr.make C us [])
    (I2.env0.make C us []) b r2 hq) fun r s' hq' => ?_))
  cases r with
  | error e => exact hx pins _ _ e s' I2 hq'
  | ok fl =>
    cases fl with
    | ret u =>
      obtain ⟨v, H', I3, rv, ev, q3⟩ := I2.after hq'
      subst ev
      exact ⟨rv, ⟨V.ref (s.heap.objs.size + 1), H', I3, rfl, q3⟩⟩
    | next => exact False.elim hq'
    | brk => exact False.elim hq'
    | cont => exact False.elim hq'
theorem pe_makeW0 (M : Mk X.K C f) (F : FnOk X.prog X.w X.K X.mg X.base CX k f fd ps sp) (hr : Room (k + 1) X.A) (hg : Gl X x) (hm : X.mg x = some (.ref C)) (hb : Binds X.K fd ps []) (hx : ∀ σ, PassesAt CX X σ (E σ))
    (hdb : (x == ("__debug__" : Str)) = false := by decide) : PE X (.Call (.Name x p) [] [] pos) (tMakeW C sp E tNil) := by
  refine ⟨fun pins s σ H Q I h => ?_⟩
  refine wpAny_Call_Name_kw (ld_glob I hg hm ?_ hdb)
  exact PySem.W.callWith_K0 I.kIn M.kp (run_makeW (us := []) M F hr hb (hx σ) I .nil h)
end
section
variable {K : PySem.W.Frag} {tb : Tbs} {Mx : Addr → Prop} {W : List Addr} {σ : L2.St} {H : Hp} {env : MEnv} {st : Sto}
theorem Rel.newIns {c : Str} {x dx : Addr} (r : Rel K tb Mx W σ H env st) (hx : H x = none) (hdx : H dx = none) (ne : dx ≠ x) :
    Stp K tb Mx env σ W H (W ++ [x]) (upd (upd H dx (.own x)) x (.ins (clsA K c) dx [])) (st ++ [.ins c []]) := by
  have rD := (r.new (o := .own x) hdx (fun ps z => nomatch z)).less (Mx' := Mx) fun b z => .inl z
  have hx' : upd H dx (.own x) x = none := by rw [upd_ne (fun z => ne z.symm)]; exact hx
  have nm : ¬ Mx x := fun z => r.mx x z hx
  have rX := rD.new (o := .ins (clsA K c) dx []) hx' (fun ps z => nomatch z)
  have rS := Rel.toStoO (o := .ins c []) nm rX ⟨dx, [], upd_same, RFs.nil⟩
  have keep : ∀ b u, H b = some u → upd (upd H dx (.own x)) x (.ins (clsA K c) dx []) b = some u := fun b u h => by
    rw [upd_ne (fun z => by rw [z, hx] at h; cases h), upd_ne (fun z => by rw [z, hdx] at h; cases h)]; exact h
  refine ⟨rS, fun b u h _ _ => keep b u h, fun b h => ?_, List.prefix_append _ _, fun b h => ?_⟩
  · cases q : H b with
    | none => exact absurd q h
    | some u => rw [keep b u q]; simp
  · rcases List.mem_append.mp h with z | z
    · exact .inl z
    · rw [List.mem_singleton.mp z]; exact .inr hx
end
section
variable {X : Cx} {tb : Tbs} {Wx : WX} {e o : Expr} {es : List Expr} {ms : AM} {mo : EM} {pos p apos : Pos} {k j n : Nat} {c mt : Str} {m : FM} {ats : List Str}
theorem new_read {C : Addr} (eC : C = clsA X.K c) {ts : TA} (tk : Takes X Wx) (hts : ∀ (Mx : Addr → Prop) (W : List Addr) (σ : L2.St) (H : Hp) (env : MEnv) (st : Sto) (Q : List V → Hp → Prop), Rel X.K tb Mx W σ H env st → APost X.K X.mg tb Mx W σ H env Wx true (ms env st) Q → ts σ H Q) :
    ∀ σ H Q, tM X.K X.mg tb Wx .F (mNew c n m ms) σ H Q → tMakeW C (spM X.K X.mg tb n m) (WE Wx) ts σ H Q := fun σ H Q ⟨Mx, W, env, st, rel, post⟩ => by
  subst eC
  refine hts Mx W σ H env st _ rel ?_
  unfold mNew at post
  cases qm : ms env st with
  | bad => rw [qm] at post; exact post.elim
  | exc x s => rw [qm] at post; exact post
  | ok vs s =>
    rw [qm] at post
    intro W1 H1 ws a1 r1
    have post : EPost X.K X.mg tb Mx W σ H env Wx .F (if vs.length + 1 = n then (match m (.ref s.length :: vs) (s ++ [.ins c []]) with
      | .ok .non s' => .ok (.ref s.length) s'
      | .exc x s' => .exc x s'
      | _ => .bad) else .bad) Q := post
    split at post
    rotate_left
    · exact post.elim
    rename_i hl
    intro x dx hx hdx ne
    have aS := a1.rel.newIns (c := c) hx hdx ne
    have aT := a1.trans aS
    have hW : (W1 ++ [x])[s.length]? = some x := by rw [← a1.rel.len]; simp
    have r1' : RFs X.K (Mt Mx W1 env σ) W1 H1 vs ws := r1
    have r2 := RFs.grow aS.grow _ r1'
    have rx : RF X.K (Mt Mx (W1 ++ [x]) env σ) (W1 ++ [x]) (upd (upd H1 dx (.own x)) x (.ins (clsA X.K c) dx [])) (.ref s.length) (.ref x) := by unfold RF; exact ⟨x, rfl, hW⟩
    refine ⟨fun b => Mx b ∨ Om env σ b, W1 ++ [x], s ++ [.ins c []], .ref s.length :: vs, hl, aS.rel.toCall, RFs.grow (Grow.less fun b z => Mt.call.mp z) _ (RFs.cons rx r2), ?_⟩
    cases q : m (.ref s.length :: vs) (s ++ [.ins c []]) with
    | bad => rw [q] at post; exact post.elim
    | exc y st' =>
      rw [q] at post
      exact fun W' H' cls d r' kb ry => post W' H' cls d (aT.trans (aS.rel.back r' kb)) ry
    | ok v st' =>
      rw [q] at post
      cases v with
      | non =>
        intro W' H' w r' kb rf
        have ew : w = .non := by unfold RF at rf; exact rf
        refine ⟨ew, post W' H' (.ref x) (aT.trans (aS.rel.back r' kb)) ?_⟩
        show RF X.K (Mt Mx W' env σ) W' H' (.ref s.length) (.ref x)
        unfold RF
        refine ⟨x, rfl, ?_⟩
        obtain ⟨t, rfl⟩ := kb.pre
        rw [List.getElem?_append_left (List.getElem?_eq_some_iff.mp hW).1]; exact hW
      | _ => exact post.elim
end
end Mp
end
section
set_option maxRecDepth 100000
set_option maxHeartbeats 1000000
namespace Mp
open PySem PySem.Spec PyProof.Rows L2
theorem lookup_zno {f : Str} : ∀ {fs : List (Str × PV)} {ws : List V}, fs.lookup f = none → ws.length = fs.length → ((fs.map (·.1)).zip ws).lookup f = none
  | [], _, _, _ => rfl
  | (g, x) :: r, [], _, h => by simp at h
  | (g, x) :: r, w :: ws, h, hl => by
    rw [List.lookup_cons] at h
    show (((g, w) :: ((r.map (·.1)).zip ws)) : List (Str × V)).lookup f = none
    rw [List.lookup_cons]
    cases q : f == g with
    | true => rw [q] at h; cases h
    | false =>
      rw [q] at h
      exact lookup_zno h (by simpa using hl)
section
variable {X : Cx} {tb : Tbs} {Wx : WX} {e o : Expr} {es : List Expr} {ms : AM} {mo : EM} {pos p apos : Pos} {k j n : Nat} {c mt : Str} {m : FM} {ats : List Str}
theorem e_new0 (cI : CalI X.prog X.w X.K X.mg X.base tb k c n m) (hr : Room j X.A) (hk : k + 1 ≤ j) (hg : Gl X c) (tk : Takes X Wx)
    (hdb : (c == ("__debug__" : Str)) = false := by decide) : EOk X tb Wx .F (.Call (.Name c p) [] [] pos) (mNew c n m aNil) := by
  obtain ⟨f, fd, ps, F, M, hm, hb⟩ := cI.ex
  exact PE_mono (pe_makeW0 M F (hr.mono hk) hg hm hb (fun σ => passAt tk σ) hdb) (new_read rfl tk fun Mx W σ H env st Q rel ap => ap W H [] (.refl rel) (show RFs X.K (Mt Mx W env σ) W H [] [] from RFs.nil))
theorem meth_read {ta : TA} (hta : ∀ (Mx : Addr → Prop) (W : List Addr) (σ : L2.St) (H : Hp) (env : MEnv) (st : Sto) (Q : List V → Hp → Prop), Rel X.K tb Mx W σ H env st → APost X.K X.mg tb Mx W σ H env Wx true (ms env st) Q → ta σ H Q) :
    ∀ σ H Q, tM X.K X.mg tb Wx .F (mMeth c mt n m mo ms) σ H Q → tMethW (clsA X.K c) mt (spM X.K X.mg tb n m) (WE Wx) (tM X.K X.mg tb Wx .R mo) ta σ H Q := fun σ H Q ⟨Mx, W, env, st, rel, post⟩ => by
  refine ebindE rel post fun ov s W1 H1 w a1 rm post => ?_
  cases q : insOf c s ov with
  | none => rw [q] at post; exact post.elim
  | some fs =>
    rw [q] at post
    obtain ⟨i, rfl, hs⟩ := insOf_ok q
    dsimp only at post
    split at post
    rotate_left
    · exact post.elim
    rename_i hn
    obtain ⟨a, rfl, hp⟩ := RV.ref rm
    obtain ⟨dx, ws, e1, rs⟩ := a1.rel.sto i a _ hp hs
    refine ⟨a, dx, _, rfl, e1, lookup_zno (by simpa using hn) (by rw [rs.len, List.length_map]), ?_⟩
    refine hta Mx W1 σ H1 env s _ a1.rel ?_
    cases qm : ms env s with
    | bad => rw [qm] at post; exact post.elim
    | exc y s1 => rw [qm] at post; exact post
    | ok vs s1 =>
      rw [qm] at post
      intro W2 H2 us a2 r2
      have post : EPost X.K X.mg tb Mx W1 σ H1 env Wx .F (if vs.length + 1 = n then m (.ref i :: vs) s1 else .bad) Q := post
      split at post
      rotate_left
      · exact post.elim
      rename_i hl
      have hW : W2[i]? = some a := by
        obtain ⟨t, rfl⟩ := a2.pre
        rw [List.getElem?_append_left (List.getElem?_eq_some_iff.mp hp).1]; exact hp
      have r2' : RFs X.K (Mt Mx W2 env σ) W2 H2 vs us := r2
      have rx : RF X.K (Mt Mx W2 env σ) W2 H2 (.ref i) (.ref a) := by unfold RF; exact ⟨a, rfl, hW⟩
      refine ⟨fun b => Mx b ∨ Om env σ b, W2, s1, .ref i :: vs, hl, a2.rel.toCall, RFs.grow (Grow.less fun b z => Mt.call.mp z) _ (RFs.cons rx r2'), ?_⟩
      cases q2 : m (.ref i :: vs) s1 with
      | bad => rw [q2] at post; exact post.elim
      | ok v st' =>
        rw [q2] at post
        exact fun W' H' w r' kb rf => post W' H' w (a2.trans (a2.rel.back r' kb)) (RF.grow (Grow.less fun b z => Mt.call.mpr z) _ rf)
      | exc x st' =>
        rw [q2] at post
        exact fun W' H' cls d r' kb rx => post W' H' cls d (a2.trans (a2.rel.back r' kb)) rx
theorem e_meth0 {pl : Sem Bool} (cC : CalC X.prog X.w X.K X.mg X.base tb k c mt n m) (hr : Room j X.A) (hk : k ≤ j) (tk : Takes X Wx) (ho : EOk X tb Wx .R o mo)
    (ht : eval (.Call (.Attribute o mt apos) [] [] pos) X.env = (do
      let ov ← eval o X.env
      standAt apos.atName
      let (f, first) ← holding [ov] (getMethod ov mt pl)
      callWith pos f first (backTo pos (starEach [] X.env)) (backToKw pos (keywordEach [] X.env))) := by rfl) : EOk X tb Wx .F (.Call (.Attribute o mt apos) [] [] pos) (mMeth c mt n m mo aNil) := by
  obtain ⟨f, fd, ps, F, hc, hm, hb⟩ := cC.ex
  exact PE_mono (pe_methW0 (pl := pl) ho hc hm F (hr.mono hk) hb (fun σ => passAt tk σ) ht) (meth_read fun Mx W σ H env st Q rel ap => ap W H [] (.refl rel) (show RFs X.K (Mt Mx W env σ) W H [] [] from RFs.nil))
end
structure MtAt (K : PySem.W.Frag) (cs : List (Addr × Addr)) (tg : Addr → Option Str) (lt : Option Str) (x q : Str) (st : Stmt) (f : Addr) (fd : FuncData) (c P : Addr) : Prop where
  fun_ : FunD K x q (defArgs st) (defBody st) (defScope st) [] [] f fd
  code : fd.code = .ref c
  mem : (c, P) ∈ cs
  tag : tg P = lt
section
variable {P : Program} {w : World} {K : PySem.W.Frag} {mg : Str → Option Value} {base : Heap} {cs : List (Addr × Addr)} {tg : Addr → Option Str} {lt : Option Str} {x q cl : Str} {st : Stmt}
theorem mk_fnM {N ps : List Str} {k : Nat} {body : SM} {f : Addr} {fd : FuncData} {c T : Addr} (F : MtAt K cs tg lt x q st f fd c T) (S : FnScope N ps (defScope st)) (TB : ∀ p ∈ cs, GxR.TabB base mg p.1 p.2)
    (hb : ∀ (A : Around) (outer : List Env) (s : Shared) (H : Hp) (E : XK), DX (dX P w K mg base N q st f c A outer s H E) (tbO cs tg) (fun cls d _ H' => E cls d H') k c T lt →
      BOk (dX P w K mg base N q st f c A outer s H E) (tbO cs tg) (fun cls d _ H' => E cls d H') (defBody st) body) :
    FnOk P w K mg base (L2.CX P w) (k + 1) f fd ps (spM K mg (tbO cs tg) ps.length (fnM N.length body)) := by
  obtain ⟨oc, od, dV, kV, doc, pm, an, cdv, ct, osl, rfl, lk, hcd, _, _⟩ := F.fun_.ex
  obtain rfl : cdv = .ref c := F.code
  refine fn_of lk hcd S (fun vs H Q E h => ?_) fun A outer s H vs Q E hr hsp => ⟨_, hb A outer s H E ⟨?_, rfl, hr, rfl, TB _ F.mem, List.mem_map.mpr ⟨_, F.mem, rfl⟩, F.tag⟩, body_read hsp⟩
  · obtain ⟨_, _, _, args, hl, _, ra, _⟩ := h
    rw [ra.len]; exact hl
  · exact takes_of (X := dX P w K mg base N q st f c A outer s H E) rfl rfl rfl (E₁ := fun e' s'' => L2.CX P w outer H s E e' s'') rfl
theorem mk_calC {N ps : List Str} {k : Nat} {body : SM} {f : Addr} {fd : FuncData} {c T : Addr} (F : MtAt K cs tg lt x q st f fd c T) (hc : Cls K (clsA K cl)) (hm : Meth K (clsA K cl) x f) (S : FnScope N ps (defScope st)) (TB : ∀ p ∈ cs, GxR.TabB base mg p.1 p.2)
    (hbind : ∀ (kV doc pm : Value) (an : Option Addr) (cdv ct : Value) (us : List Value), us.length = ps.length → bindArgs (PySem.W.fnOf x q (defArgs st) (defBody st) (defScope st) .none kV doc pm an cdv ct) ⟨us, []⟩ = pure (ps.zip us))
    (hb : ∀ (A : Around) (outer : List Env) (s : Shared) (H : Hp) (E : XK), DX (dX P w K mg base N q st f c A outer s H E) (tbO cs tg) (fun cls d _ H' => E cls d H') k c T lt →
      BOk (dX P w K mg base N q st f c A outer s H E) (tbO cs tg) (fun cls d _ H' => E cls d H') (defBody st) body) :
    CalC P w K mg base (tbO cs tg) (k + 1) cl x ps.length (fnM N.length body) :=
  ⟨f, fd, ps, mk_fnM F S TB hb, hc, hm, F.fun_.bindsN hbind⟩
theorem mk_calI {N ps : List Str} {k : Nat} {body : SM} {f : Addr} {fd : FuncData} {c T : Addr} (F : MtAt K cs tg lt x q st f fd c T) (hM : Mk K (clsA K cl) f) (hg : mg cl = some (.ref (clsA K cl))) (S : FnScope N ps (defScope st)) (TB : ∀ p ∈ cs, GxR.TabB base mg p.1 p.2)
    (hbind : ∀ (kV doc pm : Value) (an : Option Addr) (cdv ct : Value) (us : List Value), us.length = ps.length → bindArgs (PySem.W.fnOf x q (defArgs st) (defBody st) (defScope st) .none kV doc pm an cdv ct) ⟨us, []⟩ = pure (ps.zip us))
    (hb : ∀ (A : Around) (outer : List Env) (s : Shared) (H : Hp) (E : XK), DX (dX P w K mg base N q st f c A outer s H E) (tbO cs tg) (fun cls d _ H' => E cls d H') k c T lt →
      BOk (dX P w K mg base N q st f c A outer s H E) (tbO cs tg) (fun cls d _ H' => E cls d H') (defBody st) body) :
    CalI P w K mg base (tbO cs tg) (k + 1) cl ps.length (fnM N.length body) :=
  ⟨f, fd, ps, mk_fnM F S TB hb, hM, hg, F.fun_.bindsN hbind⟩
end
theorem mtAt_of {K : PySem.W.Frag} {h : Heap} {cs : List (Addr × Addr)} {tg : Addr → Option Str} {lt : Option Str} {d : He.DefD} {st : Stmt} {c x q : Str} (hd : ∃ fd, FunD K d.name d.qual d.params d.body d.scope (d.dvs K) (d.kws K) (He.fAd K d.at_) fd) (t : ∃ c P, TabAt h K d c P ∧ (c, P) ∈ cs ∧ tg P = lt)
    (e1 : d.at_ = (c, some x) := by rfl) (e2 : d.name = x := by rfl) (e3 : d.qual = q := by rfl) (e4 : d.params = defArgs st := by rfl) (e5 : d.body = defBody st := by rfl) (e6 : d.scope = defScope st := by rfl) (e7 : d.dfl = [] := by rfl) (e8 : d.kwd = [] := by rfl) :
    ∃ fd cc T, MtAt K cs tg lt x q st (He.ma K (He.ga K c) x) fd cc T := by
  obtain ⟨fd, F⟩ := hd
  obtain ⟨cc, P, T, m, tgE⟩ := t
  obtain ⟨at_, name, qual, params, body, scope, dfl, kwd⟩ := d
  dsimp only at e1 e2 e3 e4 e5 e6 e7 e8
  subst e1 e2 e3 e4 e5 e6 e7 e8
  refine ⟨fd, cc, P, F, ?_, m, tgE⟩
  obtain ⟨oc, od, fd2, osl, lk, hc⟩ := T.fn
  obtain ⟨oc', od', dV, kV, doc, pm, an, cdv, ct, osl', e, lk', _⟩ := F.ex
  rw [lk] at lk'
  cases lk'
  exact hc
end Mp
end
section
set_option maxRecDepth 100000
set_option maxHeartbeats 1000000
namespace Mp
open PySem PySem.Spec PyProof.Rows L2
section
variable {X : Cx}
end
section
variable {K : PySem.W.Frag} {M : Addr → Prop} {W : List Addr} {H : Hp}
end
section
variable {X : Cx} {tb : Tbs} {Wx : WX} {e o a b : Expr} {m ma mb : EM} {pos p apos cpos : Pos} {x : Str}
end
end Mp
end
section
set_option maxRecDepth 100000
set_option maxHeartbeats 1000000
namespace Mp
open PySem PySem.Spec PyProof.Rows L2
section
variable {X : Cx} {tb : Tbs} {Wx : WX} {mo mi : EM} {e : Expr}
end
end Mp
end
section
set_option maxRecDepth 100000
set_option maxHeartbeats 1000000
namespace Mp
open PySem PySem.Spec PyProof.Rows L2
end Mp
end
section
set_option maxRecDepth 100000
set_option maxHeartbeats 1000000
namespace Mp
open PySem PySem.Spec PyProof.Rows L2 GxR
section
variable {P : Program} {w : World} {K : PySem.W.Frag} {mg : Str → Option Value} {base : Heap} {cs : List (Addr × Addr)} {tg : Addr → Option Str} {lt : Option Str} {x y : Str} {st : Stmt}
end
end Mp
end
section
set_option maxRecDepth 100000
set_option maxHeartbeats 1000000
namespace Mp
open PySem PySem.Spec PyProof.Rows L2
def stN (i j c : Int) : Nat := if i < j then ((j - i - 1) / c + 1).toNat else 0
theorem rgOk_c {i : Int} (h : rgOk i = true) : -1000000000000000 ≤ i ∧ i ≤ 1000000000000000 := by
  unfold rgOk at h
  rw [Bool.and_eq_true] at h
  exact ⟨of_decide_eq_true h.1, of_decide_eq_true h.2⟩
theorem RgC.pos {i j c : Int} (hi : rgOk i = true) (hj : rgOk j = true) (h0 : 0 < c) (h1 : c < 1000000) : RgC i j c (stN i j c) := by
  have a := rgOk_c hi
  have b := rgOk_c hj
  refine ⟨by omega, by omega, ?_, ?_⟩
  · unfold Builtin.Range.small Builtin.Range.rangeSize
    have e : 0 ≤ (j - i - 1) / c ∨ ¬ i < j := by
      by_cases q : i < j
      · exact .inl (Int.ediv_nonneg (by omega) (by omega))
      · exact .inr q
    have e2 : (j - i - 1) / c ≤ j - i - 1 ∨ ¬ i < j := by
      by_cases q : i < j
      · exact .inl (Int.ediv_le_self _ (by omega))
      · exact .inr q
    have m1 : i < j → ((j - i - 1) / c) * c ≤ j - i - 1 := fun q => by
      have := Int.mul_ediv_self_le (x := j - i - 1) (k := c) (by omega)
      rw [Int.mul_comm] at this; exact this
    simp only [Builtin.Range.rangeFitsLong, Bool.and_eq_true, Bool.or_eq_true, decide_eq_true_eq, beq_iff_eq, show c > 0 from h0, if_true]
    split
    · rename_i q
      have m2 := m1 q
      have m3 : ((j - i - 1) / c + 1) * c = ((j - i - 1) / c) * c + c := by rw [Int.add_mul, Int.one_mul]
      have m4 : ((j - i - 1) / c + 1 - 1) * c = ((j - i - 1) / c) * c := by rw [Int.add_sub_cancel]
      omega
    · omega
  · unfold Builtin.Range.rangeSize stN
    rw [if_pos h0]
    by_cases q : i < j
    · rw [if_pos q, if_pos q]
      have : 0 ≤ (j - i - 1) / c := Int.ediv_nonneg (by omega) (by omega)
      omega
    · rw [if_neg q, if_neg q]; rfl
end Mp
end
section
set_option maxRecDepth 100000
set_option maxHeartbeats 1000000
namespace Mp
open PySem PySem.Spec PyProof.Rows L2
section
variable {K : PySem.W.Frag} {mg : Str → Option Value} {tb : Tbs} {Mx M : Addr → Prop} {W W' W1 W0 : List Addr} {σ : L2.St} {H H' H1 H0 : Hp} {env : MEnv} {st st' st1 : Sto} {Wx : WX}
end
section
variable {X : Cx} {tb : Tbs} {Wx : WX} {a e ek ev : Expr} {mk mv : EM} {pos pos' : Pos} {i j : Nat} {x : Str}
end
end Mp
end
section
set_option maxRecDepth 100000
set_option maxHeartbeats 1000000
namespace Mp
open PySem PySem.Spec PyProof.Rows L2
section
variable {P : Program} {w : World} {K : PySem.W.Frag} {d : Addr} {o : Obj} {es : Array DictEntry} {ep : Nat} {ks : List (List Int)} {as : List Addr} {ws : List V}
end
end Mp
end
section
set_option maxRecDepth 100000
set_option maxHeartbeats 1000000
namespace Mp
open PySem PySem.Spec PyProof.Rows L2
end Mp
end
section
set_option maxRecDepth 100000
set_option maxHeartbeats 4000000
namespace Mp
open PySem PySem.Spec PyProof.Rows L2 GxR LamX
section
variable {X : Cx} {tb : Tbs} {Wx : WX} {params : Arguments} {body e : Expr} {scope : Scope} {x : Str} {i k : Nat} {mk me : EM} {p lpos kpos pos p2 pos2 : Pos} {c P : Addr}
variable {σ : L2.St} {env : MEnv} {Mx : Addr → Prop} {W1 : List Addr} {H1 : Hp} {st1 stF : Sto} {f c' : Addr} {pm ctv : Value} {pins : List (Addr × Obj)}
end
end Mp
end
section
set_option maxRecDepth 100000
set_option maxHeartbeats 1000000
namespace Mp
open PySem PySem.Spec PyProof.Rows L2
end Mp
end
section
set_option maxRecDepth 100000
set_option maxHeartbeats 1000000
namespace RT2
open PySem PySem.Spec PyProof.Rows L2 RT
section
variable {prog : Program} {w : World} {A : Around} {E : Value → Shared → Prop} {s : Shared}
end
section
variable {X : Cx}
end
end RT2
namespace Mp
open PySem PySem.Spec PyProof.Rows L2
end Mp
end
section
set_option maxRecDepth 100000
set_option maxHeartbeats 1000000
namespace Mp
open PySem PySem.Spec PyProof.Rows L2
def mSplit (mo me : EM) : EM := fun env st => bindR (mo env st) fun a s => match a with
  | .str x => bindR (me env s) fun b s1 => match b with
    | .str y => if (y.length == 0) = false ∧ x.length ≤ 100000 then .ok (.lst ((Txt.split x y).map PV.str)) s1 else .bad
    | _ => .bad
  | _ => .bad
def mPart (mo me : EM) : EM := fun env st => bindR (mo env st) fun a s => match a with
  | .str x => bindR (me env s) fun b s1 => match b with
    | .str y => if (y.length == 0) = false ∧ x.length ≤ 100000 then .ok (.tup [.str (Txt.partition x y).1, .str (Txt.partition x y).2.1, .str (Txt.partition x y).2.2]) s1 else .bad
    | _ => .bad
  | _ => .bad
theorem rfs_strs {K : PySem.W.Frag} {M : Addr → Prop} {W : List Addr} {H : Hp} : ∀ ys : List Str, RFs K M W H (ys.map PV.str) (ys.map V.str)
  | [] => RFs.nil
  | y :: ys => RFs.cons (by unfold RF; rfl) (rfs_strs ys)
section
variable {X : Cx} {tb : Tbs} {Wx : WX} {o e : Expr} {mo me : EM} {apos pos : Pos}
theorem e_split (ho : EOk X tb Wx .R o mo) (he : EOk X tb Wx .R e me) (hs : starEach [e] X.env = [(false, eval e X.env)] := by rfl) (hbase : attributeBase o "split" X.env (eval o X.env) = eval o X.env := by rfl) (hline : (apos.endLine == pos.line) = true := by rfl) :
    EOk X tb Wx .N (.Call (.Attribute o "split" apos) [e] [] pos) (mSplit mo me) :=
  PE_mono (pe_split ho he hs hbase hline) fun σ H Q ⟨Mx, W, env, st, rel, post⟩ => by
    refine ebindE rel post fun v s W1 H1 w a1 r1 post => ?_
    split at post
    rotate_left
    · exact post.elim
    rename_i x
    cases r1.str
    refine ⟨⟨x, rfl⟩, ?_⟩
    refine ebindE a1.rel post fun v2 s2 W2 H2 w2 a2 r2 post => ?_
    split at post
    rotate_left
    · exact post.elim
    rename_i y
    cases r2.str
    split at post
    rotate_left
    · exact post.elim
    rename_i hc
    exact ⟨x, y, rfl, rfl, hc.1, by rw [sizeLine_eq]; omega, fun q hq => post W2 _ _ (.new a2.rel hq noTbl_lst) (rm_newL a2.rel hq (rfs_strs _))⟩
theorem e_part (ho : EOk X tb Wx .R o mo) (he : EOk X tb Wx .R e me) (hs : starEach [e] X.env = [(false, eval e X.env)] := by rfl) (hbase : attributeBase o "partition" X.env (eval o X.env) = eval o X.env := by rfl) (hline : (apos.endLine == pos.line) = true := by rfl) :
    EOk X tb Wx .F (.Call (.Attribute o "partition" apos) [e] [] pos) (mPart mo me) :=
  PE_mono (pe_partition ho he hs hbase hline) fun σ H Q ⟨Mx, W, env, st, rel, post⟩ => by
    refine ebindE rel post fun v s W1 H1 w a1 r1 post => ?_
    split at post
    rotate_left
    · exact post.elim
    rename_i x
    cases r1.str
    refine ⟨⟨x, rfl⟩, ?_⟩
    refine ebindE a1.rel post fun v2 s2 W2 H2 w2 a2 r2 post => ?_
    split at post
    rotate_left
    · exact post.elim
    rename_i y
    cases r2.str
    split at post
    rotate_left
    · exact post.elim
    rename_i hc
    exact ⟨x, y, rfl, rfl, hc.1, by rw [sizeLine_eq]; omega, fun q hq => post W2 _ _ (.new a2.rel hq noTbl_tup) (rf_newT (fun p z => a2.rel.mtS z) hq (rfs_strs [_, _, _]))⟩
end
def bIntS (s : Sto) : List PV → Option PV
  | [.str a] => if a.length ≤ 640 then (PySem.intText? a).map PV.int else none
  | xs => bInt s xs
theorem cv_intS {X : Cx} : CallV X (.type "int") bIntS := by
  intro pins s σ H xs us Q I r h
  obtain ⟨M, W, st, args, v, hm, so, ra, hg, q⟩ := h
  unfold bIntS at hg
  split at hg
  · rename_i a
    split at hg
    rotate_left
    · cases hg
    rename_i hl
    cases qi : PySem.intText? a with
    | none => rw [qi] at hg; cases hg
    | some n =>
      rw [qi] at hg
      cases hg
      obtain ⟨w, rfl, r1⟩ := RVs1 ra
      cases r1.str
      exact call_int_str pins s σ H _ us Q I r ⟨a, n, rfl, qi, hl, q H _ (.inl rfl) rf_int⟩
  · exact cv_int pins s σ H xs us Q I r ⟨M, W, st, args, v, hm, so, ra, hg, q⟩
end Mp
end
section
set_option maxRecDepth 100000
set_option maxHeartbeats 1000000
namespace Mp
open PySem PySem.Spec PyProof.Rows L2
def xtB (K : PySem.W.Frag) (x fld : Str) : Bool := match clsAt K x with
  | some C => xfB K C && decide (PySem.W.findIn K (.ref C) fld = some none)
  | none => false
def sRaiseN (x fld : Str) (m : EM) : SM := fun env st => bindF (m env st) fun v s => match v with
  | .int i => .ex ⟨x, .tup [.str fld, .int i]⟩ s
  | _ => .ex ⟨x, .bl true⟩ s
theorem s_raiseN {X : Cx} {tb : Tbs} {Wx : WX} {x fld : Str} {e : Expr} {m : EM} {p pos pos' : Pos} (F : ∃ C fI, Pap X.prog X.K X.mg x fld C fI) (hr : Room 1 X.A) (cm : X.calm = true) (tk : Takes X Wx) (hg : Gl X x) (he : EOk X tb Wx .F e m) (hdb : (x == ("__debug__" : Str)) = false := by decide)
    (hs : starEach [e] X.env = (false, eval e X.env) :: starEach [] X.env := by rfl) :
    SOk X tb Wx (.Raise (some (.Call (.Name x p) [e] [] pos)) none pos') (sRaiseN x fld m) := by
  obtain ⟨C, fI, F⟩ := F
  have ha : AOk X tb Wx true [e] (aCons m aNil) := a_consF he a_nil hs
  refine PS_mono (ps_raise cm tk (pmk_pap F hr hg ha hdb hs)) fun D σ H ⟨Mx, W0, H0, O0, W, env, st, rel, kb, post⟩ => ?_
  refine ⟨Mx, W, env, st, rel, ?_⟩
  unfold sRaiseN at post
  cases q : m env st with
  | bad => rw [q] at post; exact post.elim
  | exc x s =>
    rw [q] at post
    have e1 : aCons m aNil env st = .exc x s := by show bindR (m env st) _ = _; rw [q]; rfl
    rw [e1]
    exact fun W' H' cls d a rx => post σ W' H' cls d a.rel.bare (kb.trans a.kb).none rx
  | ok v s =>
    rw [q] at post
    have e1 : aCons m aNil env st = .ok [v] s := by show bindR (m env st) _ = _; rw [q]; rfl
    rw [e1]
    intro W' H' ws a rm
    have rm : RFs X.K (Mt Mx W' env σ) W' H' [v] ws := rm
    obtain ⟨w, rfl⟩ : ∃ w, ws = [w] := by
      have := rm.len
      match ws, this with
      | [w], _ => exact ⟨w, rfl⟩
    refine ⟨w, rfl, fun d hd => ?_⟩
    have b := a.trans (Stp.new a.rel hd (o := .xd [(fld, w)]) (fun ps z => nomatch z))
    obtain ⟨w', r', ew, rv, _⟩ := rm.inv
    cases ew
    cases v with
    | int i =>
      unfold RF at rv
      subst rv
      exact post σ W' _ (.ref C) (some d) b.rel.bare (kb.trans b.kb).none ⟨F.gl, .inr (.inr ⟨fld, i, d, rfl, rfl, upd_same⟩)⟩
    | _ => exact post σ W' _ (.ref C) (some d) b.rel.bare (kb.trans b.kb).none ⟨F.gl, .inr (.inl rfl)⟩
end Mp
end
section
set_option maxRecDepth 100000
set_option maxHeartbeats 1000000
namespace Mp
open PySem PySem.Spec PyProof.Rows L2
def mSliceX (m : EM) (lo hi : PM) : EM := fun env st => bindR (m env st) fun v s => bindR (lo env s) fun l s1 => bindR (hi env s1) fun h s2 => match v with
  | .tup xs => .ok (.tup (cutL xs l h)) s2
  | .lst xs => .ok (.lst (cutL xs l h)) s2
  | .str z => if z.length ≤ 100000 then .ok (.str (cutS z l h)) s2 else .bad
  | _ => .bad
def cInX (a b : PV) : Option PV := match b with
  | .str y => match a with
    | .str x => some (.bl (Txt.contains y x))
    | _ => none
  | _ => cIn a b
section
variable {X : Cx} {tb : Tbs} {Wx : WX} {e : Expr} {m : EM} {lo hi : Option Expr} {ml mh : PM} {pos p2 : Pos}
theorem e_sliceX (he : EOk X tb Wx .R e m) (hl : POk X tb Wx lo ml) (hh : POk X tb Wx hi mh) : EOk X tb Wx .F (.Subscript e (.Slice lo hi none p2) pos) (mSliceX m ml mh) :=
  PE_mono (pe_slice (SlR.or (SlR.or sl_list sl_tupA) sl_str) he hl hh) fun σ H Q ⟨Mx, W, env, st, rel, post⟩ => by
    refine ebindE rel post fun v s W1 H1 w a1 r1 post => pbindE a1.rel post fun l s1 W2 H2 a2 post => pbindE a2.rel post fun h s2 W3 H3 a3 post => ?_
    have r1' := RV.stp a3 (RV.stp a2 r1)
    cases v with
    | lst xs =>
      obtain ⟨p, ws, rfl, h1, h2⟩ := r1'.lst
      exact .inl (.inl ⟨p, ws, rfl, h1, fun q hq => post W3 _ _ (.new a3.rel hq noTbl_lst) (rf_newL (fun p z => a3.rel.mtS z) hq h2.cut)⟩)
    | tup xs =>
      obtain ⟨p, ws, rfl, h1, h2⟩ := r1'.tup
      refine .inl (.inr ⟨p, ws, rfl, h1, fun z => ?_, fun _ q hq => post W3 _ _ (.new a3.rel hq noTbl_tup) (rf_newT (fun p z => a3.rel.mtS z) hq h2.cut)⟩)
      rw [h2.len] at z
      dsimp only at post
      rw [cut_whole z] at post
      rcases r1' with r1' | ⟨_, _, _, z', _⟩
      · exact post W3 H3 _ (.refl a3.rel) r1'
      · cases z'
    | str z =>
      dsimp only at post
      split at post
      · rename_i hz
        cases r1.str
        exact .inr ⟨z, rfl, Nat.le_trans hz (by decide), post W3 H3 _ (.refl a3.rel) rm_str⟩
      · exact post.elim
    | _ => exact post.elim
theorem opv_inX (hu : X.A.units + 65 < cLine) : OpV X (compareOp .In) cInX := by
  intro pins s σ H x y v u Q I rx ry h
  obtain ⟨M, W, a, b, r, hm, ra, rb, hg, q⟩ := h
  unfold cInX at hg
  split at hg
  · rename_i y'
    split at hg
    · cases hg; cases ra.str; cases rb.str
      obtain ⟨t, rfl⟩ := rx
      obtain ⟨t', rfl⟩ := ry
      exact PyProof.Rows.in_str (fin_bl I (q H _ (.inl rfl) rf_bl) rfl)
    · cases hg
  · exact opv_in hu pins s σ H x y v u Q I rx ry ⟨M, W, a, b, r, hm, ra, rb, hg, q⟩
end
def sgs (x : Str) : List PV := x.cps.toList.map fun c => PV.str ⟨#[c]⟩
def iSeqS (m : EM) : AM := fun env st => bindR (m env st) fun v s => match v with | .str x => .ok (sgs x) s | _ => .bad
theorem wlk_str {K : PySem.W.Frag} {M : Addr → Prop} {W : List Addr} {H : Hp} {x : Str} : WlkI K (Its x) (sgs x) M W H where
  go := fun i M' W' H' g hi => by
    have : i < x.cps.size := by simpa [sgs] using hi
    exact this
  yl := fun i M' W' H' v H2 y g hm hy ⟨e, c, hc, f⟩ => by
    subst e
    subst f
    refine ⟨.inl rfl, ?_⟩
    unfold sgs at hy
    rw [List.getElem?_map, Array.getElem?_toList, hc] at hy
    cases hy
    exact rf_str
  st := fun M' W' H' g => by
    show x.cps.size ≤ (sgs x).length
    simp [sgs]
theorem i_seqS {X : Cx} {tb : Tbs} {Wx : WX} {tg l : Expr} {m : EM} (h : EOk X tb Wx .R l m) : IOk X tb Wx tg l (iSeqS m) := PI_mono (pi_str h) fun σ H R ⟨Mx, W, env, st, rel, post⟩ => by
  refine ⟨Mx, W, env, st, rel, ?_⟩
  unfold iSeqS at post
  cases q : m env st with
  | bad => rw [q] at post; exact post.elim
  | exc x s => rw [q] at post; exact post
  | ok v s =>
    rw [q] at post
    intro W' H' w a rm
    cases v with
    | str x =>
      have rm' : RV X.K (Mt Mx W' env σ) W' H' (.str x) w := rm
      cases rm'.str
      exact ⟨x, rfl, post W' H' _ a wlk_str⟩
    | _ => exact post.elim
theorem contains_one (z : Str) (c : Nat) : Txt.contains z ⟨#[c]⟩ = decide (c ∈ z.cps.toList) := PySem.StrLaws.found_one z c
end Mp
end
section
set_option maxRecDepth 100000
set_option maxHeartbeats 1000000
namespace Mp
open PySem PySem.Spec PyProof.Rows L2
section
variable {M : Model} {A : Around} {E : Value → Shared → Prop} {s : Shared} {Z : Obj → Prop} {base : Heap} {env : Env} {outer l : List Env} {L e : Addr}
theorem looks_anyZ {fl : Value} {Q : Unit → Shared → Prop} (hZ : HandSPX.Steady Z) (hfr : A.frames = some (env :: outer)) (hf : env.frame = some L) (hne : (fl == rawInt L) = false) (hkb : base.StaysIn s.heap) (hen : base.get? e = none) (hl : s.heap.FunFrames base (env :: outer)) (ht : HandSPX.TracedZ s.heap base e Z fl)
    (hQ : ∀ h', HandSPX.HeldZ base (env :: outer) e Z L h' → s.heap.UpToSlots h' → Q () { s with heap := h' }) : wpAny M A (noteFrame (.ref e) env) Q E s := by
  obtain ⟨oe, vs, T, oT, ts, he, hz, hd, h1, hnT, hTe, hT, hdT, h3⟩ := ht
  unfold noteFrame
  simp only [hf]
  refine wpAny_bind (wpAny_field he hd h1 ?_)
  rw [if_pos (show (Value.ref T != Value.none) = true from by simp)]
  refine wpAny_bind (wpAny_field hT hdT h3 ?_)
  rw [if_neg (show ¬ ((fl == rawInt L) = true) from by rw [hne]; exact Bool.false_ne_true)]
  refine wpAny_bind (wpAny_setField hT hdT (Array.getElem?_eq_some_iff.mp h3).1 ?_)
  have other : ∀ b, b ≠ T → (s.heap.update T (Obj.mapFields (·.setIfInBounds 3 Value.none))).get? b = s.heap.get? b := fun b hb => Heap.get?_update_other _ _ (Ne.symm hb)
  have noRecord : ∀ b o, s.heap.get? b = some o → (∀ vs, o.data ≠ .fields vs) → b ≠ T := fun b o hb hnf q => by
    rw [q, hT] at hb; injection hb with hb; subst hb; exact hnf ts hdT
  refine HandSPX.wpAny_entryZ hZ hfr (hl.of_keeps fun b o hb hnf => ⟨o, (other b (noRecord b o hb hnf)).trans hb, rfl⟩) hf ((other e (Ne.symm hTe)).trans he)
    (fun b o hbo => (other b fun q => by rw [q, hnT] at hbo; cases hbo).trans (hkb b o hbo)) hen hd (Array.getElem?_eq_some_iff.mp h1).1 hz fun h' hN => ?_
  obtain ⟨x1, x2, x3, x4⟩ := hN
  exact hQ h' ⟨x1, hen, x2, x3⟩ fun b o hb hnf => x4 b o ((other b (noRecord b o hb hnf)).trans hb) hnf
theorem sky_note {C a : Addr} {B : Heap} {Q : Unit → Shared → Prop} (hZ : HandSPX.Steady Z) (hfr : A.frames = some (env :: outer)) (hf : env.frame = some L) (x : Sky B (env :: outer) a Z C s.heap)
    (hQ : ∀ h', HandSPX.HeldZ B (env :: outer) a Z L h' → s.heap.UpToSlots h' → Q () { s with heap := h' }) : wpAny M A (noteFrame (.ref a) env) Q E s := by
  rcases x with ⟨hB, hn, hl, oe, vs, he, hz, hd, h1⟩ | fl | hh
  · exact HandSPX.look_newZ hZ hfr hl hf he hB hn hd h1 hz hQ
  · exact HandSPX.looks_onZ hZ hfr hf fl hQ
  · by_cases q : C = L
    · subst q
      exact HandSPX.againZ hf hh.2.2.2 (hQ s.heap hh (Heap.UpToSlots.refl _))
    · obtain ⟨k1, k2, k3, k4⟩ := hh
      exact looks_anyZ hZ hfr hf (by rw [beq_eq_false_iff_ne]; intro z; injection z with z1; exact q (by first | exact Int.ofNat.inj z1 | exact z1 | omega)) k1 k2 k3 k4 hQ
theorem frames_base {h B B' : Heap} (k : ∀ b, B.get? b = none → B'.get? b = none) : ∀ {l : List Env}, h.FunFrames B l → h.FunFrames B' l
  | [], _ => trivial
  | _ :: _, ⟨h1, ⟨L, o, h2, h3, h4, h5⟩, h6⟩ => ⟨h1, ⟨L, o, h2, k L h3, h4, h5⟩, frames_base k h6⟩
end
section
variable {X : Cx} {pins : List (Addr × Obj)} {σ : L2.St} {H3 : Hp} {s3 : Shared} {scope : Scope} {ce : Env} {fp : List Addr} {Wx : WX}
theorem blk_takes (I3 : Inv X pins σ H3 s3) (hC : ce.locals = s3.heap.objs.size) (hcf : ce.frame = X.env.frame) (hst : X.stack = X.env :: X.outer) (hf : X.env.frame = some X.env.locals) (tk : Takes X Wx) (f3 : ∀ b ∈ fp, FpOk X pins H3 b ∧ b < s3.heap.objs.size) :
    Takes ((X.blk s3 H3 scope ce fp).tr [] (notedBy (model X.prog X.w) X.A ce (CompFails (model X.prog X.w) X.A X.xe ce))) (fun cls d _ H' => Wx cls d σ H') := by
  rintro u s' ⟨a, B, sI, pins', σ', H', cls, d, rfl, I, nb, up, sky, na, os, ag, w⟩
  show wpAny (model X.prog X.w) X.A (noteFrame (.ref a) ce) (fun _ s'' => CompFails (model X.prog X.w) X.A X.xe ce (.ref a) s'') (CompFails (model X.prog X.w) X.A X.xe ce) s'
  rw [noteFrame_env _ hcf]
  have hfr : X.A.frames = some (X.env :: X.outer) := by
    have e : X.A.frames = some X.stack := I.ok.frames
    rw [e, hst]
  have nb : ∀ b o, sI.heap.get? b = some o → b ∉ frs X.stack → B.get? b = some o := nb
  have sky : Sky B X.stack a (Zc cls d) ce.locals s'.heap := sky
  rw [hst] at sky
  refine sky_note Zc.steady hfr hf sky fun h1 hh up1 => ?_
  obtain ⟨m, hn, _⟩ := I.loc
  have hn : sI.heap.Ns ce.locals m := hn
  have up01 : sI.heap.UpToSlots h1 := up.trans up1
  refine ⟨m, hn.upToSlots up01, fun h2 m2 hn2 hs2 => ?_⟩
  have hs2 : ∀ b, b ≠ ce.locals → h2.get? b = h1.get? b := hs2.2
  have hs2' : Heap.SameBut ce.locals h1 h2 := by assumption
  obtain ⟨k1, k2, k3, oe, vs, T, oT, ts, he, hz, hd, hv1, hnT, hTe, hT, hdT, hv3⟩ := hh
  have hn1 : h1.Ns ce.locals m := hn.upToSlots up01
  have nf : ∀ b o vs, h1.get? b = some o → o.data = .fields vs → b ≠ ce.locals := fun b o vs e e2 q => by
    obtain ⟨oL, es, ep, q1, q2, _⟩ := hn1
    rw [q, q1] at e
    cases e
    rw [q2] at e2; cases e2
  have bC : ∀ b o, (PySem.W.hideAll B [ce.locals]).get? b = some o → B.get? b = some o ∧ b ≠ ce.locals := fun b o e => ⟨PySem.W.of_hideAll _ e, fun q => by
    rw [PySem.W.hideAll_none [ce.locals] (by rw [q]; exact .head _)] at e; cases e⟩
  have bN : ∀ b, B.get? b = none → (PySem.W.hideAll B [ce.locals]).get? b = none := fun b e => by
    cases q : (PySem.W.hideAll B [ce.locals]).get? b with
    | none => rfl
    | some o => rw [(bC b o q).1] at e; cases e
  have held : HandSPX.HeldZ (PySem.W.hideAll B [ce.locals]) (X.env :: X.outer) a (Zc cls d) X.env.locals h2 :=
    ⟨fun b o e => (hs2 b (bC b o e).2).trans (k1 b o (bC b o e).1), bN a k2, frames_base bN (Heap.FunFrames.sameBut hs2' hn2 k3),
      oe, vs, T, oT, ts, (hs2 a (nf a oe vs he hd)).trans he, hz, hd, hv1, bN T hnT, hTe, (hs2 T (nf T oT ts hT hdT)).trans hT, hdT, hv3⟩
  unfold PySem.passOn
  refine wpAny_bind (wpAny_field ((hs2 a (nf a oe vs he hd)).trans he) hd hv1 ?_)
  rw [if_neg (show ¬ ((Value.ref T == Value.none) = true) from by simp)]
  rw [hcf, hf]
  refine wpAny_bind (HandSPX.setFlight_onZ held fun h4 held4 up4 => ?_)
  refine wpAny_throw ?_
  -- the state without the exception, without the block's names
  have nC : H' ce.locals = none := I.free
  have lt3 : ∀ b o, s3.heap.get? b = some o → b ≠ ce.locals := fun b o e q => by
    have := Heap.lt_size e
    rw [q, hC] at this
    exact absurd this (Nat.lt_irrefl _)
  have hid : ∀ {b : Addr} {o : Obj}, sI.heap.get? b = some o → b ≠ ce.locals → (PySem.W.hideAll sI.heap [ce.locals]).get? b = some o := fun e n => PySem.W.hideAll_get _ e (by simpa using n)
  have u3 : Un (frs X.stack) fp H3 H' s3.heap sI.heap := I.base
  have hok : HOk X.prog X.w H' (PySem.W.hideAll sI.heap [ce.locals]) := fun b o q => (I.hok b o q).stay (fun c v hc r => hid r fun z => by
    rcases hc with hc | hc
    · rw [hc] at z; rw [z] at q; rw [nC] at q; cases q
    · rw [z, nC] at hc; cases hc) (fun _ r => r) fun _ _ r => r
  have IJ : Inv X pins σ H' { sI with heap := PySem.W.hideAll sI.heap [ce.locals] } := I3.call' (s' := { sI with heap := PySem.W.hideAll sI.heap [ce.locals] }) (ch := fp) I.os
    ⟨fun b o e n hb hx => hid (u3.keep b o e n hb hx) (lt3 b o e), fun b o e n hb hx => by
      obtain ⟨sl, q⟩ := u3.slot b o e n hb hx
      exact ⟨sl, hid q (lt3 b o e)⟩, u3.free, fun b o e hx => by
      obtain ⟨o', q⟩ := u3.there b o e hx
      exact ⟨o', hid q (lt3 b o e)⟩, u3.tups, u3.frzs, u3.tbls⟩ hok I.bare fun b hb => ⟨(f3 b hb).1.2.2.2.1, (f3 b hb).1.2.1, (f3 b hb).1.2.2.2.2.1, (f3 b hb).1.2.2.2.2.2⟩
  refine tk _ _ ⟨a, PySem.W.hideAll B [ce.locals], { sI with heap := PySem.W.hideAll sI.heap [ce.locals] }, pins, σ, H', cls, d, rfl, IJ, fun b o e hb => ?_, fun b o e hnf => ?_, .inr (.inr (by rw [hst]; exact held4)), na, os, ag, w⟩
  · have e1 := PySem.W.of_hideAll [ce.locals] e
    have n1 : b ≠ ce.locals := fun q => by
      have : (PySem.W.hideAll sI.heap [ce.locals]).get? b = none := PySem.W.hideAll_none [ce.locals] (by rw [q]; exact .head _)
      have e : (PySem.W.hideAll sI.heap [ce.locals]).get? b = some o := e
      rw [this] at e; cases e
    exact PySem.W.hideAll_get _ (nb b o e1 hb) (by simpa using n1)
  · have e1 := PySem.W.of_hideAll [ce.locals] e
    have n1 : b ≠ ce.locals := fun q => by
      have : (PySem.W.hideAll sI.heap [ce.locals]).get? b = none := PySem.W.hideAll_none [ce.locals] (by rw [q]; exact .head _)
      have e : (PySem.W.hideAll sI.heap [ce.locals]).get? b = some o := e
      rw [this] at e; cases e
    obtain ⟨sl, q1⟩ := up01 b o e1 hnf
    have q2 := (hs2 b n1).trans q1
    have up4 : h2.UpToSlots h4 := up4
    obtain ⟨sl2, q3⟩ := up4 b _ q2 hnf
    exact ⟨sl2, q3⟩
end
end Mp
end
section
set_option maxRecDepth 100000
set_option maxHeartbeats 1000000
namespace Mp
open PySem PySem.Spec PyProof.Rows L2
section
variable {X : Cx}
def tLcX (wi : TI) (g : TG) (tt : TT) (te : L2.St → TE) (vs : List Nat) : TE := fun σ H Q => wi σ H fun J H1 => ∀ D, H1 D = none → ∃ W : Nat → Nat → Hp → Prop, (∃ m, W 0 m (upd H1 D (.lst []))) ∧ ∀ i m H, W i m H →
  (J.stop i H ∧ Q (.ref D) H) ∨ (J.go i H ∧ ∃ Nx : Hp → Prop, (∀ H', Nx H' → ∃ m', m' < m ∧ W (i + 1) m' H') ∧ ∀ x H', J.yld i H x H' → g x (wipe σ vs) H' fun σ2 H2 => wipe σ2 vs = wipe σ vs ∧ tt σ2 H2 fun b H3 =>
    if b = true then te σ σ2 H3 fun y H4 => ∃ acc, H4 D = some (.lst acc) ∧ acc.length < sizeLine ∧ Nx (upd H4 D (.lst (acc ++ [y]))) else Nx H3)
theorem lc_coreX {pins : List (Addr × Obj)} {s : Shared} {σ : L2.St} {H : Hp} {Q : VK} {elt tg iter : Expr} {ifs : List Expr} {scope : Scope} {own : List (Str × Nat)} {pos pos' : Pos} {wi : TI} {g : TG} {tt : TT} {te : L2.St → TE} {Wx : WX} {Qf : Value → Shared → Prop}
    (hc : X.calm = true) (hN : X.N.Nodup) (I : Inv X pins σ H s) (hi : PI X tg iter wi) (ok : BlkOk X.N X.env.scope scope own)
    (hg : ∀ (s : Shared) (H : Hp) (C : Addr) (cl : List (Str × Addr)) (fp : List Addr), PG (X.blk s H scope (compEnvC scope cl C X.env) fp) tg g) (ht : ∀ (s : Shared) (H : Hp) (C : Addr) (cl : List (Str × Addr)) (fp : List Addr), PTs (X.blk s H scope (compEnvC scope cl C X.env) fp) ifs tt)
    (hst : X.stack = X.env :: X.outer) (hf : X.env.frame = some X.env.locals) (tk : Takes X Wx) (he : ∀ (s : Shared) (H : Hp) (C : Addr) (cl : List (Str × Addr)) (fp : List Addr) (xe : Value → Shared → Prop), Takes ((X.blk s H scope (compEnvC scope cl C X.env) fp).tr [] xe) (fun cls d _ H' => Wx cls d σ H') → PE ((X.blk s H scope (compEnvC scope cl C X.env) fp).tr [] xe) elt (te σ)) (hs : ∀ x, foldedSetIterable iter X.env x = pure x)
    (h : tLcX wi g tt te (own.map (·.2)) σ H Q)
    (hRR : ∀ D C s' m H', Inv X pins σ H' s' → Q (.ref D) H' → s'.heap.Ns C m → FpOk X pins H' C → ∃ m, s'.heap.Ns C m ∧ ∀ h', Heap.SameBut C s'.heap h' → Qf (.ref D) { s' with heap := h' }) :
    wpAny (model X.prog X.w) X.A (comprehension (.ListComp elt [⟨tg, iter, ifs, 0⟩] scope pos) scope X.env pos' (newList []) false (eval iter X.env) none) Qf X.xe s := by
  have hfree : ∀ y ∈ scope.names, y.2 = .free → ∃ c, X.env.cells.lookup y.1 = some c := fun y hy e => by
    rcases ok.free y hy e with k | k
    · exact I.ok.has _ (.inl k)
    · exact I.ok.has _ (.inr k)
  refine comprehension_at (use := none) rfl hs (closure_ok hfree) ok.kind (fun y hy e => by rw [ok.uniq y hy, e])
    (thn (hi.run pins s σ H _ I h) fun xv s1 hx => thn hx fun itv s2 h2 => ?_)
  obtain ⟨it, fp, tn, J, H2, e, I2, T, st2, f2, q⟩ := h2
  subst e
  refine wpAny_newObj_type (newEnv_comp ?_) (by show 0 ≤ sizeLine; decide)
  generalize hD : s2.heap.objs.size = D
  have hDn : H2 D = none := I2.hok.fresh (Nat.le_of_eq hD)
  obtain ⟨W, ⟨m0, w0⟩, turn⟩ := q D hDn
  -- the new list
  generalize hs3 : ({ s2 with heap := s2.heap.push { cls := .type "list", data := .seq ([] : List Value).toArray } } : Shared) = s3
  have I3 : Inv X pins σ (upd H2 D (.lst [])) s3 := by
    rw [← hs3]
    refine I2.laid (t' := s2.toks) (fun b o e => Heap.get?_push_of_some _ e) (Nat.le_of_eq hD) ⟨Nat.zero_le _, [], 0, .nil, ?_⟩
    rw [← hD]
    exact Heap.get?_push_size _ rfl
  have h3 : s3.heap = s2.heap.push { cls := .type "list", data := .seq ([] : List Value).toArray } := by rw [← hs3]
  have sz : ∀ b ∈ fp, b < s2.heap.objs.size := fun b hb => by
    obtain ⟨o, e, _⟩ := T.obj _ _ st2 b hb
    exact Heap.lt_size e
  have f3 : ∀ b ∈ fp, FpOk X pins (upd H2 D (.lst [])) b ∧ b < s3.heap.objs.size := fun b hb => by
    have hlt := sz b hb
    refine ⟨⟨?_, (f2 b hb).2⟩, by rw [h3, Heap.size_push]; exact Nat.lt_succ_of_lt hlt⟩
    rw [upd_ne (by rw [← hD]; exact Nat.ne_of_lt hlt)]
    exact (f2 b hb).1
  have st3 : tn 0 s3.heap := T.keep _ _ _ st2 fun b _ o e => by rw [h3]; exact Heap.get?_push_of_some _ e
  have I4 := block_start I3 ok hN f3
  have pg := hg s3 (upd H2 D (.lst [])) s3.heap.objs.size (cellsFrom (s3.heap.objs.size + 1) scope.names (cloFrom X.env.cells scope.names [])) fp
  have pt := ht s3 (upd H2 D (.lst [])) s3.heap.objs.size (cellsFrom (s3.heap.objs.size + 1) scope.names (cloFrom X.env.cells scope.names [])) fp
  have pe := fun xe => he s3 (upd H2 D (.lst [])) s3.heap.objs.size (cellsFrom (s3.heap.objs.size + 1) scope.names (cloFrom X.env.cells scope.names [])) fp xe
  show codeAny _ _ (.compStart (.ListComp elt [⟨tg, iter, ifs, 0⟩] scope pos) 0 (.ref it) (.ref D) (compEnvC scope (cellsFrom (s3.heap.objs.size + 1) scope.names (cloFrom X.env.cells scope.names [])) s3.heap.objs.size X.env)) (compEnds (model X.prog X.w) X.A X.xe none Qf (.ref D) (compEnvC scope (cellsFrom (s3.heap.objs.size + 1) scope.names (cloFrom X.env.cells scope.names [])) s3.heap.objs.size X.env)) { s3 with heap := pushCells (s3.heap.push { cls := .type "dict", data := .dict #[] }) scope.names }
  have nfp : ∀ b ∈ fp, (upd H2 D (.lst [])) b = none := fun b hb => (f3 b hb).1.1
  generalize hce : compEnvC scope (cellsFrom (s3.heap.objs.size + 1) scope.names (cloFrom X.env.cells scope.names [])) s3.heap.objs.size X.env = ce at I4 pg pt pe ⊢
  have cL : ce.locals = s3.heap.objs.size := by subst hce; rfl
  have cF : ce.frame = X.env.frame := by subst hce; rfl
  generalize hH3 : upd H2 D (.lst []) = H3 at I3 I4 pg pt pe w0 nfp f3
  have air := blk_takes (scope := scope) (ce := ce) (fp := fp) I3 cL cF hst hf tk f3
  have pe := pe _ air
  generalize hs4 : ({ s3 with heap := pushCells (s3.heap.push { cls := .type "dict", data := .dict #[] }) scope.names } : Shared) = s4 at I4 ⊢
  have st4 : tn 0 s4.heap := T.keep _ _ _ st3 fun b _ o e => by rw [← hs4]; exact pushCells_keeps _ _ _ _ (Heap.get?_push_of_some _ e)
  have stat : ∀ {σ' : L2.St} {H' : Hp} {s' : Shared}, Inv (X.blk s3 H3 scope ce fp) [] σ' H' s' → (∀ b ∈ fp, H' b = none) → ∀ b ∈ fp, FpOk (X.blk s3 H3 scope ce fp) [] H' b := fun {σ' H' s'} I' hn b hb =>
    ⟨hn b hb, (I'.ok.exf b hb).1, I'.ok.exfs b hb, .inl hb, fun x c e => (I'.ok.exf b hb).2 x c e, fun p hp => absurd (show p ∈ ([] : List (Addr × Obj)) ++ [] from hp) (by simp)⟩
  have loop : codeAny (model X.prog X.w) X.A (.compLoop (.ListComp elt [⟨tg, iter, ifs, 0⟩] scope pos) 0 (.ref it) (.ref D) ce) (compEnds (model X.prog X.w) X.A X.xe none Qf (.ref D) ce) s4 := by
    refine compLoop_any (fun n s' => ∃ i H', Inv (X.blk s3 H3 scope ce fp) [] (wipe σ (own.map (·.2))) H' s' ∧ tn i s'.heap ∧ (∀ b ∈ fp, H' b = none) ∧ W i n H') ?_ m0 ⟨0, H3, I4, st4, nfp, w0⟩
    rintro n s5 ⟨i, H5, I5, st5, n5, w5⟩
    rcases turn i n H5 w5 with ⟨stop, qq⟩ | ⟨go, Nx, hNx, step⟩
    · have td := T.done (X.blk s3 H3 scope ce fp) rfl rfl rfl hc i [] s5 _ H5 (fun _ _ => False) I5 (stat I5 n5) st5 stop
      refine thnF td fun r s6 ⟨hr, I6⟩ => ?_
      subst hr
      -- back in the def's context
      have I7 : Inv X pins σ H5 s6 := I3.call' (ch := fp) I6.os I6.base I6.hok I6.bare fun b hb => ⟨(f3 b hb).1.2.2.2.1, (f3 b hb).1.2.1, (f3 b hb).1.2.2.2.2.1, (f3 b hb).1.2.2.2.2.2⟩
      have nC : H5 s3.heap.objs.size = none := by
        have z : H5 ce.locals = none := I6.free
        rw [cL] at z
        exact z
      obtain ⟨m, hn, _⟩ := I6.loc
      have hn : s6.heap.Ns ce.locals m := hn
      rw [cL] at hn
      obtain ⟨m1, hn1, q1⟩ := hRR D s3.heap.objs.size s6 m H5 I7 qq hn (I3.fpOk (Nat.le_refl _) nC)
      refine ⟨m1, by rw [cL]; exact hn1, fun h' sb => q1 h' ?_⟩
      rw [cL] at sb
      exact sb
    · have ti := T.item (X.blk s3 H3 scope ce fp) rfl rfl rfl hc i [] s5 _ H5 (fun _ _ => False) I5 (stat I5 n5) st5 go
      refine thnF ti fun r s6 ⟨u, hr, h6⟩ => ?_
      subst hr
      refine thnF h6 fun _ s7 ⟨x, H7, I7, r7, y7, st7, n7⟩ => ?_
      have I7' := I7.pinned (stat I7 n7) (T.obj _ _ st7)
      refine thnF (pg.run _ s7 _ H7 x u _ I7' r7 (step x H7 y7)) fun _ s8 ⟨σ8, H8, I8, hw8, q8⟩ => ?_
      refine thnF (pt.run _ s8 σ8 H8 _ I8 q8) fun b s9 ⟨H9, I9, q9⟩ => ?_
      -- the turn's end
      have fin : ∀ {s' : Shared} {H' : Hp}, Inv (X.blk s3 H3 scope ce fp) ([] ++ pinsAt fp s7.heap) σ8 H' s' → Nx H' → ∃ m, m < n ∧ ∃ i H', Inv (X.blk s3 H3 scope ce fp) [] (wipe σ (own.map (·.2))) H' s' ∧ tn i s'.heap ∧ (∀ b ∈ fp, H' b = none) ∧ W i m H' := fun {s' H'} I' nx => by
        obtain ⟨m', hm, w'⟩ := hNx H' nx
        have pin' : ∀ b ∈ fp, ∀ o, s7.heap.get? b = some o → s'.heap.get? b = some o ∧ H' b = none := fun b hb o e =>
          let z := I'.pin (b, o) (List.mem_append_right _ (List.mem_append_right _ (mem_pinsAt hb e)))
          ⟨z.1, z.2.1⟩
        have hl : (wipe σ (own.map (·.2))).length = σ8.length := by rw [← hw8, wipe_length]
        refine ⟨m', hm, i + 1, H', (I'.unpinned (pins := [])).weak hl (fun j v e => ?_), T.keep _ _ _ st7 fun b hb o e => (pin' b hb o e).1, fun b hb => ?_, w'⟩
        · rw [← hw8] at e
          exact (wipe_some e).1
        · obtain ⟨o, e, _⟩ := T.obj _ _ st7 b hb
          exact (pin' b hb o e).2
      cases b with
      | false =>
        simp only [Bool.false_eq_true, if_false] at q9 ⊢
        exact fin I9 q9
      | true =>
        simp only [if_true] at q9 ⊢
        have I9t : Inv ((X.blk s3 H3 scope ce fp).tr [] (notedBy (model X.prog X.w) X.A ce (CompFails (model X.prog X.w) X.A X.xe ce))) ([] ++ pinsAt fp s7.heap) σ8 H9 s9 :=
          ⟨I9.ok.toTry _ _, I9.os, I9.bare, I9.base, I9.loc, I9.cell, I9.free, I9.freeC, I9.pin, I9.hok, I9.len⟩
        refine thn (pe.run _ s9 σ8 H9 _ I9t q9) fun z s10 ⟨yv, H10, I10t, r10, acc, hD10, hz10, nx⟩ => ?_
        have I10 : Inv (X.blk s3 H3 scope ce fp) ([] ++ pinsAt fp s7.heap) σ8 H10 s10 :=
          ⟨I10t.ok.ofTry, I10t.os, I10t.bare, I10t.base, I10t.loc, I10t.cell, I10t.free, I10t.freeC, I10t.pin, I10t.hok, I10t.len⟩
        exact app_ok (X := X.blk s3 H3 scope ce fp) I10 hD10 hz10 r10 fun s11 I11 => fin I11 nx
  exact codeAny_compStart_list loop (T.self X.A 0 _ _ _ st4 loop)
theorem pe_lcX {elt tg iter : Expr} {ifs : List Expr} {scope : Scope} {own : List (Str × Nat)} {pos : Pos} {wi : TI} {g : TG} {tt : TT} {te : L2.St → TE} {Wx : WX} (hc : X.calm = true) (hN : X.N.Nodup) (hi : PI X tg iter wi) (ok : BlkOk X.N X.env.scope scope own)
    (hg : ∀ (s : Shared) (H : Hp) (C : Addr) (cl : List (Str × Addr)) (fp : List Addr), PG (X.blk s H scope (compEnvC scope cl C X.env) fp) tg g) (ht : ∀ (s : Shared) (H : Hp) (C : Addr) (cl : List (Str × Addr)) (fp : List Addr), PTs (X.blk s H scope (compEnvC scope cl C X.env) fp) ifs tt)
    (hst : X.stack = X.env :: X.outer) (hf : X.env.frame = some X.env.locals) (tk : Takes X Wx) (he : ∀ (σ : L2.St) (s : Shared) (H : Hp) (C : Addr) (cl : List (Str × Addr)) (fp : List Addr) (xe : Value → Shared → Prop), Takes ((X.blk s H scope (compEnvC scope cl C X.env) fp).tr [] xe) (fun cls d _ H' => Wx cls d σ H') → PE ((X.blk s H scope (compEnvC scope cl C X.env) fp).tr [] xe) elt (te σ)) (hs : ∀ x, foldedSetIterable iter X.env x = pure x := by intro _; rfl) :
    PE X (.ListComp elt [⟨tg, iter, ifs, 0⟩] scope pos) (tLcX wi g tt te (own.map (·.2))) := by
  refine ⟨fun pins s σ H Q I h => ?_⟩
  rw [eval_ListComp]
  refine lc_coreX hc hN I hi ok hg ht hst hf tk (he σ) hs h fun D C s' m H' I' q hn f => ⟨m, hn, fun h'' sb => ?_⟩
  obtain ⟨f0, f1, f2, f3, f4, f5⟩ := f
  exact ⟨.ref D, H', I'.turned (t' := s'.toks) (fun b o hb e => (sb.2 b hb).trans e) f0 f1 f3 f4 f5, rfl, q⟩
end
end Mp
end
section
set_option maxRecDepth 100000
set_option maxHeartbeats 1000000
namespace Mp
open PySem PySem.Spec PyProof.Rows L2
def compLX (gt : PV → MEnv → Option MEnv) (tc : TM) (me : EM) : List PV → MEnv → Sto → MRes (List PV)
  | [], _, st => .ok [] st
  | x :: xs, env, st => match gt x env with
    | none => .bad
    | some e1 => bindX (tc e1 st) fun c s => if c then bindR (me e1 s) fun v s' => bindR (compLX gt tc me xs env s') fun r s'' => .ok (v :: r) s'' else compLX gt tc me xs env s
def mCompX (mi : AM) (gt : PV → MEnv → Option MEnv) (tc : TM) (me : EM) (vs : List Nat) : EM := fun env st => bindR (mi env st) fun xs s => if noOwn vs env && decide (xs.length ≤ 1000000) then
  bindR (compLX gt tc me xs (killE vs env) s) fun r s' => .ok (.lst r) s' else .bad
section
variable {X : Cx} {tb : Tbs} {Wx : WX} {elt tg iter : Expr} {ifs : List Expr} {scope : Scope} {own : List (Str × Nat)} {pos : Pos} {mi : AM} {g : PV → MEnv → Option MEnv} {tc : TM} {me : EM} {is vs : List Nat}
theorem lc_readX {K : PySem.W.Frag} {mg : Str → Option Value} (hsub : ∀ j ∈ is, j ∈ vs) : ∀ σ H Q, tM K mg tb Wx .N (mCompX mi g tc me vs) σ H Q → tLcX (tI K mg tb Wx mi) (tG K tb is g) (tMT K mg tb WN tc) (fun σ => tM K mg tb (fun cls d _ H' => Wx cls d σ H') .F me) vs σ H Q := by
  intro σ H Q ⟨Mx, W, env, st, rel, post⟩
  refine ⟨Mx, W, env, st, rel, ?_⟩
  unfold mCompX at post
  cases qi : mi env st with
  | bad => rw [qi] at post; exact post
  | exc x s => rw [qi] at post; exact post
  | ok xs s =>
    rw [qi] at post
    simp only [bindR] at post
    split at post
    rotate_left
    · exact post.elim
    rename_i hk
    rw [Bool.and_eq_true] at hk
    obtain ⟨hno, hlen⟩ := hk
    have hlen := of_decide_eq_true hlen
    intro W1 H1 J a1 wk D hD
    have post := EPost.from a1 post
    have omw : ∀ p, Om (killE vs env) (wipe σ vs) p ↔ Om env σ p := fun p => om_wipe hno
    refine ⟨fun i n H' => ∃ W' st' acc wacc, Rel K tb (fun b => Mx b ∨ b = D) W' (wipe σ vs) H' (killE vs env) st' ∧ KB W1 H1 No W' H' No ∧ i + n = xs.length ∧ H' D = some (.lst wacc) ∧
        RFs K (Mt (fun b => Mx b ∨ b = D) W' (killE vs env) (wipe σ vs)) W' H' acc wacc ∧ acc.length ≤ i ∧
        EPost K mg tb Mx W1 σ H1 env Wx .N (bindR (compLX g tc me (xs.drop i) (killE vs env) st') fun r s' => .ok (.lst (acc ++ r)) s') Q,
      ⟨xs.length, W1, s, [], [], (a1.rel.new hD noTbl_lst).wipes vs, ?_, Nat.zero_add _, upd_same, RFs.nil, Nat.le_refl _, post⟩, fun i n H' ⟨W', st', acc, wacc, rel', kb', en, hDl, rfs, hal, post'⟩ => ?_⟩
    · exact ⟨fun b o h _ _ _ => by rw [upd_ne (fun z => by rw [z, hD] at h; cases h)]; exact h, fun b h => by
        by_cases q : b = D
        · rw [q, upd_same]; simp
        · rw [upd_ne q]; exact h, List.prefix_refl _, fun _ h => .inl h, fun _ h => h.elim⟩
    have gr : Grow (Mt Mx W1 env σ) (Mt (fun b => Mx b ∨ b = D) W' (killE vs env) (wipe σ vs)) W1 W' H1 H' := ⟨fun b o h n t => kb'.kp b o h (fun z => n (.inl z)) (fun z => z) t, fun b h n z => by
      rcases z with z | (z | z) | z
      · rcases kb'.fr b z with y | y
        · exact n (.inl y)
        · exact h y
      · exact n (.inr (.inl z))
      · exact h (z ▸ hD)
      · exact n (.inr (.inr ((omw b).mp z))), kb'.pre⟩
    by_cases hi : i < xs.length
    · refine .inr ⟨wk.go i _ _ _ gr hi, fun H2 => ∃ W' st' acc wacc, Rel K tb (fun b => Mx b ∨ b = D) W' (wipe σ vs) H2 (killE vs env) st' ∧ KB W1 H1 No W' H2 No ∧ H2 D = some (.lst wacc) ∧
        RFs K (Mt (fun b => Mx b ∨ b = D) W' (killE vs env) (wipe σ vs)) W' H2 acc wacc ∧ acc.length ≤ i + 1 ∧
        EPost K mg tb Mx W1 σ H1 env Wx .N (bindR (compLX g tc me (xs.drop (i + 1)) (killE vs env) st') fun r s' => .ok (.lst (acc ++ r)) s') Q, fun H2 ⟨W2, st2, acc2, wacc2, r2, k2, h2, f2, l2, p2⟩ => ⟨n - 1, by omega, W2, st2, acc2, wacc2, r2, k2, by omega, h2, f2, l2, p2⟩, fun x H2 hy => ?_⟩
      have hx : xs[i]? = some xs[i] := List.getElem?_eq_getElem hi
      obtain ⟨al, rf⟩ := wk.yl i _ _ _ x H2 xs[i] gr (fun p z => rel'.mtS z) hx hy
      have a2 := al.stp rel'
      rw [List.drop_eq_getElem_cons hi] at post'
      simp only [compLX] at post'
      cases qg : g xs[i] (killE vs env) with
      | none => rw [qg] at post'; exact post'.elim
      | some e1 =>
        rw [qg] at post'
        refine ⟨_, W', killE vs env, st', xs[i], e1, a2.rel, rf, qg, fun σ2 r2 om2 c2 => ?_⟩
        have om2' : ∀ p, Om (killE vs env) (wipe σ vs) p → Om e1 σ2 p := fun p ⟨j, o, h1, h2⟩ => by
          have hj : j ∉ is := fun z => absurd (killE_un vs env j _ (hsub j z) h1) (fun y => nomatch y)
          exact ⟨j, o, (c2.at_ j hj).1.trans h1, (c2.at_ j hj).2.trans h2⟩
        refine ⟨?_, _, W', e1, st', r2, ?_⟩
        · refine List.ext_getElem? fun j => ?_
          by_cases hj : j ∈ vs
          · have : ∀ (τ : L2.St), τ.length = σ.length → (wipe τ vs)[j]? = if j < σ.length then some none else none := fun τ hτ => by
              by_cases hl : j < σ.length
              · rw [if_pos hl]
                cases q : (wipe τ vs)[j]? with
                | none =>
                  have := List.getElem?_eq_none_iff.mp q
                  rw [wipe_length, hτ] at this
                  omega
                | some u =>
                  cases u with
                  | none => rfl
                  | some v => exact absurd hj (wipe_some q).2
              · rw [if_neg hl, List.getElem?_eq_none (by rw [wipe_length, hτ]; omega)]
            rw [this σ2 (c2.len.trans (wipe_length σ vs)), this σ rfl]
          · rw [wipe_at hj, wipe_at hj, (c2.at_ j fun z => hj (hsub j z)).2, wipe_at hj]
        -- what follows the block's own things, seen from the outside
        have back : ∀ {W4 : List Addr} {H4 : Hp} {s4 : Sto}, Stp K tb (fun b => Mx b ∨ b = D) e1 σ2 W' H2 W4 H4 s4 → Rel K tb (fun b => Mx b ∨ b = D) W4 (wipe σ vs) H4 (killE vs env) s4 ∧ KB W1 H1 No W4 H4 No := fun {W4 H4 s4} a4 => by
          have kk : KB W' H' No W4 H4 No := (a2.kb (O := No)).trans a4.kb
          have q : Rel K tb (fun b => (Mx b ∨ b = D) ∨ Om (killE vs env) (wipe σ vs) b) W4 [] H4 [] s4 := a4.rel.toCall.less fun b z => z.elim .inl fun z => .inr (om2' b z)
          exact ⟨(rel'.back q kk).rel, kb'.trans kk⟩
        dsimp only at post'
        cases qt : tc e1 st' with
        | bad => rw [qt] at post'; exact post'.elim
        | exc x s => rw [qt] at post'; exact post'.elim
        | ok c s2 =>
          rw [qt] at post'
          simp only [bindX] at post'
          intro W3 H3 a3
          cases c with
          | false =>
            rw [if_neg Bool.false_ne_true] at post' ⊢
            obtain ⟨r3, k3⟩ := back a3
            have g3 : Grow (Mt (fun b => Mx b ∨ b = D) W' (killE vs env) (wipe σ vs)) (Mt (fun b => Mx b ∨ b = D) W3 (killE vs env) (wipe σ vs)) W' W3 H' H3 := (a2.trans (⟨r3, a3.kp, a3.nt, a3.pre, a3.fr⟩ : Stp K tb (fun b => Mx b ∨ b = D) (killE vs env) (wipe σ vs) W' H2 W3 H3 s2)).grow
            exact ⟨W3, s2, acc, wacc, r3, k3, a3.kp D _ (a2.kp D _ hDl (fun z => (rel'.wo D z).1 (.inr rfl)) noTbl_lst) (fun z => (rel'.wo D z).1 (.inr rfl)) noTbl_lst, RFs.grow g3 _ rfs, by omega, post'⟩
          | true =>
            rw [if_pos rfl] at post' ⊢
            refine ⟨_, W3, e1, s2, a3.rel, ?_⟩
            cases qe : me e1 s2 with
            | bad => rw [qe] at post'; exact post'.elim
            | exc x s =>
              rw [qe] at post'
              simp only [bindR] at post'
              intro W4 H4 cls d a4 rx
              have a34 := a3.trans a4
              obtain ⟨r4, k4⟩ := back a34
              have nD : D ∉ W' := fun z => (rel'.wo D z).1 (.inr rfl)
              have hD4 : H4 D = some (.lst wacc) := a34.kp D _ (a2.kp D _ hDl nD noTbl_lst) nD noTbl_lst
              have rc : Rel K tb (fun b => (Mx b ∨ b = D) ∨ Om (killE vs env) (wipe σ vs) b) W4 [] H4 [] s := r4.toCall
              have rN := a1.rel.back2 hD rc (fun b => by constructor <;> (intro z; exact z.elim .inl fun y => .inr (by first | exact (omw b).mp y | exact (omw b).mpr y))) k4 (by rw [hD4]; simp)
              exact post' W4 H4 cls d ⟨rN.less fun b z => .inl z, fun b o h n t => k4.kp b o h n (fun z => z) t, k4.nt, k4.pre, k4.fr⟩ rx
            | ok v s3 =>
              rw [qe] at post'
              simp only [bindR] at post'
              intro W4 H4 w a4 rm
              have a34 := a3.trans a4
              obtain ⟨r4, k4⟩ := back a34
              have nD : D ∉ W' := fun z => (rel'.wo D z).1 (.inr rfl)
              have hD4 : H4 D = some (.lst wacc) := a34.kp D _ (a2.kp D _ hDl nD noTbl_lst) nD noTbl_lst
              have g4 : Grow (Mt (fun b => Mx b ∨ b = D) W' (killE vs env) (wipe σ vs)) (Mt (fun b => Mx b ∨ b = D) W4 (killE vs env) (wipe σ vs)) W' W4 H' H4 := (a2.trans (⟨r4, a34.kp, a34.nt, a34.pre, a34.fr⟩ : Stp K tb (fun b => Mx b ∨ b = D) (killE vs env) (wipe σ vs) W' H2 W4 H4 s3)).grow
              have gD : Grow (Mt (fun b => Mx b ∨ b = D) W4 (killE vs env) (wipe σ vs)) (Mt (fun b => Mx b ∨ b = D) W4 (killE vs env) (wipe σ vs)) W4 W4 H4 (upd H4 D (.lst (wacc ++ [w]))) :=
                ⟨fun b u h n _ => by rw [upd_ne (fun z => n (.inr (.inl (.inr z))))]; exact h, fun b _ n => n, List.prefix_refl _⟩
              have rv : RF K (Mt (fun b => Mx b ∨ b = D) W4 (killE vs env) (wipe σ vs)) W4 H4 v w := RF.grow (Grow.less fun b z => by
                rcases z with z | z | z
                · exact .inl z
                · exact .inr (.inl z)
                · exact .inr (.inr (om2' b z))) _ rm
              refine ⟨wacc, hD4, ?_, W4, s3, acc ++ [v], wacc ++ [w], r4.putMx (.inr rfl) hD4, ?_, upd_same, RFs.grow gD _ ((RFs.grow g4 _ rfs).append (RFs.cons rv RFs.nil)), by rw [List.length_append]; simp; omega, ?_⟩
              · rw [rfs.len]
                exact Nat.lt_of_lt_of_le (show acc.length < 1000001 by omega) (by decide)
              · exact ⟨fun b o h n1 n2 t => by rw [upd_ne (fun z => by rw [z, hD] at h; cases h)]; exact k4.kp b o h n1 n2 t, fun b h => by
                  by_cases q : b = D
                  · rw [q, upd_same]; simp
                  · rw [upd_ne q]; exact k4.nt b h, k4.pre, k4.fr, fun _ h => h.elim⟩
              · cases qc : compLX g tc me (xs.drop (i + 1)) (killE vs env) s3 with
                | bad => rw [qc] at post'; exact post'.elim
                | exc x s => rw [qc] at post'; exact post'
                | ok r s5 =>
                  rw [qc] at post'
                  simp only [bindR, List.append_assoc, List.singleton_append] at post' ⊢
                  exact post'
    · have e : i = xs.length := by omega
      subst e
      refine .inl ⟨wk.st _ _ _ gr, ?_⟩
      rw [List.drop_length] at post'
      simp only [compLX, bindR, List.append_nil] at post'
      have rc : Rel K tb (fun b => (Mx b ∨ b = D) ∨ Om (killE vs env) (wipe σ vs) b) W' [] H' [] st' := rel'.toCall
      have rN := a1.rel.back2 hD rc (fun b => by constructor <;> (intro z; exact z.elim .inl fun y => .inr (by first | exact (omw b).mp y | exact (omw b).mpr y))) kb' (by rw [hDl]; simp)
      refine post' W' H' (.ref D) ⟨rN.less fun b z => .inl z, fun b o h n t => kb'.kp b o h n (fun z => z) t, kb'.nt, kb'.pre, kb'.fr⟩ ?_
      refine ⟨acc, D, wacc, rfl, rfl, hD, fun z => a1.rel.mx D z hD, hDl, rN, RFs.grow (Grow.less fun b z => ?_) _ rfs⟩
      rcases z with z | z | z
      · exact .inl z
      · exact .inr (.inl z)
      · exact .inr (.inr ((omw b).mpr z))
theorem e_lcX (hc : X.calm = true) (hN : X.N.Nodup) (hi : IOk X tb Wx tg iter mi) (ok : BlkOk X.N X.env.scope scope own)
    (hg : ∀ (s : Shared) (H : Hp) (C : Addr) (cl : List (Str × Addr)) (fp : List Addr), GOk (X.blk s H scope (compEnvC scope cl C X.env) fp) tb is tg g) (ht : ∀ (s : Shared) (H : Hp) (C : Addr) (cl : List (Str × Addr)) (fp : List Addr), TsOk (X.blk s H scope (compEnvC scope cl C X.env) fp) tb WN ifs tc)
    (hst : X.stack = X.env :: X.outer) (hf : X.env.frame = some X.env.locals) (tk : Takes X Wx)
    (he : ∀ (s : Shared) (H : Hp) (C : Addr) (cl : List (Str × Addr)) (fp : List Addr) (xe : Value → Shared → Prop) (W : WX), Takes ((X.blk s H scope (compEnvC scope cl C X.env) fp).tr [] xe) W → EOk ((X.blk s H scope (compEnvC scope cl C X.env) fp).tr [] xe) tb W .F elt me) (hsub : ∀ j ∈ is, j ∈ own.map (·.2) := by decide) (hs : ∀ x, foldedSetIterable iter X.env x = pure x := by intro _; rfl) :
    EOk X tb Wx .N (.ListComp elt [⟨tg, iter, ifs, 0⟩] scope pos) (mCompX mi g tc me (own.map (·.2))) :=
  PE_mono (pe_lcX (te := fun σ => tM X.K X.mg tb (fun cls d _ H' => Wx cls d σ H') .F me) hc hN hi ok hg (fun s H C cl fp => (ht s H C cl fp).h) hst hf tk (fun σ s H C cl fp xe t => he s H C cl fp xe _ t) hs) (lc_readX hsub)
end
end Mp
end
section
set_option maxRecDepth 100000
set_option maxHeartbeats 2000000
namespace Mp
open PySem PySem.Spec PyProof.Rows L2 GxR LamX
def FnO (f : Addr) (o : Obj) : HO := .ext fun h => h.get? f = some o
theorem FnO.noTbl (f : Addr) (o : Obj) : NoTbl (FnO f o) := fun ps z => by unfold FnO at z; cases z
section
variable {X : Cx} {pn : List (Addr × Obj)} {σ : L2.St} {H H1 : Hp} {s s' : Shared}
theorem inv_track {f : Addr} {o : Obj} (I : Inv X pn σ H1 s') (hf : s'.heap.get? f = some o) (hn : H1 f = none) (h0 : X.s_0.heap.objs.size ≤ f) (hl : f ≠ X.env.locals) (hc : ∀ x c, X.env.cells.lookup x = some c → c ≠ f) (hp : ∀ p ∈ X.pn ++ pn, p.1 ≠ f) : Inv X pn σ (upd H1 f (FnO f o)) s' := by
  have ne : ∀ b u, H1 b = some u → b ≠ f := fun b u e q => by rw [q, hn] at e; cases e
  have keep : ∀ b u, H1 b = some u → upd H1 f (FnO f o) b = some u := fun b u e => by rw [upd_ne (ne b u e)]; exact e
  refine ⟨I.ok, I.os, I.bare, ⟨I.base.keep, I.base.slot, fun b u e n hx => ?_, I.base.there, fun b xs e => keep _ _ (I.base.tups b xs e), fun b o' u e => keep _ _ (I.base.frzs b o' u e), fun b ps e => ?_⟩, I.loc, I.cell, ?_, fun x c e => ?_, fun p hq => ?_, fun b u e => ?_, I.len⟩
  · have := Heap.lt_size e
    rw [upd_ne (Nat.ne_of_lt (Nat.lt_of_lt_of_le this h0))]
    exact I.base.free b u e n hx
  · obtain ⟨more, q⟩ := I.base.tbls b ps e
    exact ⟨more, keep _ _ q⟩
  · rw [upd_ne (Ne.symm hl)]; exact I.free
  · rw [upd_ne (hc x c e)]; exact I.freeC x c e
  · obtain ⟨k1, k2, k3⟩ := I.pin p hq
    exact ⟨k1, by rw [upd_ne (hp p hq)]; exact k2, k3⟩
  · by_cases q : b = f
    · subst q
      rw [upd_same] at e
      cases e
      exact ⟨hf, ⟨o, hf⟩, fun h1 h2 e k => k _ e⟩
    · rw [upd_ne q] at e
      exact (I.hok b u e).stay (fun _ _ _ r => r) (fun c r => keep _ _ r) fun c xs r => keep _ _ r
def lamObj (X : Cx) (params : Arguments) (bd : Expr) (sc : Scope) (pm : Value) (c' : Addr) (ctv : Value) : Obj := PySem.W.kla_obj "<lambda>" (lamQ X) params bd sc (cloFrom X.env.cells sc.names []) pm c' ctv
def tLamF (X : Cx) (tg : Addr → Option Str) (P : Addr) (params : Arguments) (bd : Expr) (sc : Scope) : TE := fun σ H Q => TabOk tg H P ∧ ∀ (H1 : Hp) (f c' : Addr) (pm ctv : Value), LamSt tg P (lamQ X) H H1 → H1 f = none → H1 c' = some (CodeO c' (lamQ X)) → Q (.ref f) (upd H1 f (FnO f (lamObj X params bd sc pm c' ctv)))
theorem pe_lamF {tg : Addr → Option Str} {c P : Addr} {params : Arguments} {bd : Expr} {sc : Scope} {pos : Pos} (TB : LamX.TabB X.base X.mg c P) (hcode : X.env.code = .ref c) (hg : tg P = some (lamQ X)) (hdf : defaultsOf params X.env = ([], [])) (L : LamS X.env.scope sc) :
    PE X (.Lambda params bd sc pos) (tLamF X tg P params bd sc) := by
  refine ⟨fun pins s σ H Q I ⟨hT, h⟩ => ?_⟩
  refine lam_mk I TB hcode hT hg hdf (L.has I.ok) fun f c' pm ctv H1 s' I1 st1 hf hfn hfr hco hsz => ?_
  refine ⟨.ref f, _, inv_track I1 hf hfn (Nat.le_trans I.sz hsz) ?_ (fun x c e q => ?_) (fun p hp q => ?_), rfl, h H1 f c' pm ctv st1 hfn hco⟩
  · exact Nat.ne_of_gt (Nat.lt_of_lt_of_le I.lt hsz)
  · obtain ⟨v, oc, e1, _⟩ := I.cell x c e
    have := Heap.lt_size e1
    rw [q] at this
    exact absurd (Nat.lt_of_lt_of_le this hsz) (Nat.lt_irrefl _)
  · have := Heap.lt_size (I.pin p hp).1
    rw [q] at this
    exact absurd (Nat.lt_of_lt_of_le this hsz) (Nat.lt_irrefl _)
theorem pe_actF {CXg : CXT} {Eg : XK} {Ng : List Str} {qg : Str} {sg : Scope} {g f c' : Addr} {cdg pm ctv : Value} {params : Arguments} {body : Expr} {scope : Scope} {k i : Nat} {a : Str} {pz : List (Addr × Obj)} {xe : Value → Shared → Prop} {W : WX} {E : XK} {tb : TE} {p1 p2 : Pos}
    (I : Inv X pn σ H s) (L : LamS X.env.scope scope)
    (hbind : bindArgs (PySem.W.kla_fn "<lambda>" (lamQ X) params body scope (cloFrom X.env.cells scope.names []) pm (.ref c') ctv) ⟨[], []⟩ = pure [])
    (tk : Takes ((cxOf CXg X.prog X.w X.K X.mg X.base Ng qg sg g cdg X.A X.stack s H Eg).tr pz xe) W) (hW : ∀ cls d σ' H', E cls d H' → W cls d σ' H') (hr : Room (k + 1) (X.A.deeper (envOfC qg sg s.heap.objs.size g cdg)))
    (hbody : ∀ (A : Around) (outer : List Env) (s : Shared) (H : Hp), Room k (A.deeper (lamEnv X scope s.heap.objs.size f c')) → PE (lamCx X A outer s H E scope f c') body tb)
    (hN : Ng[i]? = some a) (hv : Vis sg a) (hd : (a == ("__debug__" : Str)) = false := by decide) (hcd : (a == ("__classdict__" : Str)) = false := by decide) :
    PE ((cxOf CXg X.prog X.w X.K X.mg X.base Ng qg sg g cdg X.A X.stack s H Eg).tr pz xe) (.Call (.Name a p1) [] [] p2)
      (fun σZ HZ Q => σZ[i]? = some (some (.ref f)) ∧ (HZ f = some (FnO f (lamObj X params body scope pm c' ctv)) ∧ HZ c' = some (CodeO c' (lamQ X))) ∧ tb σ HZ Q) := by
  refine ⟨fun pinsZ sZ σZ HZ Q IZ h => ?_⟩
  obtain ⟨hs, ⟨hF, hc⟩, ht⟩ := h
  refine wpAny_Call_Name_kw (thn ((pe_var (pos := p1) (i := i) hN hv hd hcd).run pinsZ sZ σZ HZ (fun v H1 => v = .ref f ∧ H1 = HZ) IZ ⟨.ref f, hs, rfl, rfl⟩) fun u s1 ⟨v, H1, I1, r1, q1⟩ => ?_)
  obtain ⟨ev, eH⟩ := q1
  subst ev
  rw [eH] at I1
  obtain rfl : u = Value.ref f := r1
  have of1 : s1.heap.get? f = some (PySem.W.kla_obj "<lambda>" (X.env.qual ++ "<lambda>") params body scope (cloFrom X.env.cells scope.names []) pm c' ctv) := (I1.hok f _ hF).1
  refine PySem.W.callWith_F0 ⟨_, _, _, _, of1⟩ ?_
  have un : Un (frs X.stack) [] H HZ s.heap s1.heap := I1.base
  obtain ⟨⟨oc, vs, t, hoc, hdc, hvc⟩, _, _⟩ := I1.hok c' _ hc
  have rc : codeAny (model X.prog X.w) (X.A.deeper (envOfC qg sg s.heap.objs.size g cdg)) (.call (.ref f) ⟨[], []⟩) (CR (L2.CX X.prog X.w) (envOfC qg sg s.heap.objs.size g cdg :: X.stack) X.prog X.w HZ s1 Q E) s1 := by
    refine PySem.W.kla_callFunE hr.depth of1 rfl L.co L.gen rfl ⟨c', oc, vs, t, rfl, hoc, hdc, hvc⟩ ?_
    rw [hbind]
    refine wpAny_pure (wpAny_newFunctionEnv (fun y hy => (L.own y hy).2) (fun y hy => absurd hy (by simp)) (fun h₁ hns hsb => ⟨I1.nolimit.fresh _ hsb, ?_⟩) L.kind)
    show codeAny _ _ (.expr body (lamEnv X scope s1.heap.objs.size f c')) _ _
    have kp : ∀ b o, s1.heap.get? b = some o → h₁.get? b = some o := fun b o e => hsb.extBut b o (Nat.ne_of_lt (Heap.lt_size e)) (Heap.get?_push_of_some _ e)
    have J : Inv (lamCx X (X.A.deeper (envOfC qg sg s.heap.objs.size g cdg)) (envOfC qg sg s.heap.objs.size g cdg :: X.stack) s1 HZ E scope f c') [] σ HZ { s1 with heap := h₁, toks := s1.toks + ([] : List (Str × Value)).length } :=
      lam_start2 I L I1.env0 hr.hd un hns kp
    refine PySem.W.kla_codeExpr (wpAny_mono ((hbody _ _ s1 HZ (hr.deeper _)).run [] _ _ HZ Q J ht) (fun v s' hq => ?_) fun e s' hq => hq)
    obtain ⟨w', H', J', rv, q⟩ := hq
    exact ⟨w', H', J'.os, J'.bare, J'.base, J'.hok, rv, q⟩
  have hx : Passes (L2.CX X.prog X.w) ((cxOf CXg X.prog X.w X.K X.mg X.base Ng qg sg g cdg X.A X.stack s H Eg).tr pz xe) E := passes_call tk hW
  refine wpAny_call (codeAny_mono rc fun r s' hq => ?_)
  cases r with
  | error e => exact hx pinsZ σZ HZ s1 e s' I1 hq
  | ok fl =>
    cases fl with
    | ret u => exact I1.after hq
    | next => exact False.elim hq
    | brk => exact False.elim hq
    | cont => exact False.elim hq
def GivW (X : Cx) (Ng : List Str) (x : Str) (sg : Scope) (g : Addr) (cdg : Value) (bg : List Stmt) (a : Str) (TT : (XK → Hp → VK → Prop) → Hp → VK → Prop) : Prop :=
  ∀ (f : Addr) (Ph : Hp → Prop) (s : Shared) (H : Hp) (Q : VK) (tl : XK → Hp → VK → Prop),
    (∀ (W : WX) (pn : List (Addr × Obj)) (xe : Value → Shared → Prop) (E : XK) (p1 p2 : Pos), Takes ((cxOf C8.CX0 X.prog X.w X.K X.mg X.base Ng x sg g cdg X.A X.stack s H C8.E0).tr pn xe) W → (∀ cls d σ' H', E cls d H' → W cls d σ' H') →
      PE ((cxOf C8.CX0 X.prog X.w X.K X.mg X.base Ng x sg g cdg X.A X.stack s H C8.E0).tr pn xe) (.Call (.Name a p1) [] [] p2) (fun σZ HZ Q => σZ[0]? = some (some (.ref f)) ∧ Ph HZ ∧ tl E HZ Q)) →
    Ph H → TT tl H Q →
    ∃ t, PSs (cxOf C8.CX0 X.prog X.w X.K X.mg X.base Ng x sg g cdg X.A X.stack s H C8.E0).nox bg t ∧ t { nx := fun _ H' => Q .non H', rt := Q } (L2.start Ng [.ref f]) H
structure LamI (X : Cx) (k : Nat) where
  params : Arguments
  body : Expr
  scope : Scope
  pos : Pos
  t : XK → TE
  L : LamS X.env.scope scope
  hdef : defaultsOf params X.env = ([], [])
  hbind : ∀ (q : Str) (cl : List (Str × Addr)) (pm cv ctv : Value), bindArgs (PySem.W.kla_fn "<lambda>" q params body scope cl pm cv ctv) ⟨[], []⟩ = pure []
  hbody : ∀ (A : Around) (outer : List Env) (s : Shared) (H : Hp) (E : XK) (f c' : Addr), Room k (A.deeper (lamEnv X scope s.heap.objs.size f c')) → PE (lamCx X A outer s H E scope f c') body (t E)
def LamI.e {X : Cx} {k : Nat} (li : LamI X k) : Expr := .Lambda li.params li.body li.scope li.pos
def FnAtH {X : Cx} {k : Nat} (H : Hp) (li : LamI X k) (f : Addr) : Prop := ∃ (c' : Addr) (pm ctv : Value), H f = some (FnO f (lamObj X li.params li.body li.scope pm c' ctv)) ∧ H c' = some (CodeO c' (lamQ X))
theorem pe_toldF {TT : (XK → Hp → VK → Prop) → Hp → VK → Prop} {x a : Str} {g : Addr} {k : Nat} {pg : Arguments} {bg : List Stmt} {sg : Scope} {fd : FuncData} {Ng : List Str} {e : Expr} {te : TE} {p pos : Pos}
    (hgl : Gl X x) (hm : X.mg x = some (.ref g)) (FD : FunD X.K x x pg bg sg [] [] g fd) (hb : L2.Binds X.K fd [a] []) (Sg : FnScope Ng [a] sg) (hNg : Ng[0]? = some a) (hva : Vis sg a)
    (hG : ∀ cdv, fd.code = cdv → GivW X Ng x sg g cdv bg a TT) (hr : Room (k + 2) X.A) (he : PE X e te) (hs : starEach [e] X.env = [(false, eval e X.env)] := by rfl)
    (hdb : (x == ("__debug__" : Str)) = false := by decide) (hd : (a == ("__debug__" : Str)) = false := by decide) (hcd : (a == ("__classdict__" : Str)) = false := by decide) :
    PE X (.Call (.Name x p) [e] [] pos) (fun σ H Q => te σ H fun v H1 => ∃ (li : LamI X k) (f : Addr), v = .ref f ∧ FnAtH H1 li f ∧ TT (fun E H' Q' => li.t E σ H' Q') H1 Q) := by
  obtain ⟨oc, od, dV, kV, doc, pm0, an, cdv, ct, osl, rfl, lk, hcg, hk, _⟩ := FD.ex
  refine ⟨fun pins s σ H Q I h => wpAny_Call_Name_kw (ld_glob I hgl hm (PySem.W.callWith_K (h₀ := X.base) I.ok.mod.kin ?kp ?_ (hs.trans rfl) (by rfl)) hdb)⟩
  case kp => exact FD.kp
  rw [hs]
  show wpAny _ _ (spliced ((false, eval e X.env) :: backTo pos [])) _ _ s
  refine Calls.spliced_cons (thn (he.run pins s σ H _ I h) fun u s' hu => ?_)
  obtain ⟨v, H1, I1, r1, li, f, rfl, ⟨c', pm', ctv, hF, hco⟩, hT⟩ := hu
  obtain rfl : u = Value.ref f := r1
  refine Calls.spliced_nil ⟨I1.kIn, ?_⟩
  have run : codeAny (model X.prog X.w) X.A (.call (.ref g) ⟨[.ref f], []⟩) (CR C8.CX0 X.stack X.prog X.w H1 s' Q C8.E0) s' :=
    run_ofS (N := Ng) (ps := [a]) (us := [.ref f]) (vs := [.ref f]) lk hcg Sg hr I1.env0 (hb s' [.ref f] I1.kIn rfl) (.cons rfl .nil) rfl fun hr' => by
      obtain ⟨t', ht', hq'⟩ := hG cdv rfl f (fun HZ => HZ f = some (FnO f (lamObj X li.params li.body li.scope pm' c' ctv)) ∧ HZ c' = some (CodeO c' (lamQ X))) s' H1 Q (fun E H' Q' => li.t E σ H' Q') (fun W pn xe E p1 p2 tk hW => pe_actF (i := 0) I1 li.L (li.hbind _ _ _ _ _) tk hW hr'
        (fun A outer s H hr2 => li.hbody A outer s H E f c' hr2) hNg hva hd hcd) ⟨hF, hco⟩ hT
      exact ⟨t', ht'.nox, hq'⟩
  refine wpAny_call (codeAny_mono run fun r s2 hq => ?_)
  cases r with
  | error e => exact absurd hq (fun z => z)
  | ok fl => cases fl with
    | ret u => exact I1.after hq
    | _ => exact False.elim hq
end
end Mp
end
section
set_option maxRecDepth 100000
set_option maxHeartbeats 4000000
namespace PySem.W
open PySem PySem.Spec PySem.Calls PyProof.Rows
section
variable {prog : Program} {w : World} {A : Around} {E : Value → Shared → Prop} {s : Shared} {K : Frag} {x D : Addr} {ox : Obj} {od : Option Obj}
theorem findObj_dataO {C : Addr} {name : Str} {a g : Value} (hc : (clsIn K C).isSome = true) (ha : findIn K (.ref C) name = some (some a)) (hg : specialIn K a "__get__" = some (some g)) (ht : takesIn K a = some true) : findObj K C od name = some (.bind g a) := by
  obtain ⟨cd, hc⟩ := Option.isSome_iff_exists.mp hc
  unfold findObj
  rw [hc, Option.bind_some, ha, Option.bind_some]
  simp [hg, ht]
theorem kin_classO {Q : Option Value → Shared → Prop} (hga : findIn K (.ref D) "__getattribute__" = some (some (.builtin "BaseException.__getattribute__"))) (hgt : findIn K (.ref D) "__getattr__" = some none) (hsub : subIn K (.ref D) (.type "BaseException") = some true)
    (hdct : hasDictIn K D = true) (ha : findIn K (.ref D) "__class__" = some (some (.builtin "object.__class__")))
    (hn : specialIn K (.builtin "object.__class__") "__get__" = some (some (.builtin "getset_descriptor.__get__"))) (htk : takesIn K (.builtin "object.__class__") = some true) (hm : mroIn K D (.type "object") = some true)
    (X : K.In s.heap) (I : InstAt s.heap x ox D od) (h : Q (some (.ref D)) { s with toks := s.toks + 1 }) : wpAny (model prog w) A (getAttr? (.ref x) "__class__") Q E s := by
  have hf : findObj K D od "__class__" = some (.bind (.builtin "getset_descriptor.__get__") (.builtin "object.__class__")) := findObj_dataO (by obtain ⟨cd, hc, _⟩ := any_some hdct; rw [hc]; rfl) ha hn htk
  obtain ⟨hp, g, d, t, os⟩ := s
  have L0 := I.type (M := model prog w)
  have L1 := looks_findIn (M := model prog w) X hga
  have L2 := looks_findIn (M := model prog w) X hgt
  have L3 := looks_find (M := model prog w) X I hf
  have sub : Looks (model prog w) hp (isInstance (.ref x) (.type "BaseException")) true := L0.andThen (looks_subIn X hsub)
  have hx0 : (false && onTheHeap (Value.builtin "BaseException.__getattribute__")) = false := rfl
  have hx2 : (Value.builtin "BaseException.__getattribute__" == Value.builtin "object.__getattribute__") = false := by decide +kernel
  have hx1 : (onTheHeap (Value.ref D) && Value.builtin "BaseException.__getattribute__" == Value.builtin "object.__getattribute__") = false := by rw [hx2]; rfl
  unfold getAttr? getAttrBy? getAttrBy
  refine wpAny_bind (wpAny_mkText (wpAny_bind (wpAny_attempt (wpAny_holding (wpAny_bind (L0.at (wpAny_bind (L1.at ?_))))))))
  show wpAny _ _ (if (onTheHeap (Value.ref D) && Value.builtin "BaseException.__getattribute__" == Value.builtin "object.__getattribute__") = true then _ else _) _ _ _
  rw [hx1, if_neg Bool.false_ne_true]
  unfold getAttrByItsOwn hookBefore
  refine wpAny_bind ?_
  rw [if_pos (show onTheHeap (Value.ref D) = true from rfl)]
  refine L2.at ?_
  refine wpAny_bind (wpAny_attempt (wpAny_holding ?_))
  unfold callGetattribute
  rw [hx0, if_neg Bool.false_ne_true]
  unfold boundAndCalled
  rw [PySem.F.excAttr_ValueError.ga.bind (.ref x)]
  refine wpAny_bind (wpAny_pure ?_)
  show wpAny _ _ (call (.builtin "BaseException.__getattribute__") [.ref x, .str "__class__" t]) _ _ _
  refine wpAny_call (codeAny_call_builtin PySem.F.excAttr_ValueError.ga.plain PySem.F.entry_bexc_ga ?_)
  refine @check_slot (model prog w) _ _ ⟨hp, g, d, t + 1, os⟩ "BaseException.__getattribute__" "BaseException" "__getattribute__" (.ref x) [.str "__class__" t] [] _ (by decide +kernel) (by decide +kernel) sub (PySem.F.args_bexc_ga (.ref x) (.str "__class__" t)) ?_
  unfold Builtin.«object.__getattribute__»
  refine wpAny_bind (wpAny_of_eq (a := ((Value.ref x : Value), [Value.str "__class__" t])) (by first | rfl | (simp only [slotArgs]; rfl)) ?_)
  refine wpAny_bind (wpAny_pure (wpAny_bind (L0.at (wpAny_bind (L3.at ?_)))))
  show wpAny _ _ (holding [Value.builtin "object.__class__"] (call (.builtin "getset_descriptor.__get__") [.builtin "object.__class__", .ref x, .ref D]) >>= ret) _ _ _
  refine wpAny_bind (wpAny_holding (wpAny_call (class_get (s := ⟨hp, g, d, t + 1, os⟩) (ox := ox) (od := od) X I hm ?_)))
  refine wpAny_pure ?_
  show wpAny _ _ (handedOut (.ref D)) _ _ _
  rw [handedOut_of (v := .ref D) rfl]
  first
    | exact wpAny_pure (wpAny_pure h)
    | exact wpAny_pure h
    | exact wpAny_pure (wpAny_bind (wpAny_pure (wpAny_pure h)))
theorem kitx_excO (hga : findIn K (.ref D) "__getattribute__" = some (some (.builtin "BaseException.__getattribute__"))) (hgt : findIn K (.ref D) "__getattr__" = some none) (hsub : subIn K (.ref D) (.type "BaseException") = some true) (hdct : hasDictIn K D = true) (ha : findIn K (.ref D) "__class__" = some (some (.builtin "object.__class__")))
    (hn : specialIn K (.builtin "object.__class__") "__get__" = some (some (.builtin "getset_descriptor.__get__"))) (htk : takesIn K (.builtin "object.__class__") = some true) (hm : mroIn K D (.type "object") = some true) :
    KitX K (.ref x) (.ref D) (fun h => InstAt h x ox D od) where
  ty := fun _ _ _ I => I.type
  it := fun _ _ X _ => by
    obtain ⟨cdD, hcD, _⟩ := any_some hdct
    unfold clsIn at hcD
    split at hcD
    · rename_i c' d' cd' sl' ho
      intro A' Q' E' s' k q
      unfold isType loadHead
      exact wpAny_bind (wpAny_loadPart (k _ _ (X _ _ ho)) (wpAny_pure q))
    · cases hcD
  ne := fun h tp dd its n sl X htp => by
    obtain ⟨cdD, hcD, _⟩ := any_some hdct
    refine Bool.eq_false_iff.mpr fun q => ?_
    have e : D = tp := Value.ref.inj (beq_iff_eq.mp q)
    subst e
    unfold clsIn at hcD
    split at hcD
    · rename_i c' d' cd' sl' ho
      have z := (X _ _ ho).symm.trans htp
      cases z
    · cases hcD
  ca := fun X I k => kin_classO hga hgt hsub hdct ha hn htk hm X I k
end
end PySem.W
namespace L2
open PySem PySem.Spec PyProof.Rows
def rIsO (K : PySem.W.Frag) (D a : Addr) (d : Option Addr) : List V → Hp → VK → Prop := fun xs H Q => ∃ (c : V) (cv : Value) (b : Bool), xs = [.ref a, c] ∧ (∀ u, RelV c u → u = cv) ∧ PySem.W.kitOne K (.ref D) cv = some b ∧ (∀ dx, d = some dx → ∃ o, H dx = some (.xd o)) ∧ Q (.bl b) H
theorem call_isO {X : Cx} {a D : Addr} {oe : Obj} {d : Option Addr} {pn : List (Addr × Obj)} (C : ExcC X.K D) (hz : Zc (.ref D) d oe) (hf : ∃ vs, oe.data = .fields vs) : CallR (X.suite a ((a, oe) :: pn)) (.builtin "isinstance") (rIsO X.K D a d) := by
  intro pins s σ H xs us Q I r h
  obtain ⟨c, cv, b, rfl, hcv, e, hd, q⟩ := h
  cases r with
  | cons rx rr =>
    cases rr with
    | cons rt rr =>
      cases rr
      cases rx
      have ec := hcv _ rt
      subst ec
      obtain ⟨hget, _⟩ := I.pin (a, oe) (List.mem_append.mpr (.inl List.mem_cons_self))
      obtain ⟨vs, hv⟩ := hf
      obtain ⟨od, J⟩ : ∃ od, PySem.W.InstAt s.heap a oe D od := by
        obtain ⟨h1, h2⟩ := hz
        cases d with
        | none => exact ⟨none, hget, h1, by unfold PySem.W.notCls; rw [hv], by rw [h2]; trivial⟩
        | some dx =>
          obtain ⟨fs, ho⟩ := hd dx rfl
          obtain ⟨mA, hn, _⟩ := I.hok dx _ ho
          obtain ⟨o, es, ep, g1, g2⟩ := hn
          exact ⟨some o, hget, h1, by unfold PySem.W.notCls; rw [hv], by rw [h2]; exact g1⟩
      exact PySem.W.kia_one (PySem.W.kitx_excO C.hg C.hk C.hs C.hd C.ha C.hn C.ht C.hm) I.kIn J e (fun z => nomatch z) fun tk => ⟨.bl b, H, I.kept (t' := tk) fun _ _ z => z, rfl, q⟩
end L2
end
section
set_option maxRecDepth 100000
set_option maxHeartbeats 4000000
namespace Mp
open PySem PySem.Spec PyProof.Rows L2 GxR LamX
def RowP (K : PySem.W.Frag) (c1 c2 c3 c4 c5 c6 c7 c8 c9 c10 c11 : Value) (cls : Value) (d : Option Addr) (H : Hp) (Q : VK) : Prop :=
  ∃ (C : Addr) (x1 x2 x3 x4 x5 x6 x7 x8 x9 x10 x11 : Bool), cls = .ref C ∧ ExcC K C ∧ (∀ dx, d = some dx → ∃ o, H dx = some (.xd o)) ∧ PySem.W.kitOne K cls c1 = some x1 ∧ PySem.W.kitOne K cls c2 = some x2 ∧ PySem.W.kitOne K cls c3 = some x3 ∧ PySem.W.kitOne K cls c4 = some x4 ∧ PySem.W.kitOne K cls c5 = some x5 ∧ PySem.W.kitOne K cls c6 = some x6 ∧ PySem.W.kitOne K cls c7 = some x7 ∧ PySem.W.kitOne K cls c8 = some x8 ∧ PySem.W.kitOne K cls c9 = some x9 ∧ PySem.W.kitOne K cls c10 = some x10 ∧ PySem.W.kitOne K cls c11 = some x11 ∧
  ∀ p1, H p1 = none → ∀ p2, (upd H p1 (.lst [V.bl x1, V.bl x2, V.bl x3, V.bl x4])) p2 = none → ∀ p3, (upd (upd H p1 (.lst [V.bl x1, V.bl x2, V.bl x3, V.bl x4])) p2 (.lst [V.bl x5, V.bl x6, V.bl x7, V.bl x8])) p3 = none → ∀ p4, (upd (upd (upd H p1 (.lst [V.bl x1, V.bl x2, V.bl x3, V.bl x4])) p2 (.lst [V.bl x5, V.bl x6, V.bl x7, V.bl x8])) p3 (.lst ([V.bl x1, V.bl x2, V.bl x3, V.bl x4] ++ [V.bl x5, V.bl x6, V.bl x7, V.bl x8]))) p4 = none → ∀ p5, (upd (upd (upd (upd H p1 (.lst [V.bl x1, V.bl x2, V.bl x3, V.bl x4])) p2 (.lst [V.bl x5, V.bl x6, V.bl x7, V.bl x8])) p3 (.lst ([V.bl x1, V.bl x2, V.bl x3, V.bl x4] ++ [V.bl x5, V.bl x6, V.bl x7, V.bl x8]))) p4 (.lst [V.bl x9, V.bl x10, V.bl x11])) p5 = none → Q (.ref p5) (upd (upd (upd (upd (upd H p1 (.lst [V.bl x1, V.bl x2, V.bl x3, V.bl x4])) p2 (.lst [V.bl x5, V.bl x6, V.bl x7, V.bl x8])) p3 (.lst ([V.bl x1, V.bl x2, V.bl x3, V.bl x4] ++ [V.bl x5, V.bl x6, V.bl x7, V.bl x8]))) p4 (.lst [V.bl x9, V.bl x10, V.bl x11])) p5 (.lst ([V.bl x1, V.bl x2, V.bl x3, V.bl x4] ++ [V.bl x5, V.bl x6, V.bl x7, V.bl x8] ++ [V.bl x9, V.bl x10, V.bl x11])))
def TTrow (K : PySem.W.Frag) (cM c1 c2 c3 c4 c5 c6 c7 c8 c9 c10 c11 : Value) : (XK → Hp → VK → Prop) → Hp → VK → Prop := fun tl H Q => tl (fun cls d H' => PySem.W.exmOne K cls cM = some true ∧ RowP K c1 c2 c3 c4 c5 c6 c7 c8 c9 c10 c11 cls d H' Q) H fun _ H' => ([] : List V).length ≤ sizeLine ∧ ∀ p, H' p = none → Q (.ref p) (upd H' p (.lst []))
section
variable {X : Cx} {Ng : List Str} {x a en sm hx A1 A2 A3 A4 A5 A6 A7 A8 A9 A10 A11 : Str} {Bt : String} {sg : Scope} {g DM D1 D2 D3 D4 D5 D6 D7 D8 D9 D10 : Addr} {cdg : Value} {p1 p2 p3 p4 p5 p6 p7 p8 p9 p10 p11 p12 p13 p14 p15 p16 p17 q1 q5 q9 r1a r1b r1c r1d r2a r2b r2c r2d r3a r3b r3c r3d r4a r4b r4c r4d r5a r5b r5c r5d r6a r6b r6c r6d r7a r7b r7c r7d r8a r8b r8c r8d r9a r9b r9c r9d r10a r10b r10c r10d r11a r11b r11c r11d : Pos}
theorem give_row (h0 : ∀ f : Addr, (L2.start Ng [V.ref f])[0]? = some (some (V.ref f))) (Sg : FnScope Ng [a] sg) (hi : Ng[1]? = some en) (hi2 : Ng[2]? = some sm) (hln : sg.names.lookup en = some .local) (hls : sg.names.lookup sm = some .local) (hgx : sg.names.lookup hx = some .globalImplicit) (hmx : X.mg hx = some (.ref DM)) (hdx : (hx == ("__debug__" : Str)) = false)
    (hgi : sg.names.lookup ("isinstance" : Str) = some .globalImplicit) (hmi : X.mg "isinstance" = none) (hgA1 : sg.names.lookup A1 = some .globalImplicit) (hmA1 : X.mg A1 = some (.ref D1)) (hdA1 : (A1 == ("__debug__" : Str)) = false) (hgA2 : sg.names.lookup A2 = some .globalImplicit) (hmA2 : X.mg A2 = some (.ref D2)) (hdA2 : (A2 == ("__debug__" : Str)) = false) (hgA3 : sg.names.lookup A3 = some .globalImplicit) (hmA3 : X.mg A3 = some (.ref D3)) (hdA3 : (A3 == ("__debug__" : Str)) = false) (hgA4 : sg.names.lookup A4 = some .globalImplicit) (hmA4 : X.mg A4 = some (.ref D4)) (hdA4 : (A4 == ("__debug__" : Str)) = false) (hgA5 : sg.names.lookup A5 = some .globalImplicit) (hmA5 : X.mg A5 = some (.ref D5)) (hdA5 : (A5 == ("__debug__" : Str)) = false) (hgA6 : sg.names.lookup A6 = some .globalImplicit) (hmA6 : X.mg A6 = some (.ref D6)) (hdA6 : (A6 == ("__debug__" : Str)) = false) (hgA7 : sg.names.lookup A7 = some .globalImplicit) (hmA7 : X.mg A7 = some (.ref D7)) (hdA7 : (A7 == ("__debug__" : Str)) = false) (hgA8 : sg.names.lookup A8 = some .globalImplicit) (hmA8 : X.mg A8 = some (.ref D8)) (hdA8 : (A8 == ("__debug__" : Str)) = false) (hgA9 : sg.names.lookup A9 = some .globalImplicit) (hmA9 : X.mg A9 = some (.ref D9)) (hdA9 : (A9 == ("__debug__" : Str)) = false) (hgA10 : sg.names.lookup A10 = some .globalImplicit) (hmA10 : X.mg A10 = some (.ref D10)) (hdA10 : (A10 == ("__debug__" : Str)) = false) (hgA11 : sg.names.lookup A11 = some .globalImplicit) (hmA11 : X.mg A11 = none) (hbB : bootBuiltins A11 = some (.type Bt)) (hnB : A11 ≠ "__name__") (hdA11 : (A11 == ("__debug__" : Str)) = false)
    (hde : (en == ("__debug__" : Str)) = false) (hce : (en == ("__classdict__" : Str)) = false) (hds : (sm == ("__debug__" : Str)) = false) (hcs : (sm == ("__classdict__" : Str)) = false)
    (hsw : ∀ env : Env, swapsWith (.Call (.Name a p1) [] [] p2) none p3.line env = pure false := by intro _; rfl) :
    GivW X Ng x sg g cdg [.Try [.Expr (.Call (.Name a p1) [] [] p2) p3] [.ExceptHandler (some (.Name hx p4)) (some en) [.Assign [.Name sm p5] (.List [.Call (.Name "isinstance" r1a) [.Name en r1b, .Name A1 r1c] [] r1d, .Call (.Name "isinstance" r2a) [.Name en r2b, .Name A2 r2c] [] r2d, .Call (.Name "isinstance" r3a) [.Name en r3b, .Name A3 r3c] [] r3d, .Call (.Name "isinstance" r4a) [.Name en r4b, .Name A4 r4c] [] r4d] q1) p6, .Assign [.Name sm p7] (.BinOp (.Name sm p9) .Add (.List [.Call (.Name "isinstance" r5a) [.Name en r5b, .Name A5 r5c] [] r5d, .Call (.Name "isinstance" r6a) [.Name en r6b, .Name A6 r6c] [] r6d, .Call (.Name "isinstance" r7a) [.Name en r7b, .Name A7 r7c] [] r7d, .Call (.Name "isinstance" r8a) [.Name en r8b, .Name A8 r8c] [] r8d] q5) p10) p8, .Return (some (.BinOp (.Name sm p12) .Add (.List [.Call (.Name "isinstance" r9a) [.Name en r9b, .Name A9 r9c] [] r9d, .Call (.Name "isinstance" r10a) [.Name en r10b, .Name A10 r10c] [] r10d, .Call (.Name "isinstance" r11a) [.Name en r11b, .Name A11 r11c] [] r11d] q9) p13)) p11] p14] [] [] p15, .Return (some (.List [] p16)) p17] a (TTrow X.K (.ref DM) (.ref D1) (.ref D2) (.ref D3) (.ref D4) (.ref D5) (.ref D6) (.ref D7) (.ref D8) (.ref D9) (.ref D10) (.type Bt)) := by
  intro f Ph s H Q tl act hc h
  have hub : bootBuiltins "isinstance" = some (.builtin "isinstance") := boot_isinstance
  refine ⟨_, pss_cons (ps_try_as (X := (cxOf C8.CX0 X.prog X.w X.K X.mg X.base Ng x sg g cdg X.A X.stack s H C8.E0).nox) (i := 1) (n := en) (c := .ref DM)
      (tb := fun W D σ H => ∃ Ech : XK, (∀ cls d σ' H', Ech cls d H' → W cls d σ' H') ∧ σ[0]? = some (some (.ref f)) ∧ Ph H ∧ tl Ech H fun _ H' => D.nx σ H')
      (ts := fun ad cls d D σ H => (∃ σ0 : L2.St, σ = σ0.set 1 (some (.ref ad))) ∧ RowP X.K (.ref D1) (.ref D2) (.ref D3) (.ref D4) (.ref D5) (.ref D6) (.ref D7) (.ref D8) (.ref D9) (.ref D10) (.type Bt) cls d H D.rt)
      rfl rfl Sg.nd hi hln ⟨hgx, hdx, .inl hmx⟩ LamX.takes0 (fun W pn xe tk _ => ⟨fun pins s' σ H' D I h' => ?_⟩) (fun ad oe cls d pn hz hf => ⟨fun pins s' σ H' D' I h' => ?_⟩)) (pss_one (ps_ret (pe_lst pa_nil))), ?_⟩
  · obtain ⟨Ech, hW, h1, h2, h3⟩ := h'
    exact (pss_one (ps_expr (pos := p3) (act W pn xe Ech p1 p2 tk hW) (hsw _))).run pins s' σ H' D I ⟨h1, h2, h3⟩
  · obtain ⟨⟨σ0, e0⟩, C, x1, x2, x3, x4, x5, x6, x7, x8, x9, x10, x11, rfl, eC, hd, k1, k2, k3, k4, k5, k6, k7, k8, k9, k10, k11, hq⟩ := h'
    have hlN : σ0.length = Ng.length := by
      have hl : σ.length = Ng.length := I.len
      rw [e0, List.length_set] at hl
      exact hl
    have hN1 : 1 < Ng.length := (List.getElem?_eq_some_iff.mp hi).1
    have hN2 : 2 < Ng.length := (List.getElem?_eq_some_iff.mp hi2).1
    have hs : σ[1]? = some (some (.ref ad)) := by rw [e0, List.getElem?_set_self (by omega)]
    have hsS : ∀ v, (σ.set 2 v)[1]? = some (some (.ref ad)) := fun v => by rw [List.getElem?_set_ne (by decide)]; exact hs
    have hs2 : ∀ (τ : L2.St) (v : Option V), τ.length = Ng.length → (τ.set 2 v)[2]? = some v := fun τ v hl => by rw [List.getElem?_set_self (by omega)]
    have lσ : σ.length = Ng.length := I.len
    have ci := call_isO (X := (cxOf C8.CX0 X.prog X.w X.K X.mg X.base Ng x sg g cdg X.A X.stack s H C8.E0).nox) (pn := pn) (a := ad) eC hz hf
    have vn : ∀ {r : Pos}, PE (((cxOf C8.CX0 X.prog X.w X.K X.mg X.base Ng x sg g cdg X.A X.stack s H C8.E0).nox).suite ad ((ad, oe) :: pn)) (.Name en r) (fun σ H Q => ∃ v, σ[1]? = some (some v) ∧ Q v H) := fun {r} => pe_var (i := 1) hi (.inl hln) hde hce
    have vs : ∀ {r : Pos}, PE (((cxOf C8.CX0 X.prog X.w X.K X.mg X.base Ng x sg g cdg X.A X.stack s H C8.E0).nox).suite ad ((ad, oe) :: pn)) (.Name sm r) (fun σ H Q => ∃ v, σ[2]? = some (some v) ∧ Q v H) := fun {r} => pe_var (i := 2) hi2 (.inl hls) hds hcs
    have k := pss_cons (L2.ps_set (i := 2) (pos' := p5) (pos := p6) Sg.nd hi2 (.inl hls) (show PE _ (.List _ q1) _ from pe_lst (pa_cons (pe_callB (p := r1a) (pos := r1d) ci hgi hmi hub (pa_cons (vn (r := r1b)) (pa_cons (pe_glob (pos := r1c) (v := .ref D1) hgA1 hmA1 rfl hdA1) pa_nil (by rfl)) (by rfl)) (by decide) (by decide) (by rfl) (by rfl)) (pa_cons (pe_callB (p := r2a) (pos := r2d) ci hgi hmi hub (pa_cons (vn (r := r2b)) (pa_cons (pe_glob (pos := r2c) (v := .ref D2) hgA2 hmA2 rfl hdA2) pa_nil (by rfl)) (by rfl)) (by decide) (by decide) (by rfl) (by rfl)) (pa_cons (pe_callB (p := r3a) (pos := r3d) ci hgi hmi hub (pa_cons (vn (r := r3b)) (pa_cons (pe_glob (pos := r3c) (v := .ref D3) hgA3 hmA3 rfl hdA3) pa_nil (by rfl)) (by rfl)) (by decide) (by decide) (by rfl) (by rfl)) (pa_cons (pe_callB (p := r4a) (pos := r4d) ci hgi hmi hub (pa_cons (vn (r := r4b)) (pa_cons (pe_glob (pos := r4c) (v := .ref D4) hgA4 hmA4 rfl hdA4) pa_nil (by rfl)) (by rfl)) (by decide) (by decide) (by rfl) (by rfl)) pa_nil (by rfl)) (by rfl)) (by rfl)) (by rfl))) (by rfl) (.inr hls)) (pss_cons (L2.ps_set (i := 2) (pos' := p7) (pos := p8) Sg.nd hi2 (.inl hls) (pe_op (pos := p10) op_cat (vs (r := p9)) (show PE _ (.List _ q5) _ from pe_lst (pa_cons (pe_callB (p := r5a) (pos := r5d) ci hgi hmi hub (pa_cons (vn (r := r5b)) (pa_cons (pe_glob (pos := r5c) (v := .ref D5) hgA5 hmA5 rfl hdA5) pa_nil (by rfl)) (by rfl)) (by decide) (by decide) (by rfl) (by rfl)) (pa_cons (pe_callB (p := r6a) (pos := r6d) ci hgi hmi hub (pa_cons (vn (r := r6b)) (pa_cons (pe_glob (pos := r6c) (v := .ref D6) hgA6 hmA6 rfl hdA6) pa_nil (by rfl)) (by rfl)) (by decide) (by decide) (by rfl) (by rfl)) (pa_cons (pe_callB (p := r7a) (pos := r7d) ci hgi hmi hub (pa_cons (vn (r := r7b)) (pa_cons (pe_glob (pos := r7c) (v := .ref D7) hgA7 hmA7 rfl hdA7) pa_nil (by rfl)) (by rfl)) (by decide) (by decide) (by rfl) (by rfl)) (pa_cons (pe_callB (p := r8a) (pos := r8d) ci hgi hmi hub (pa_cons (vn (r := r8b)) (pa_cons (pe_glob (pos := r8c) (v := .ref D8) hgA8 hmA8 rfl hdA8) pa_nil (by rfl)) (by rfl)) (by decide) (by decide) (by rfl) (by rfl)) pa_nil (by rfl)) (by rfl)) (by rfl)) (by rfl)))) (by rfl) (.inr hls)) (pss_one (ps_ret (pos := p11) (pe_op (pos := p13) op_cat (vs (r := p12)) (show PE _ (.List _ q9) _ from pe_lst (pa_cons (pe_callB (p := r9a) (pos := r9d) ci hgi hmi hub (pa_cons (vn (r := r9b)) (pa_cons (pe_glob (pos := r9c) (v := .ref D9) hgA9 hmA9 rfl hdA9) pa_nil (by rfl)) (by rfl)) (by decide) (by decide) (by rfl) (by rfl)) (pa_cons (pe_callB (p := r10a) (pos := r10d) ci hgi hmi hub (pa_cons (vn (r := r10b)) (pa_cons (pe_glob (pos := r10c) (v := .ref D10) hgA10 hmA10 rfl hdA10) pa_nil (by rfl)) (by rfl)) (by decide) (by decide) (by rfl) (by rfl)) (pa_cons (pe_callB (p := r11a) (pos := r11d) ci hgi hmi hub (pa_cons (vn (r := r11b)) (pa_cons (pe_bltn (pos := r11c) (v := .ty Bt) hgA11 hmA11 hbB rfl hnB hdA11) pa_nil (by rfl)) (by rfl)) (by decide) (by decide) (by rfl) (by rfl)) pa_nil (by rfl)) (by rfl)) (by rfl)))))))
    refine k.run pins s' σ H' D' I ?_

    refine ⟨_, hs, .ref D1, .ref D1, x1, rfl, fun u r => r, k1, hd, ?_⟩
    refine ⟨_, hs, .ref D2, .ref D2, x2, rfl, fun u r => r, k2, hd, ?_⟩
    refine ⟨_, hs, .ref D3, .ref D3, x3, rfl, fun u r => r, k3, hd, ?_⟩
    refine ⟨_, hs, .ref D4, .ref D4, x4, rfl, fun u r => r, k4, hd, ?_⟩
    refine ⟨by simp [sizeLine_eq], fun p1 hp1 => ?_⟩
    have hd1 : ∀ dx, d = some dx → ∃ o, upd H' p1 (.lst [V.bl x1, V.bl x2, V.bl x3, V.bl x4]) dx = some (.xd o) := fun dx e => by
      obtain ⟨o, ho⟩ := hd dx e
      exact ⟨o, by rw [upd_ne (fun z => by rw [z, hp1] at ho; cases ho)]; exact ho⟩
    refine ⟨_, hs2 σ _ lσ, ?_⟩
    refine ⟨_, hsS _, .ref D5, .ref D5, x5, rfl, fun u r => r, k5, hd1, ?_⟩
    refine ⟨_, hsS _, .ref D6, .ref D6, x6, rfl, fun u r => r, k6, hd1, ?_⟩
    refine ⟨_, hsS _, .ref D7, .ref D7, x7, rfl, fun u r => r, k7, hd1, ?_⟩
    refine ⟨_, hsS _, .ref D8, .ref D8, x8, rfl, fun u r => r, k8, hd1, ?_⟩
    refine ⟨by simp [sizeLine_eq], fun p2 hp2 => ?_⟩
    have n21 : p1 ≠ p2 := fun z => by rw [← z, upd_same] at hp2; cases hp2
    refine ⟨p1, p2, _, _, rfl, rfl, by rw [upd_ne n21, upd_same], upd_same, by simp [sizeLine_eq], fun p3 hp3 => ?_⟩
    have hd3 : ∀ dx, d = some dx → ∃ o, upd (upd (upd H' p1 (.lst [V.bl x1, V.bl x2, V.bl x3, V.bl x4])) p2 (.lst [V.bl x5, V.bl x6, V.bl x7, V.bl x8])) p3 (.lst ([V.bl x1, V.bl x2, V.bl x3, V.bl x4] ++ [V.bl x5, V.bl x6, V.bl x7, V.bl x8])) dx = some (.xd o) := fun dx e => by
      obtain ⟨o, ho⟩ := hd1 dx e
      have ho2 : upd (upd H' p1 (.lst [V.bl x1, V.bl x2, V.bl x3, V.bl x4])) p2 (.lst [V.bl x5, V.bl x6, V.bl x7, V.bl x8]) dx = some (.xd o) := by rw [upd_ne (fun z => by rw [z, hp2] at ho; cases ho)]; exact ho
      exact ⟨o, by rw [upd_ne (fun z => by rw [z, hp3] at ho2; cases ho2)]; exact ho2⟩
    refine ⟨_, hs2 (σ.set 2 _) _ (by rw [List.length_set]; exact lσ), ?_⟩
    have hs3 : ∀ v w, ((σ.set 2 v).set 2 w)[1]? = some (some (.ref ad)) := fun v w => by rw [List.getElem?_set_ne (by decide)]; exact hsS v
    refine ⟨_, hs3 _ _, .ref D9, .ref D9, x9, rfl, fun u r => r, k9, hd3, ?_⟩
    refine ⟨_, hs3 _ _, .ref D10, .ref D10, x10, rfl, fun u r => r, k10, hd3, ?_⟩
    refine ⟨_, hs3 _ _, .ty Bt, .type Bt, x11, rfl, fun u r => r, k11, hd3, ?_⟩
    refine ⟨by simp [sizeLine_eq], fun p4 hp4 => ?_⟩
    have n43 : p3 ≠ p4 := fun z => by rw [← z, upd_same] at hp4; cases hp4
    exact ⟨p3, p4, _, _, rfl, rfl, by rw [upd_ne n43, upd_same], upd_same, by simp [sizeLine_eq], fun p5 hp5 => hq p1 hp1 p2 hp2 p3 hp3 p4 hp4 p5 hp5⟩
  · exact ⟨fun cls d H' => PySem.W.exmOne X.K cls (.ref DM) = some true ∧ RowP X.K (.ref D1) (.ref D2) (.ref D3) (.ref D4) (.ref D5) (.ref D6) (.ref D7) (.ref D8) (.ref D9) (.ref D10) (.type Bt) cls d H' Q, fun cls d σ' H' ⟨e1, e2⟩ => ⟨true, e1, fun _ ad _ => ⟨⟨_, rfl⟩, e2⟩, fun z => by cases z⟩, h0 f, hc, h⟩
end
end Mp
end
section
set_option maxRecDepth 100000
set_option maxHeartbeats 4000000
namespace Mp
open PySem PySem.Spec PyProof.Rows L2 GxR LamX
def RowC (K : PySem.W.Frag) (mg : Str → Option Value) (cM c1 c2 c3 c4 c5 c6 c7 c8 c9 c10 c11 : Value) (y : Str) (bs : List Bool) : Prop := ∃ (C : Addr) (x1 x2 x3 x4 x5 x6 x7 x8 x9 x10 x11 : Bool), mg y = some (.ref C) ∧ ExcC K C ∧ PySem.W.exmOne K (.ref C) cM = some true ∧ PySem.W.kitOne K (.ref C) c1 = some x1 ∧ PySem.W.kitOne K (.ref C) c2 = some x2 ∧ PySem.W.kitOne K (.ref C) c3 = some x3 ∧ PySem.W.kitOne K (.ref C) c4 = some x4 ∧ PySem.W.kitOne K (.ref C) c5 = some x5 ∧ PySem.W.kitOne K (.ref C) c6 = some x6 ∧ PySem.W.kitOne K (.ref C) c7 = some x7 ∧ PySem.W.kitOne K (.ref C) c8 = some x8 ∧ PySem.W.kitOne K (.ref C) c9 = some x9 ∧ PySem.W.kitOne K (.ref C) c10 = some x10 ∧ PySem.W.kitOne K (.ref C) c11 = some x11 ∧ bs = [x1, x2, x3, x4, x5, x6, x7, x8, x9, x10, x11]
structure TellR (X : Cx) (x a : Str) (hs : List (Str × List Bool)) : Prop where
  ex : ∃ (g : Addr) (pg : Arguments) (bg : List Stmt) (sg : Scope) (fd : FuncData) (Ng : List Str) (cM c1 c2 c3 c4 c5 c6 c7 c8 c9 c10 c11 : Value), X.mg x = some (.ref g) ∧ FunD X.K x x pg bg sg [] [] g fd ∧ L2.Binds X.K fd [a] [] ∧ FnScope Ng [a] sg ∧ Ng[0]? = some a ∧ Vis sg a ∧
    (∀ cdv, fd.code = cdv → GivW X Ng x sg g cdv bg a (TTrow X.K cM c1 c2 c3 c4 c5 c6 c7 c8 c9 c10 c11)) ∧ ∀ p ∈ hs, RowC X.K X.mg cM c1 c2 c3 c4 c5 c6 c7 c8 c9 c10 c11 p.1 p.2
def argB : PV → Bool
  | .non => true
  | .tup [.str _, .int _] => true
  | _ => false
def tellR (hs : List (Str × List Bool)) (x : MExc) : Option PV := if argB x.arg then (hs.find? fun p => decide (p.1 = x.cls)).map fun p => .lst (p.2.map .bl) else none
def mRowT (hs : List (Str × List Bool)) (m : EM) : EM := fun env st => match m env st with
  | .exc x s => (match tellR hs x with | some v => .ok v s | none => .bad)
  | _ => .bad
structure LamJ (X : Cx) (tb : Tbs) (k : Nat) where
  params : Arguments
  body : Expr
  scope : Scope
  pos : Pos
  m : EM
  L : LamS X.env.scope scope
  hdef : defaultsOf params X.env = ([], [])
  hbind : ∀ (q : Str) (cl : List (Str × Addr)) (pm cv ctv : Value), bindArgs (PySem.W.kla_fn "<lambda>" q params body scope cl pm cv ctv) ⟨[], []⟩ = pure []
  hb : ∀ (A : Around) (outer : List Env) (s : Shared) (H : Hp) (E : XK) (f c' : Addr), Room k (A.deeper (lamEnv X scope s.heap.objs.size f c')) → Takes (lamCx X A outer s H E scope f c') (fun cls d _ H' => E cls d H') → EOk (lamCx X A outer s H E scope f c') tb (fun cls d _ H' => E cls d H') .F body m
def LamJ.i {X : Cx} {tb : Tbs} {k : Nat} (j : LamJ X tb k) : LamI X k where
  params := j.params
  body := j.body
  scope := j.scope
  pos := j.pos
  t := fun E => tM X.K X.mg tb (fun cls d _ H' => E cls d H') .F j.m
  L := j.L
  hdef := j.hdef
  hbind := j.hbind
  hbody := fun A outer s H E f c' hr => j.hb A outer s H E f c' hr (takes_of (X := lamCx X A outer s H E j.scope f c') rfl rfl rfl (E₁ := fun e' s'' => L2.CX X.prog X.w outer H s E e' s'') rfl)
def LamJ.e {X : Cx} {tb : Tbs} {k : Nat} (j : LamJ X tb k) : Expr := .Lambda j.params j.body j.scope j.pos
section
variable {X : Cx} {tb : Tbs} {Wx : WX} {k : Nat}
structure RowAt (js : List (LamJ X tb k)) (D : Addr) (W : List Addr) (H : Hp) (fs : List Addr) : Prop where
  d : H D = some (.lst (fs.map V.ref))
  dw : D ∉ W
  len : fs.length = js.length
  fn : ∀ (i : Nat) (j : LamJ X tb k) (f : Addr), js[i]? = some j → fs[i]? = some f → ∃ (c' : Addr) (pm ctv : Value), H f = some (FnO f (lamObj X j.params j.body j.scope pm c' ctv)) ∧ H c' = some (CodeO c' (lamQ X)) ∧ f ∉ W ∧ c' ∉ W
theorem notW {W W' : List Addr} {H H' : Hp} (fr : ∀ b ∈ W', b ∈ W ∨ H b = none) {b : Addr} {o : HO} (e : H b = some o) (n : b ∉ W) : b ∉ W' := fun z => by
  rcases fr b z with q | q
  · exact n q
  · rw [q] at e; cases e
theorem RowAt.keep {js : List (LamJ X tb k)} {D : Addr} {W W' : List Addr} {H H' : Hp} {fs : List Addr} (r : RowAt js D W H fs) (kp : ∀ b o, H b = some o → b ∉ W → NoTbl o → H' b = some o) (fr : ∀ b ∈ W', b ∈ W ∨ H b = none) : RowAt js D W' H' fs where
  d := kp D _ r.d r.dw (fun ps z => nomatch z)
  dw := notW (H' := H') fr r.d r.dw
  len := r.len
  fn := fun i j f h1 h2 => by
    obtain ⟨c', pm, ctv, e1, e2, n1, n2⟩ := r.fn i j f h1 h2
    exact ⟨c', pm, ctv, kp f _ e1 n1 (FnO.noTbl _ _), kp c' _ e2 n2 (fun ps z => LamX.codeO_ne ps z), notW (H' := H') fr e1 n1, notW (H' := H') fr e2 n2⟩
def tLams (X : Cx) (tg : Addr → Option Str) (P : Addr) : List (LamJ X tb k) → TA
  | [] => tNil
  | j :: js => tCons (tLamF X tg P j.params j.body j.scope) (tLams X tg P js)
theorem pa_lams {c P : Addr} {tg : Addr → Option Str} (TB : LamX.TabB X.base X.mg c P) (hcode : X.env.code = .ref c) (hg : tg P = some (lamQ X)) : ∀ js : List (LamJ X tb k), PA X (js.map LamJ.e) (tLams X tg P js)
  | [] => pa_nil
  | j :: js => pa_cons (pe_lamF TB hcode hg j.hdef j.L) (pa_lams TB hcode hg js) (by rfl)
theorem lams_read {P : Addr} {Mx : Addr → Prop} {W : List Addr} {σ : L2.St} {env : MEnv} {st : Sto} (hP : P ∈ tb.ps) (hg : tb.tg P = some (lamQ X)) : ∀ (js : List (LamJ X tb k)) (H : Hp) (Q : List V → Hp → Prop), Rel X.K tb Mx W σ H env st →
    (∀ (H' : Hp) (fs : List Addr), Stp X.K tb Mx env σ W H W H' st → fs.length = js.length → (∀ (i : Nat) (j : LamJ X tb k) (f : Addr), js[i]? = some j → fs[i]? = some f → ∃ (c' : Addr) (pm ctv : Value), H' f = some (FnO f (lamObj X j.params j.body j.scope pm c' ctv)) ∧ H' c' = some (CodeO c' (lamQ X)) ∧ f ∉ W ∧ c' ∉ W) → Q (fs.map V.ref) H') → tLams X tb.tg P js σ H Q
  | [], H, Q, rel, h => h H [] (.refl rel) rfl (fun i j f e => by simp at e)
  | j :: js, H, Q, rel, h => by
    refine ⟨rel.tab P hP, fun H1 f c' pm ctv ls hf hc => ?_⟩
    have a1 := ls.stp rel
    have a2 := a1.trans (Stp.new a1.rel hf (o := FnO f (lamObj X j.params j.body j.scope pm c' ctv)) (FnO.noTbl _ _))
    have hcf : c' ≠ f := fun z => by rw [z, hf] at hc; cases hc
    have nf : f ∉ W := fun z => by
      obtain ⟨u, e, _⟩ := a1.rel.wS z
      rw [hf] at e; cases e
    have nc : c' ∉ W := fun z => a1.rel.wL z _ hc (.inr ⟨_, _, rfl⟩)
    refine lams_read hP hg js _ _ a2.rel fun H' fs a3 hl hfn => h H' (f :: fs) (a2.trans a3) (by simp [hl]) fun i j' f' e1 e2 => ?_
    cases i with
    | zero =>
      simp only [List.getElem?_cons_zero, Option.some.injEq] at e1 e2
      subst e1 e2
      exact ⟨c', pm, ctv, a3.kp f _ upd_same nf (FnO.noTbl _ _), a3.kp c' _ (by rw [upd_ne hcf]; exact hc) nc (fun ps z => LamX.codeO_ne ps z), nf, nc⟩
    | succ i =>
      rw [List.getElem?_cons_succ] at e1 e2
      exact hfn i j' f' e1 e2
def TurnAt (js : List (LamJ X tb k)) (wi ki i : Nat) (σ : L2.St) (W : List Addr) (H : Hp) : Prop := ∃ (D : Addr) (fs : List Addr), σ[wi]? = some (some (.ref D)) ∧ σ[ki]? = some (some (.int (i : Int))) ∧ RowAt js D W H fs
def tMF (js : List (LamJ X tb k)) (wi ki : Nat) (K : PySem.W.Frag) (mg : Str → Option Value) (Wx : WX) (md : Md) (m : EM → EM) : TE := fun σ H Q => ∃ (i : Nat) (j : LamJ X tb k), js[i]? = some j ∧ ∃ Mx W env st, Rel K tb Mx W σ H env st ∧ TurnAt js wi ki i σ W H ∧ EPost K mg tb Mx W σ H env Wx md (m j.m env st) Q
theorem rfs_bls {K : PySem.W.Frag} {M : Addr → Prop} {W : List Addr} {H : Hp} : ∀ bs : List Bool, RFs K M W H (bs.map PV.bl) (bs.map V.bl)
  | [] => RFs.nil
  | b :: bs => RFs.cons (by unfold RF; rfl) (rfs_bls bs)
theorem e_rowT {js : List (LamJ X tb k)} {wi ki : Nat} {x a wn kn : Str} {hs : List (Str × List Bool)} {p wp kp sp pos : Pos} (T : TellR X x a hs) (hgl : Gl X x) (hw : X.N[wi]? = some wn) (hvw : Vis X.env.scope wn) (hk : X.N[ki]? = some kn) (hvk : Vis X.env.scope kn) (hr : Room (k + 2) X.A)
    (hdw : (wn == ("__debug__" : Str)) = false := by decide) (hcw : (wn == ("__classdict__" : Str)) = false := by decide) (hdk : (kn == ("__debug__" : Str)) = false := by decide) (hck : (kn == ("__classdict__" : Str)) = false := by decide)
    (hdb : (x == ("__debug__" : Str)) = false := by decide) (hd : (a == ("__debug__" : Str)) = false := by decide) (hcd : (a == ("__classdict__" : Str)) = false := by decide) :
    PE X (.Call (.Name x p) [.Subscript (.Name wn wp) (.Name kn kp) sp] [] pos) (tMF js wi ki X.K X.mg Wx .N (mRowT hs)) := by
  obtain ⟨g, pg, bg, sg, fd, Ng, cM, c1, c2, c3, c4, c5, c6, c7, c8, c9, c10, c11, h1, h2, h3, h4, h5, h6, h7, h8⟩ := T.ex
  refine PE_mono (pe_toldF (k := k) hgl h1 h2 h3 h4 h5 h6 h7 hr (pe_ix (pos := sp) ix_seq (pe_var (pos := wp) hw hvw hdw hcw) (pe_var (pos := kp) hk hvk hdk hck) (fun _ _ => rfl)) (by rfl) hdb hd hcd) fun σ H Q ⟨i, j, ej, Mx, W, env, st, rel, ⟨D, fs, eD, ei, R⟩, post⟩ => ?_
  have li : i < js.length := (List.getElem?_eq_some_iff.mp ej).1
  obtain ⟨f, ef⟩ : ∃ f, fs[i]? = some f := ⟨fs[i]'(by rw [R.len]; exact li), List.getElem?_eq_getElem _⟩
  obtain ⟨c', pm, ctv, e1, e2, n1, n2⟩ := R.fn i j f ej ef
  refine ⟨_, eD, _, ei, .inl ⟨D, _, i, .ref f, rfl, rfl, .inl (.of R.d), atIn (by rw [List.getElem?_map, ef]; rfl), j.i, f, rfl, ⟨c', pm, ctv, e1, e2⟩, ?_⟩⟩
  refine ⟨Mx, W, env, st, rel, ?_⟩
  unfold mRowT at post
  cases q : j.m env st with
  | bad => rw [q] at post; exact post.elim
  | ok v s => rw [q] at post; exact post.elim
  | exc y s =>
    rw [q] at post
    intro W' H' cls d b rx
    dsimp only at post
    split at post
    rotate_left
    · exact post.elim
    rename_i v hv
    unfold tellR at hv
    split at hv
    rotate_left
    · cases hv
    rename_i harg
    cases qf : hs.find? fun p => decide (p.1 = y.cls) with
    | none => rw [qf] at hv; cases hv
    | some pr =>
      rw [qf] at hv
      cases hv
      have hm := List.mem_of_find?_eq_some qf
      have hn : pr.1 = y.cls := by simpa using List.find?_some qf
      obtain ⟨C, x1, x2, x3, x4, x5, x6, x7, x8, x9, x10, x11, g1, eC, gx, k1, k2, k3, k4, k5, k6, k7, k8, k9, k10, k11, eb⟩ := h8 pr hm
      obtain ⟨r1, r2⟩ := rx
      rw [← hn, g1] at r1
      cases r1
      refine ⟨gx, C, x1, x2, x3, x4, x5, x6, x7, x8, x9, x10, x11, rfl, eC, fun dx ed => ?_, k1, k2, k3, k4, k5, k6, k7, k8, k9, k10, k11, fun p1 hp1 p2 hp2 p3 hp3 p4 hp4 p5 hp5 => ?_⟩
      · rcases r2 with ⟨_, r2⟩ | r2 | ⟨f2, k2, p0, _, r3, r4⟩
        · rw [r2] at ed; cases ed
        · rw [r2] at harg; cases harg
        · rw [r3] at ed; cases ed; exact ⟨_, r4⟩
      · have b1 := b.trans (Stp.new (o := HO.lst ([V.bl x1, V.bl x2, V.bl x3, V.bl x4])) b.rel hp1 noTbl_lst)
        have b2 := b1.trans (Stp.new (o := HO.lst ([V.bl x5, V.bl x6, V.bl x7, V.bl x8])) b1.rel hp2 noTbl_lst)
        have b3 := b2.trans (Stp.new (o := HO.lst ([V.bl x1, V.bl x2, V.bl x3, V.bl x4] ++ [V.bl x5, V.bl x6, V.bl x7, V.bl x8])) b2.rel hp3 noTbl_lst)
        have b4 := b3.trans (Stp.new (o := HO.lst ([V.bl x9, V.bl x10, V.bl x11])) b3.rel hp4 noTbl_lst)
        have rf := rm_newL b4.rel hp5 (rfs_bls (K := X.K) pr.2)
        rw [eb] at rf
        have post2 := EPost.from (r := MRes.ok (PV.lst (pr.2.map PV.bl)) s) b4 post
        rw [eb] at post2
        exact post2 W' _ _ (.new b4.rel hp5 noTbl_lst) rf
end
end Mp
end
section
set_option maxRecDepth 100000
set_option maxHeartbeats 4000000
namespace Mp
open PySem PySem.Spec PyProof.Rows L2 GxR LamX
def whatsL (hs : List (Str × List Bool)) (ki : Nat) (mr : EM) : Nat → List EM → MEnv → Sto → MFlow
  | _, [], env, st => .nx env st
  | i, m :: ms, env, st => match mRowT hs m (env.set ki (.pv (.int (i : Nat)))) st with
    | .ok v s => (match mr (env.set ki (.pv (.int (i : Nat)))) s with
      | .ok r s' => (match cNe v r with
        | some (.bl false) => whatsL hs ki mr (i + 1) ms (env.set ki .un) s'
        | _ => .bad)
      | _ => .bad)
    | _ => .bad
def sWhats (hs : List (Str × List Bool)) (wi ki : Nat) (ms : List EM) (mr : EM) : SM := fun env st => if wi < env.length ∧ ki < env.length then whatsL hs ki mr 0 ms (env.set wi .un) st else .bad
section
variable {X : Cx} {tb : Tbs} {Wx : WX} {k : Nat}
theorem om_un {env : MEnv} {σ : L2.St} {i : Nat} {w : Option V} {p : Addr} (h : Om (env.set i .un) (σ.set i w) p) : Om env σ p := by
  obtain ⟨j, o, h1, h2⟩ := h
  by_cases e : i = j
  · subst e
    by_cases hl : i < env.length
    · rw [List.getElem?_set_self hl] at h1; cases h1
    · rw [List.getElem?_eq_none (by simpa using hl)] at h1; cases h1
  · rw [List.getElem?_set_ne e] at h1 h2
    exact ⟨j, o, h1, h2⟩
theorem s_whats {js : List (LamJ X tb k)} {wi ki : Nat} {c P : Addr} {x a wn kn : Str} {hs : List (Str × List Bool)} {er : Expr} {mr : EM} {ret : Stmt} {mret m2 : SM} {ss : List Stmt} {p1 p2 p3 p4 p5 p6 p7 p8 p9 p10 p11 p12 p13 p14 p15 p16 p17 : Pos}
    (hp : PassesOwn (model X.prog X.w) X.A X.env X.xe) (hc : X.calm = true) (hN : X.N.Nodup) (TB : GxR.TabB X.base X.mg c P) (hcode : X.env.code = .ref c) (hP : P ∈ tb.ps ∧ tb.tg P = some (lamQ X))
    (T : TellR X x a hs) (hgl : Gl X x) (hw : X.N[wi]? = some wn) (hvw : Loc X.env.scope wn) (hfw : X.fn wn = true ∨ X.env.scope.names.lookup wn = some .local) (hk : X.N[ki]? = some kn) (hvk : Loc X.env.scope kn) (hfk : X.fn kn = true ∨ X.env.scope.names.lookup kn = some .local) (hne : wi ≠ ki) (hr : Room (k + 2) X.A) (hlen : js.length ≤ 1000)
    (hgr : Gl X "range") (hmr : X.mg "range" = none) (hgn : Gl X "len") (hmn : X.mg "len" = none)
    (he : EOk X tb Wx .R er mr) (hret : SOk X tb Wx ret mret) (hrest : BOk X tb Wx ss m2) (hu : X.A.units + 64 < cLine)
    (hsw : swapsWith (.List (js.map LamJ.e) p2) (some (.Name wn p1)) p3.line X.env = pure false)
    (hme : behindInMarks CmpOp.NotEq er = false)
    (hdw : (wn == ("__debug__" : Str)) = false := by decide) (hcw : (wn == ("__classdict__" : Str)) = false := by decide) (hdk : (kn == ("__debug__" : Str)) = false := by decide) (hck : (kn == ("__classdict__" : Str)) = false := by decide)
    (hdb : (x == ("__debug__" : Str)) = false := by decide) (hd : (a == ("__debug__" : Str)) = false := by decide) (hcd : (a == ("__classdict__" : Str)) = false := by decide) :
    BOk X tb Wx (.Assign [.Name wn p1] (.List (js.map LamJ.e) p2) p3 :: .For (.Name kn p4) (.Call (.Name "range" p5) [.Call (.Name "len" p6) [.Name wn p7] [] p8] [] p9) [.If (.Compare (.Call (.Name x p10) [.Subscript (.Name wn p11) (.Name kn p12) p13] [] p14) [.NotEq] [er] p15) [ret] [] p16] [] p17 :: ss) (sSeq (sWhats hs wi ki (js.map (·.m)) mr) m2) := by
  have vw : Vis X.env.scope wn := hvw.elim .inl fun z => .inr (.inl z)
  have vk : Vis X.env.scope kn := hvk.elim .inl fun z => .inr (.inl z)
  have a1 := L2.ps_set (i := wi) (pos' := p1) (pos := p3) hN hw hvw (show PE X (.List (js.map LamJ.e) p2) _ from pe_lst (pa_lams ⟨TB.code, TB.bm, TB.gP⟩ hcode hP.2 js)) hsw hfw
  have test := pt_cmpR (pos := p15) (opv_ne hu) (e_rowT (js := js) (wi := wi) (ki := ki) (p := p10) (wp := p11) (kp := p12) (sp := p13) (pos := p14) (Wx := Wx) T hgl hw vw hk vk hr hdw hcw hdk hck hdb hd hcd) he hme
  have body := pss_one (ps_if (pos := p16) test (pss_one hret) pss_nil)
  have len := pe_callB (p := p6) (pos := p8) call_len_seq hgn hmn boot_len (pa_cons (pe_var (pos := p7) hw vw hdw hcw) pa_nil (by rfl)) (by decide) (by decide) (by rfl) (by rfl)
  have loop := ps_for (pos := p17) hp hc (pi_range1 (tg := .Name kn p4) (p := p5) (pos := p9) hgr hmr (pa_cons len pa_nil (by rfl)) (by rfl)) (pg_name (pos := p4) hN hk hvk hfk) body (by intro _; rfl)
  refine PSs_mono (pss_cons a1 (pss_cons loop hrest)) fun D0' σ H ⟨Mx, W0, H0, O0, W, env, st, rel, kb, post⟩ => ?_
  have post : SPost X.K X.mg tb Mx W0 H0 O0 Wx (sWhats hs wi ki (js.map (·.m)) mr env st) { D0' with nx := tS X.K X.mg tb Wx m2 D0' } := by
    unfold sSeq at post
    cases q : sWhats hs wi ki (js.map (·.m)) mr env st with
    | nx e' s' => rw [q] at post; exact fun σ' W' H' r k => ⟨Mx, W0, H0, O0, W', e', s', r, k, post⟩
    | rt v s' => rw [q] at post; exact post
    | bk e' s' => rw [q] at post; exact post
    | ct e' s' => rw [q] at post; exact post
    | ex x s' => rw [q] at post; exact post
    | bad => rw [q] at post; exact post
  generalize hD : ({ D0' with nx := tS X.K X.mg tb Wx m2 D0' } : Ends) = D at post
  refine lams_read hP.1 hP.2 js H _ rel fun H1 fs a2 hl hfn => ⟨by rw [List.length_map, hl]; exact Nat.le_trans hlen (by decide), fun D0 hD0 => ?_⟩
  have a3 := a2.trans (Stp.new (o := .lst (fs.map V.ref)) a2.rel hD0 noTbl_lst)
  have nD : D0 ∉ W := fun z => by
    obtain ⟨u, e, _⟩ := a2.rel.wS z
    rw [hD0] at e; cases e
  have R : RowAt js D0 W (upd H1 D0 (.lst (fs.map V.ref))) fs := ⟨upd_same, nD, hl, fun i j f e1 e2 => by
    obtain ⟨c', pm, ctv, g1, g2, n1, n2⟩ := hfn i j f e1 e2
    exact ⟨c', pm, ctv, by rw [upd_ne (fun z => by rw [z, hD0] at g1; cases g1)]; exact g1, by rw [upd_ne (fun z => by rw [z, hD0] at g2; cases g2)]; exact g2, n1, n2⟩⟩
  unfold sWhats at post
  split at post
  rotate_left
  · exact post.elim
  rename_i hl2
  have eL : env.length = σ.length := rel.el
  have eD : (σ.set wi (some (V.ref D0)))[wi]? = some (some (V.ref D0)) := List.getElem?_set_self (by omega)
  have rel0 : Rel X.K tb Mx W (σ.set wi (some (V.ref D0))) (upd H1 D0 (.lst (fs.map V.ref))) (env.set wi .un) st := a3.rel.setEv (fun o z => nomatch z) fun u e => nomatch e
  have kb0 : KB W0 H0 O0 W (upd H1 D0 (.lst (fs.map V.ref))) (Om (env.set wi .un) (σ.set wi (some (V.ref D0)))) := (kb.trans a3.kb).less fun _ z => om_un z
  have lj : ((fs.map V.ref).length : Int) = (js.length : Nat) := by rw [List.length_map, hl]
  refine ⟨_, eD, D0, _, rfl, .inl (.inl (.of upd_same)), _, rfl, by rw [lj]; omega, by rw [lj]; omega, ?_⟩
  rw [lj]
  refine ⟨fun i n σ' H' => ∃ W' env' st', Rel X.K tb Mx W' σ' H' env' st' ∧ KB W0 H0 O0 W' H' (Om env' σ') ∧ i + n = js.length ∧ ki < env'.length ∧ σ'[wi]? = some (some (V.ref D0)) ∧ RowAt js D0 W' H' fs ∧ SPost X.K X.mg tb Mx W0 H0 O0 Wx (whatsL hs ki mr i ((js.drop i).map (·.m)) env' st') D,
    ⟨js.length, W, _, st, rel0, kb0, Nat.zero_add _, by rw [List.length_set]; exact hl2.2, eD, R, post⟩, fun i n σ' H' ⟨W', env', st', rel', kb', en, hki, eD', R', post'⟩ => ?_⟩
  have eL' : env'.length = σ'.length := rel'.el
  by_cases hi : i < js.length
  · refine .inr ⟨?_, fun σ2 H2 => ∃ W' env' st', Rel X.K tb Mx W' σ2 H2 env' st' ∧ KB W0 H0 O0 W' H2 (Om env' σ2) ∧ i + 1 + (n - 1) = js.length ∧ ki < env'.length ∧ σ2[wi]? = some (some (V.ref D0)) ∧ RowAt js D0 W' H2 fs ∧ SPost X.K X.mg tb Mx W0 H0 O0 Wx (whatsL hs ki mr (i + 1) ((js.drop (i + 1)).map (·.m)) env' st') D, fun σ2 H2 h2 => ⟨n - 1, by omega, h2⟩, fun v H2 hy => ?_⟩
    · show i < ((js.length : Nat) : Int).toNat
      omega
    obtain ⟨rfl, rfl⟩ := hy
    have ej : js[i]? = some js[i] := List.getElem?_eq_getElem hi
    have e0 : (0 : Int) + (i : Nat) = ((i : Nat) : Int) := by omega
    rw [e0]
    have rel2 : Rel X.K tb Mx W' (σ'.set ki (some (V.int (i : Nat)))) H2 (env'.set ki (.pv (.int (i : Nat)))) st' := rel'.setPv rf_int
    have eD2 : (σ'.set ki (some (V.int ((i : Nat) : Int))))[wi]? = some (some (V.ref D0)) := by rw [List.getElem?_set_ne (Ne.symm hne)]; exact eD'
    have ek2 : (σ'.set ki (some (V.int ((i : Nat) : Int))))[ki]? = some (some (V.int ((i : Nat) : Int))) := List.getElem?_set_self (by omega)
    rw [List.drop_eq_getElem_cons hi] at post'
    simp only [List.map_cons, whatsL] at post'
    refine ⟨i, js[i], ej, Mx, W', _, st', rel2, ⟨D0, fs, eD2, ek2, R'⟩, ?_⟩
    cases q : mRowT hs js[i].m (env'.set ki (.pv (.int (i : Nat)))) st' with
    | bad => rw [q] at post'; exact post'.elim
    | exc y s => rw [q] at post'; exact post'.elim
    | ok v s =>
      rw [q] at post'
      intro W3 H3 w3 a3' r3
      refine ⟨Mx, W3, _, s, a3'.rel, ?_⟩
      dsimp only at post'
      cases q2 : mr (env'.set ki (.pv (.int (i : Nat)))) s with
      | bad => rw [q2] at post'; exact post'.elim
      | exc y s2 => rw [q2] at post'; exact post'.elim
      | ok r s2 =>
        rw [q2] at post'
        intro W4 H4 w4 a4 r4
        dsimp only at post'
        split at post'
        rotate_left
        · exact post'.elim
        rename_i hcn
        refine ⟨Mt Mx W4 _ _, W4, v, r, .bl false, fun p z => a4.rel.mtS z, RV.stp a4 (RM.toR (RM.toF r3)), r4, hcn, fun H5 w5 al rf => ?_⟩
        unfold RF at rf
        refine ⟨false, rf, ?_⟩
        dsimp only
        rw [if_neg Bool.false_ne_true]
        have a5 := a3'.trans (a4.trans (al.stp a4.rel))
        refine ⟨W4, env'.set ki .un, s2, ?_, ?_, by omega, by rw [List.length_set]; exact hki, eD2, R'.keep a5.kp a5.fr, post'⟩
        · have := a5.rel.kill (i := ki)
          rw [List.set_set] at this
          exact this
        · exact (kb'.trans (a5.kb (O := Om env' σ'))).less fun _ z => om_un z
  · have e : i = js.length := by omega
    subst e
    refine .inl ⟨?_, ?_⟩
    · show ((js.length : Nat) : Int).toNat ≤ js.length
      omega
    · rw [List.drop_length] at post'
      have z := post' σ' W' H' rel' kb'
      rw [← hD] at z
      exact z
end
end Mp
end
section
set_option maxRecDepth 100000
set_option maxHeartbeats 4000000
namespace Mp
open PySem PySem.Spec PyProof.Rows L2 GxR LamX
def RowH (K : PySem.W.Frag) (mg : Str → Option Value) (xM A1 A2 A3 A4 A5 A6 A7 A8 A9 A10 : Str) (Bt : String) (hs : List (Str × List Bool)) : Prop := ∃ (DM D1 D2 D3 D4 D5 D6 D7 D8 D9 D10 : Addr), mg xM = some (.ref DM) ∧ mg A1 = some (.ref D1) ∧ mg A2 = some (.ref D2) ∧ mg A3 = some (.ref D3) ∧ mg A4 = some (.ref D4) ∧ mg A5 = some (.ref D5) ∧ mg A6 = some (.ref D6) ∧ mg A7 = some (.ref D7) ∧ mg A8 = some (.ref D8) ∧ mg A9 = some (.ref D9) ∧ mg A10 = some (.ref D10) ∧ ∀ p ∈ hs, RowC K mg (.ref DM) (.ref D1) (.ref D2) (.ref D3) (.ref D4) (.ref D5) (.ref D6) (.ref D7) (.ref D8) (.ref D9) (.ref D10) (.type Bt) p.1 p.2
def rowOne (K : PySem.W.Frag) (DM D1 D2 D3 D4 D5 D6 D7 D8 D9 D10 : Addr) (Bt : String) (p : Str × List Bool) : Bool := match clsAt K p.1 with
  | some C => excCB K C && (isTru (PySem.W.exmOne K (.ref C) (.ref DM)) && (match p.2 with | [x1, x2, x3, x4, x5, x6, x7, x8, x9, x10, x11] => decide (PySem.W.kitOne K (.ref C) (.ref D1) = some x1) && decide (PySem.W.kitOne K (.ref C) (.ref D2) = some x2) && decide (PySem.W.kitOne K (.ref C) (.ref D3) = some x3) && decide (PySem.W.kitOne K (.ref C) (.ref D4) = some x4) && decide (PySem.W.kitOne K (.ref C) (.ref D5) = some x5) && decide (PySem.W.kitOne K (.ref C) (.ref D6) = some x6) && decide (PySem.W.kitOne K (.ref C) (.ref D7) = some x7) && decide (PySem.W.kitOne K (.ref C) (.ref D8) = some x8) && decide (PySem.W.kitOne K (.ref C) (.ref D9) = some x9) && decide (PySem.W.kitOne K (.ref C) (.ref D10) = some x10) && decide (PySem.W.kitOne K (.ref C) (.type Bt) = some x11) | _ => false))
  | none => false
def rowB (K : PySem.W.Frag) (xM A1 A2 A3 A4 A5 A6 A7 A8 A9 A10 : Str) (Bt : String) (hs : List (Str × List Bool)) : Bool := match clsAt K xM with
  | none => false
  | some DM => match clsAt K A1 with
  | none => false
  | some D1 => match clsAt K A2 with
  | none => false
  | some D2 => match clsAt K A3 with
  | none => false
  | some D3 => match clsAt K A4 with
  | none => false
  | some D4 => match clsAt K A5 with
  | none => false
  | some D5 => match clsAt K A6 with
  | none => false
  | some D6 => match clsAt K A7 with
  | none => false
  | some D7 => match clsAt K A8 with
  | none => false
  | some D8 => match clsAt K A9 with
  | none => false
  | some D9 => match clsAt K A10 with
  | none => false
  | some D10 => hs.all (rowOne K DM D1 D2 D3 D4 D5 D6 D7 D8 D9 D10 Bt)
theorem rowOne_ok {K : PySem.W.Frag} {h : Heap} {mg : Str → Option Value} {DM D1 D2 D3 D4 D5 D6 D7 D8 D9 D10 : Addr} {Bt : String} {p : Str × List Bool} (X : K.In h) (G : h.Ns mainGlobals mg) (c : rowOne K DM D1 D2 D3 D4 D5 D6 D7 D8 D9 D10 Bt p = true) : RowC K mg (.ref DM) (.ref D1) (.ref D2) (.ref D3) (.ref D4) (.ref D5) (.ref D6) (.ref D7) (.ref D8) (.ref D9) (.ref D10) (.type Bt) p.1 p.2 := by
  unfold rowOne at c
  split at c
  · rename_i C e
    rw [Bool.and_eq_true, Bool.and_eq_true] at c
    obtain ⟨c1, c2, c3⟩ := c
    split at c3
    · rename_i x1 x2 x3 x4 x5 x6 x7 x8 x9 x10 x11 ex
      simp only [Bool.and_eq_true, decide_eq_true_eq] at c3
      obtain ⟨⟨⟨⟨⟨⟨⟨⟨⟨⟨k1, k2⟩, k3⟩, k4⟩, k5⟩, k6⟩, k7⟩, k8⟩, k9⟩, k10⟩, k11⟩ := c3
      exact ⟨C, x1, x2, x3, x4, x5, x6, x7, x8, x9, x10, x11, clsAt_ok X G e, excCB_ok c1, isTru_ok c2, k1, k2, k3, k4, k5, k6, k7, k8, k9, k10, k11, ex⟩
    · cases c3
  · cases c
theorem row_ok {K : PySem.W.Frag} {h : Heap} {mg : Str → Option Value} {xM A1 A2 A3 A4 A5 A6 A7 A8 A9 A10 : Str} {Bt : String} {hs : List (Str × List Bool)} (X : K.In h) (G : h.Ns mainGlobals mg) (c : rowB K xM A1 A2 A3 A4 A5 A6 A7 A8 A9 A10 Bt hs = true) : RowH K mg xM A1 A2 A3 A4 A5 A6 A7 A8 A9 A10 Bt hs := by
  unfold rowB at c
  split at c
  · cases c
  rename_i DM eM
  split at c
  · cases c
  rename_i D1 e1
  split at c
  · cases c
  rename_i D2 e2
  split at c
  · cases c
  rename_i D3 e3
  split at c
  · cases c
  rename_i D4 e4
  split at c
  · cases c
  rename_i D5 e5
  split at c
  · cases c
  rename_i D6 e6
  split at c
  · cases c
  rename_i D7 e7
  split at c
  · cases c
  rename_i D8 e8
  split at c
  · cases c
  rename_i D9 e9
  split at c
  · cases c
  rename_i D10 e10
  exact ⟨DM, D1, D2, D3, D4, D5, D6, D7, D8, D9, D10, clsAt_ok X G eM, clsAt_ok X G e1, clsAt_ok X G e2, clsAt_ok X G e3, clsAt_ok X G e4, clsAt_ok X G e5, clsAt_ok X G e6, clsAt_ok X G e7, clsAt_ok X G e8, clsAt_ok X G e9, clsAt_ok X G e10, fun p hp => rowOne_ok X G (List.all_eq_true.mp c p hp)⟩
end Mp
end
section
set_option maxRecDepth 100000
set_option maxHeartbeats 4000000
namespace K52
open PySem PySem.Spec PyProof.Rows L2 GxR Mp
def top (i : Nat) : Stmt := PySem.Challenge.pw_maproom_k52_refusals_apart.main.body.getD i (.Pass ⟨0, 0, 0, 0⟩)
def mt (i j : Nat) : Stmt := match top i with
  | .ClassDef _ _ _ body _ _ _ _ _ _ _ => body.getD j (.Pass ⟨0, 0, 0, 0⟩)
  | _ => .Pass ⟨0, 0, 0, 0⟩
def XS : List Str := ["BadNumber", "BadPoint", "BadShape", "BadRegion", "BadMap", "BadText", "BadPaper", "NoWay", "TooLarge", "BadDeed"]
def rowHs : List (Str × List Bool) := [("BadNumber", [true, false, false, false, false, false, false, false, false, false, true]), ("BadPoint", [false, true, false, false, false, false, false, false, false, false, true]), ("BadShape", [false, false, true, false, false, false, false, false, false, false, true]), ("BadRegion", [false, false, false, true, false, false, false, false, false, false, true]), ("BadMap", [false, false, false, false, true, false, false, false, false, false, true]), ("BadText", [false, false, false, false, false, true, false, false, false, false, true]), ("BadPaper", [false, false, false, false, false, false, true, false, false, false, true]), ("NoWay", [false, false, false, false, false, false, false, true, false, false, true]), ("TooLarge", [false, false, false, false, false, false, false, false, true, false, true]), ("BadDeed", [false, false, false, false, false, false, false, false, false, true, true])]
structure Hy (P : Program) (K : PySem.W.Frag) (mg : Str → Option Value) (cs : List (Addr × Addr)) (tg : Addr → Option Str) : Prop where
  n_ValueError : mg "ValueError" = none
  n_abs : mg "abs" = none
  n_all : mg "all" = none
  n_any : mg "any" = none
  n_bool : mg "bool" = none
  n_enumerate : mg "enumerate" = none
  n_int : mg "int" = none
  n_isinstance : mg "isinstance" = none
  n_len : mg "len" = none
  n_max : mg "max" = none
  n_min : mg "min" = none
  n_range : mg "range" = none
  n_reversed : mg "reversed" = none
  n_str : mg "str" = none
  n_super : mg "super" = none
  n_tuple : mg "tuple" = none
  c_FAR_points : ∃ u, mg "FAR_points" = some u ∧ cnV K (.int 10000) u = true
  c_FAR_regions : ∃ u, mg "FAR_regions" = some u ∧ cnV K (.int 10000) u = true
  c_FIGURES : ∃ u, mg "FIGURES" = some u ∧ cnV K (.str (Str.ofString "0123456789")) u = true
  c_SMALL : ∃ u, mg "SMALL" = some u ∧ cnV K (.str (Str.ofString "abcdefghijklmnopqrstuvwxyz")) u = true
  r_BadDeed : ∃ C, XcF K mg "BadDeed" C
  r_BadMap : ∃ C, XcF K mg "BadMap" C
  r_BadNumber : ∃ C, XcF K mg "BadNumber" C
  r_BadPoint : ∃ C, XcF K mg "BadPoint" C
  r_BadRegion : ∃ C, XcF K mg "BadRegion" C
  r_BadShape : ∃ C, XcF K mg "BadShape" C
  r_NoWay : ∃ C, XcF K mg "NoWay" C
  r_TooLarge : ∃ C, XcF K mg "TooLarge" C
  p_BadPaper : ∃ C fI, Pap P K mg "BadPaper" "part" C fI
  p_BadText : ∃ C fI, Pap P K mg "BadText" "line" C fI
  g_BadNumber : ∃ C, mg "BadNumber" = some C
  g_BadPoint : ∃ C, mg "BadPoint" = some C
  g_BadShape : ∃ C, mg "BadShape" = some C
  g_BadRegion : ∃ C, mg "BadRegion" = some C
  g_BadMap : ∃ C, mg "BadMap" = some C
  g_BadText : ∃ C, mg "BadText" = some C
  g_BadPaper : ∃ C, mg "BadPaper" = some C
  g_NoWay : ∃ C, mg "NoWay" = some C
  g_TooLarge : ∃ C, mg "TooLarge" = some C
  g_BadDeed : ∃ C, mg "BadDeed" = some C
  row_law_told : RowH K mg "MapError" "BadNumber" "BadPoint" "BadShape" "BadRegion" "BadMap" "BadText" "BadPaper" "NoWay" "TooLarge" "BadDeed" "ValueError" rowHs
  xm : ∀ y ∈ XS, ∀ z ∈ XS, XmF K mg y z
  k_Desk : ClsF K mg "Desk" ["things", "deeds", "undone"]
  f_law_dice : ∃ f fd c T, FnAt K mg cs tg none "_law_dice" (top 66) f fd c T
  f_law_rounds : ∃ f fd c T, FnAt K mg cs tg none "_law_rounds" (top 68) f fd c T
  m_Desk_init : Mk K (clsA K "Desk") (He.ma K (He.ga K "Desk") "__init__")
  f_Desk_init : ∃ fd c T, MtAt K cs tg none "__init__" "Desk.__init__" (mt 43 0) (He.ma K (He.ga K "Desk") "__init__") fd c T
  f_law_roll : ∃ f fd c T, FnAt K mg cs tg none "_law_roll" (top 67) f fd c T
  f_law_told : ∃ f fd c T, FnAt K mg cs tg none "_law_told" (top 69) f fd c T
  f_is_whole : ∃ f fd c T, FnAt K mg cs tg none "is_whole" (top 14) f fd c T
  f_check_whole : ∃ f fd c T, FnAt K mg cs tg none "check_whole" (top 15) f fd c T
  f_is_point : ∃ f fd c T, FnAt K mg cs tg none "is_point" (top 18) f fd c T
  f_check_points : ∃ f fd c T, FnAt K mg cs tg none "check_points" (top 19) f fd c T
  f_sides : ∃ f fd c T, FnAt K mg cs tg none "sides" (top 28) f fd c T
  f_less : ∃ f fd c T, FnAt K mg cs tg none "less" (top 20) f fd c T
  f_cross : ∃ f fd c T, FnAt K mg cs tg none "cross" (top 21) f fd c T
  f_turn : ∃ f fd c T, FnAt K mg cs tg none "turn" (top 22) f fd c T
  f_between : ∃ f fd c T, FnAt K mg cs tg none "between" (top 24) f fd c T
  f_folds : ∃ f fd c T, FnAt K mg cs tg none "folds" (top 30) f fd c T
  f_do_meet : ∃ f fd c T, FnAt K mg cs tg none "do_meet" (top 26) f fd c T
  f_is_shape : ∃ f fd c T, FnAt K mg cs tg none "is_shape" (top 29) f fd c T
  f_check_shape : ∃ f fd c T, FnAt K mg cs tg none "check_shape" (top 31) f fd c T
  f_is_block : ∃ f fd c T, FnAt K mg cs tg none "is_block" (top 57) f fd c T
  f_check_blocks : ∃ f fd c T, FnAt K mg cs tg none "check_blocks" (top 58) f fd c T
  f_lies_on : ∃ f fd c T, FnAt K mg cs tg none "lies_on" (top 54) f fd c T
  f_is_map : ∃ f fd c T, FnAt K mg cs tg none "is_map" (top 51) f fd c T
  f_check_map : ∃ f fd c T, FnAt K mg cs tg none "check_map" (top 53) f fd c T
  f_is_number : ∃ f fd c T, FnAt K mg cs tg none "is_number" (top 41) f fd c T
  f_is_name : ∃ f fd c T, FnAt K mg cs tg none "is_name" (top 36) f fd c T
  f_is_thing : ∃ f fd c T, FnAt K mg cs tg none "is_thing" (top 37) f fd c T
  f_thing_of : ∃ f fd c T, FnAt K mg cs tg none "thing_of" (top 40) f fd c T
  f_read : ∃ f fd c T, FnAt K mg cs tg none "read" (top 39) f fd c T
  f_on_it : ∃ f fd c T, FnAt K mg cs tg none "on_it" (top 49) f fd c T
  f_is_in : ∃ f fd c T, FnAt K mg cs tg none "is_in" (top 48) f fd c T
  f_look_hull : ∃ f fd c T, FnAt K mg cs tg none "look_hull" (top 47) f fd c T
  f_check_roads : ∃ f fd c T, FnAt K mg cs tg none "check_roads" (top 60) f fd c T
  f_lengths_from : ∃ f fd c T, FnAt K mg cs tg (some "lengths_from.<locals>.<lambda>") "lengths_from" (top 61) f fd c T
  f_shortest : ∃ f fd c T, FnAt K mg cs tg none "shortest" (top 62) f fd c T
  f_best_round : ∃ f fd c T, FnAt K mg cs tg none "best_round" (top 64) f fd c T
  m_Desk_undo : Meth K (clsA K "Desk") "undo" (He.ma K (He.ga K "Desk") "undo")
  f_Desk_undo : ∃ fd c T, MtAt K cs tg none "undo" "Desk.undo" (mt 43 6) (He.ma K (He.ga K "Desk") "undo") fd c T
  f_law : ∃ f fd c T, FnAt K mg cs tg (some "law.<locals>.<lambda>") "law" (top 70) f fd c T
variable {P : Program} {w : World} {K : PySem.W.Frag} {mg : Str → Option Value} {base : Heap} {cs : List (Addr × Addr)} {tg : Addr → Option Str}
def N_law_dice : List Str := ["cell"]
theorem S_law_dice : FnScope N_law_dice ["cell"] (defScope (top 66)) := sc_ok (by kernel_rfl)
def s_law_dice_1 : SM := (sRet (mLstS (aCons (mCallB bAbs (aCons (mVar 0) aNil)) (aCons (mC (.int 0)) (aCons (mC (.int 2)) aNil)))))
def s_law_dice_2 : SM := (sIf (tChain2 cLt cLt (mBin pSub (mC (.int 0)) (mC (.int 10))) (mVar 0) (mC (.int 10))) s_law_dice_1 sNil)
def s_law_dice_3 : SM := (sRet (mLstS (aCons (mVar 0) (aCons (mBin pAdd (mC (.int 1)) (mBin pMod (mCallB bInt (aCons (mVar 0) aNil)) (mC (.int 1009)))) (aCons (mCallB bInt (aCons (mBin cGe (mVar 0) (mBin pPow (mC (.int 10)) (mC (.int 18)))) aNil)) aNil)))))
def B_law_dice : SM := (sSeq s_law_dice_2 s_law_dice_3)
def M_law_dice : FM := fnM 1 B_law_dice
theorem cal_law_dice (h : Hy P K mg cs tg) (TB : ∀ p ∈ cs, TabB base mg p.1 p.2) : CalM P w K mg base (tbO cs tg) 1 "_law_dice" 1 M_law_dice := by
  obtain ⟨f, fd, c, T, F⟩ := h.f_law_dice
  refine mk_cal (k := 0) (N := N_law_dice) F S_law_dice TB (fun _ _ _ _ _ _ us hl => match us, hl with | [_], _ => rfl) fun A outer s H E D => ?_
  have S := S_law_dice
  exact (b_cons (s_if (t_chain (opv_lt (u64_of D.hr)) (opv_lt (u64_of D.hr)) (e_toR (e_bin opv_sub (e_toR e_int) (e_toR e_int))) (e_toR (e_var 0)) (e_toR e_int)) (b_one (s_ret (e_lstS (a_consF (e_callB (x := "abs") cv_abs (by rfl) h.n_abs boot_abs (a_consR (e_toR (e_var 0)) a_nil)) (a_consF e_int (a_consF e_int a_nil)))))) b_nil)
  (b_one (s_ret (e_lstS (a_consF (e_var 0) (a_consF (e_bin opv_add (e_toR e_int) (e_toR (e_bin opv_mod (e_toR (e_callT (x := "int") cv_int (by rfl) h.n_int boot_int (a_consR (e_toR (e_var 0)) a_nil))) (e_toR e_int)))) (a_consF (e_callT (x := "int") cv_int (by rfl) h.n_int boot_int (a_consR (e_toR (e_cmp (opv_ge (u64_of D.hr)) (e_toR (e_var 0)) (e_toR (e_bin opv_pow (e_toR e_int) (e_toR e_int))) rfl)) a_nil)) a_nil)))))))
def N_law_rounds : List Str := ["script", "most", "cells", "cell"]
theorem S_law_rounds : FnScope N_law_rounds ["script", "most"] (defScope (top 68)) := sc_ok (by kernel_rfl)
def s_law_rounds_1 : SM := (sSet 2 (mSlice (mVar 0) pN (pS (mVar 1))))
def s_law_rounds_2 : SM := (sSet 2 (mLst (aCons (mC (.int 0)) aNil)))
def s_law_rounds_3 : SM := (sIf (tBin cEq (mVar 2) (mLst aNil)) s_law_rounds_2 sNil)
def s_law_rounds_4 : SM := (sRet (mComp (iSeq (mVar 2)) (gNm 3) tYesM (mCall 1 M_law_dice (aCons (mVar 3) aNil)) [3]))
def B_law_rounds : SM := (sSeq s_law_rounds_1 (sSeq s_law_rounds_3 s_law_rounds_4))
def M_law_rounds : FM := fnM 4 B_law_rounds
theorem cal_law_rounds (h : Hy P K mg cs tg) (TB : ∀ p ∈ cs, TabB base mg p.1 p.2) : CalM P w K mg base (tbO cs tg) 2 "_law_rounds" 2 M_law_rounds := by
  obtain ⟨f, fd, c, T, F⟩ := h.f_law_rounds
  refine mk_cal (k := 1) (N := N_law_rounds) F S_law_rounds TB (fun _ _ _ _ _ _ us hl => match us, hl with | [_, _], _ => rfl) fun A outer s H E D => ?_
  have S := S_law_rounds
  exact (b_cons (s_set (i := 2) S.nd rfl (by first | exact Or.inl rfl | exact Or.inr rfl) (e_slice (e_toR (e_var 0)) p_none (p_some (e_toR (e_var 1)))))
  (b_cons (s_if (t_cmp (opv_eq (u64_of D.hr)) (e_toR (e_var 2)) (e_toR (e_toF (e_lst a_nil))) rfl) (b_one (s_set (i := 2) S.nd rfl (by first | exact Or.inl rfl | exact Or.inr rfl) (e_toF (e_lst (a_consF e_int a_nil))))) b_nil)
  (b_one (s_ret (e_toF (e_lc (own := [("cell", 3)]) D.cm S.nd (i_seq (e_var 2)) (blk_ok (by kernel_rfl)) (by exact fun _ _ _ _ _ => (g_name (i := 3) S.nd rfl (by first | exact Or.inl rfl | exact Or.inr rfl))) (by exact fun _ _ _ _ _ => ts_nil) (by exact fun _ _ _ _ _ => (e_call (cal_law_dice h TB) D.hr (by decide) rfl takesN (a_consF (e_var 3) a_nil)))))))))
def N_Desk_init : List Str := ["self"]
theorem S_Desk_init : FnScope N_Desk_init ["self"] (defScope (mt 43 0)) := sc_ok (by kernel_rfl)
def s_Desk_init_1 : SM := (sFldM "Desk" "things" (mVar 0) mDct0)
def s_Desk_init_2 : SM := (sFldM "Desk" "deeds" (mVar 0) (mRef (mLst aNil)))
def s_Desk_init_3 : SM := (sFldM "Desk" "undone" (mVar 0) (mRef (mLst aNil)))
def B_Desk_init : SM := (sSeq s_Desk_init_1 (sSeq s_Desk_init_2 s_Desk_init_3))
def M_Desk_init : FM := fnM 1 B_Desk_init
theorem cal_Desk_init (h : Hy P K mg cs tg) (TB : ∀ p ∈ cs, TabB base mg p.1 p.2) : CalI P w K mg base (tbO cs tg) 1 "Desk" 1 M_Desk_init := by
  obtain ⟨fd, c, T, F⟩ := h.f_Desk_init
  refine mk_calI F h.m_Desk_init h.k_Desk.glo (k := 0) (N := N_Desk_init) S_Desk_init TB (fun _ _ _ _ _ _ us hl => match us, hl with | [_], _ => rfl) fun A outer s H E D => ?_
  have S := S_Desk_init
  exact (b_cons (s_fld h.k_Desk (by simp) (e_toR (e_var 0)) e_dct0)
  (b_cons (s_fld h.k_Desk (by simp) (e_toR (e_var 0)) (e_ref (e_lst a_nil)))
  (b_one (s_fld h.k_Desk (by simp) (e_toR (e_var 0)) (e_ref (e_lst a_nil))))))
def N_law_roll : List Str := ["dice", "many", "found"]
theorem S_law_roll : FnScope N_law_roll ["dice", "many"] (defScope (top 67)) := sc_ok (by kernel_rfl)
def s_law_roll_1 : SM := (sSet 2 (mBin pMod (mCallB bInt (aCons (mIx (mVar 0) (mC (.int 0))) aNil)) (mVar 1)))
def s_law_roll_2 : SM := (sSetIxS (mVar 0) (mC (.int 0)) (mBin pFdiv (mIx (mVar 0) (mC (.int 0))) (mVar 1)))
def s_law_roll_3 : SM := (sRet (mVar 2))
def s_law_roll_4 : SM := (sIf (tOrM (tBin cEq (mIx (mVar 0) (mC (.int 2))) (mC (.int 2))) (tAndM (tBin cEq (mIx (mVar 0) (mC (.int 2))) (mC (.int 1))) (tBin cGt (mIx (mVar 0) (mC (.int 0))) (mC (.int 0))))) (sSeq s_law_roll_1 (sSeq s_law_roll_2 s_law_roll_3)) sNil)
def s_law_roll_5 : SM := (sSetIxS (mVar 0) (mC (.int 2)) (mC (.int 0)))
def s_law_roll_6 : SM := (sSetIxS (mVar 0) (mC (.int 0)) (mBin pMod (mCallB bInt (aCons (mBin pAdd (mBin pAdd (mBin pMul (mIx (mVar 0) (mC (.int 0))) (mC (.int 48271))) (mBin pMul (mIx (mVar 0) (mC (.int 1))) (mC (.int 69621)))) (mC (.int 11))) aNil)) (mC (.int 2147483647))))
def s_law_roll_7 : SM := (sSetIxS (mVar 0) (mC (.int 1)) (mBin pAdd (mIx (mVar 0) (mC (.int 1))) (mC (.int 1))))
def s_law_roll_8 : SM := (sRet (mBin pMod (mCallB bInt (aCons (mBin pAdd (mBin pFdiv (mIx (mVar 0) (mC (.int 0))) (mC (.int 7))) (mIx (mVar 0) (mC (.int 0)))) aNil)) (mVar 1)))
def B_law_roll : SM := (sSeq s_law_roll_4 (sSeq s_law_roll_5 (sSeq s_law_roll_6 (sSeq s_law_roll_7 s_law_roll_8))))
def M_law_roll : FM := fnM 3 B_law_roll
theorem cal_law_roll (h : Hy P K mg cs tg) (TB : ∀ p ∈ cs, TabB base mg p.1 p.2) : CalM P w K mg base (tbO cs tg) 1 "_law_roll" 2 M_law_roll := by
  obtain ⟨f, fd, c, T, F⟩ := h.f_law_roll
  refine mk_cal (k := 0) (N := N_law_roll) F S_law_roll TB (fun _ _ _ _ _ _ us hl => match us, hl with | [_, _], _ => rfl) fun A outer s H E D => ?_
  have S := S_law_roll
  exact (b_cons (s_if (t_w (w_or (t_cmp (opv_eq (u64_of D.hr)) (e_toR (e_ix (e_toR (e_var 0)) (e_toR e_int) (fun _ _ => rfl))) (e_toR e_int) rfl) (w_or1 (t_w (w_and (t_cmp (opv_eq (u64_of D.hr)) (e_toR (e_ix (e_toR (e_var 0)) (e_toR e_int) (fun _ _ => rfl))) (e_toR e_int) rfl) (w_and1 (t_cmp (opv_gt (u64_of D.hr)) (e_toR (e_ix (e_toR (e_var 0)) (e_toR e_int) (fun _ _ => rfl))) (e_toR e_int) rfl))))))) (b_cons (s_set (i := 2) S.nd rfl (by first | exact Or.inl rfl | exact Or.inr rfl) (e_bin opv_mod (e_toR (e_callT (x := "int") cv_int (by rfl) h.n_int boot_int (a_consR (e_toR (e_ix (e_toR (e_var 0)) (e_toR e_int) (fun _ _ => rfl))) a_nil))) (e_toR (e_var 1))))
  (b_cons (s_setIxS (ps_asg (e_bin opv_fdiv (e_toR (e_ix (e_toR (e_var 0)) (e_toR e_int) (fun _ _ => rfl))) (e_toR (e_var 1))) (pg_sub (e_var 0) (e_toR e_int) set_list (fun _ => rfl))))
  (b_one (s_ret (e_var 2))))) b_nil)
  (b_cons (s_setIxS (ps_asg e_int (pg_sub (e_var 0) (e_toR e_int) set_list (fun _ => rfl))))
  (b_cons (s_setIxS (ps_asg (e_bin opv_mod (e_toR (e_callT (x := "int") cv_int (by rfl) h.n_int boot_int (a_consR (e_toR (e_bin opv_add (e_toR (e_bin opv_add (e_toR (e_bin opv_mul (e_toR (e_ix (e_toR (e_var 0)) (e_toR e_int) (fun _ _ => rfl))) (e_toR e_int))) (e_toR (e_bin opv_mul (e_toR (e_ix (e_toR (e_var 0)) (e_toR e_int) (fun _ _ => rfl))) (e_toR e_int))))) (e_toR e_int))) a_nil))) (e_toR e_int)) (pg_sub (e_var 0) (e_toR e_int) set_list (fun _ => rfl))))
  (b_cons (s_setIxS (ps_asg (e_bin opv_add (e_toR (e_ix (e_toR (e_var 0)) (e_toR e_int) (fun _ _ => rfl))) (e_toR e_int)) (pg_sub (e_var 0) (e_toR e_int) set_list (fun _ => rfl))))
  (b_one (s_ret (e_bin opv_mod (e_toR (e_callT (x := "int") cv_int (by rfl) h.n_int boot_int (a_consR (e_toR (e_bin opv_add (e_toR (e_bin opv_fdiv (e_toR (e_ix (e_toR (e_var 0)) (e_toR e_int) (fun _ _ => rfl))) (e_toR e_int))) (e_toR (e_ix (e_toR (e_var 0)) (e_toR e_int) (fun _ _ => rfl))))) a_nil))) (e_toR (e_var 1)))))))))
def N_law_told : List Str := ["what", "e", "some"]
theorem S_law_told : FnScope N_law_told ["what"] (defScope (top 69)) := sc_ok (by kernel_rfl)
theorem tell_law_told (h : Hy P K mg cs tg) (X : Cx) (eK : X.K = K) (em : X.mg = mg) : TellR X "_law_told" "what" rowHs := by
  subst eK em
  obtain ⟨f, fd, c, T, F⟩ := h.f_law_told
  obtain ⟨DM, D1, D2, D3, D4, D5, D6, D7, D8, D9, D10, mM, m1, m2, m3, m4, m5, m6, m7, m8, m9, m10, hrow⟩ := h.row_law_told
  exact ⟨f, _, _, _, fd, N_law_told, .ref DM, .ref D1, .ref D2, .ref D3, .ref D4, .ref D5, .ref D6, .ref D7, .ref D8, .ref D9, .ref D10, .type "ValueError", F.glo, F.fun_, F.fun_.bindsN (fun _ _ _ _ _ _ us hl => match us, hl with | [_], _ => rfl), S_law_told, rfl, Or.inl rfl, fun cdv _ => give_row (fun _ => rfl) S_law_told rfl rfl rfl rfl rfl mM rfl rfl h.n_isinstance rfl m1 rfl rfl m2 rfl rfl m3 rfl rfl m4 rfl rfl m5 rfl rfl m6 rfl rfl m7 rfl rfl m8 rfl rfl m9 rfl rfl m10 rfl rfl h.n_ValueError (by rfl) (by decide) rfl rfl rfl rfl rfl, hrow⟩
def N_is_whole : List Str := ["thing", "low", "high"]
theorem S_is_whole : FnScope N_is_whole ["thing", "low", "high"] (defScope (top 14)) := sc_ok (by kernel_rfl)
def s_is_whole_1 : SM := (sRet (eAnd (mIsi "int" (mVar 0)) (eAnd (eNot (mIsi "bool" (mVar 0))) (eChain cLe cLe (mVar 1) (mVar 0) (mVar 2)))))
def B_is_whole : SM := s_is_whole_1
def M_is_whole : FM := fnM 3 B_is_whole
theorem cal_is_whole (h : Hy P K mg cs tg) (TB : ∀ p ∈ cs, TabB base mg p.1 p.2) : CalM P w K mg base (tbO cs tg) 1 "is_whole" 3 M_is_whole := by
  obtain ⟨f, fd, c, T, F⟩ := h.f_is_whole
  refine mk_cal (k := 0) (N := N_is_whole) F S_is_whole TB (fun _ _ _ _ _ _ us hl => match us, hl with | [_, _, _], _ => rfl) fun A outer s H E D => ?_
  have S := S_is_whole
  exact (b_one (s_ret (e_and (e_isi (Ts := "int") (by decide) (by rfl) h.n_isinstance boot_isinstance (by rfl) h.n_int PyProof.Rows.boot_int (e_toR (e_var 0))) (e_and (e_not (e_toR (e_isi (Ts := "bool") (by decide) (by rfl) h.n_isinstance boot_isinstance (by rfl) h.n_bool PyProof.Rows.boot_bool (e_toR (e_var 0))))) (e_one (e_chain (opv_le (u64_of D.hr)) (opv_le (u64_of D.hr)) (e_toR (e_var 1)) (e_toR (e_var 0)) (e_toR (e_var 2))))))))
def N_check_whole : List Str := ["thing", "low", "high"]
theorem S_check_whole : FnScope N_check_whole ["thing", "low", "high"] (defScope (top 15)) := sc_ok (by kernel_rfl)
def s_check_whole_1 : SM := (sRaise "BadNumber")
def s_check_whole_2 : SM := (sIf (tNotM (tVal (mCall 3 M_is_whole (aCons (mVar 0) (aCons (mVar 1) (aCons (mVar 2) aNil)))))) s_check_whole_1 sNil)
def B_check_whole : SM := s_check_whole_2
def M_check_whole : FM := fnM 3 B_check_whole
theorem cal_check_whole (h : Hy P K mg cs tg) (TB : ∀ p ∈ cs, TabB base mg p.1 p.2) : CalM P w K mg base (tbO cs tg) 2 "check_whole" 3 M_check_whole := by
  obtain ⟨f, fd, c, T, F⟩ := h.f_check_whole
  refine mk_cal (k := 1) (N := N_check_whole) F S_check_whole TB (fun _ _ _ _ _ _ us hl => match us, hl with | [_, _, _], _ => rfl) fun A outer s H E D => ?_
  have S := S_check_whole
  exact (b_one (s_if (t_not (t_val (e_toR (e_call (cal_is_whole h TB) D.hr (by decide) rfl D.tk (a_consF (e_var 0) (a_consF (e_var 1) (a_consF (e_var 2) a_nil))))))) (b_one (s_raise h.r_BadNumber D.cm D.tk rfl)) b_nil))
def N_is_point : List Str := ["thing", "one"]
theorem S_is_point : FnScope N_is_point ["thing"] (defScope (top 18)) := sc_ok (by kernel_rfl)
def s_is_point_1 : SM := (sRet (eAnd (mIsi "tuple" (mVar 0)) (eAnd (mBin cEq (mCallB bLen (aCons (mVar 0) aNil)) (mC (.int 2))) (mAllG (iSeq (mVar 0)) (gNm 1) tYesM (mCall 3 M_is_whole (aCons (mVar 1) (aCons (mUn pNeg (mC (.int 10000))) (aCons (mC (.int 10000)) aNil)))) [1]))))
def B_is_point : SM := s_is_point_1
def M_is_point : FM := fnM 2 B_is_point
theorem cal_is_point (h : Hy P K mg cs tg) (TB : ∀ p ∈ cs, TabB base mg p.1 p.2) : CalM P w K mg base (tbO cs tg) 5 "is_point" 1 M_is_point := by
  obtain ⟨f, fd, c, T, F⟩ := h.f_is_point
  refine mk_cal (k := 4) (N := N_is_point) F S_is_point TB (fun _ _ _ _ _ _ us hl => match us, hl with | [_], _ => rfl) fun A outer s H E D => ?_
  have S := S_is_point
  exact (b_one (s_ret (e_and (e_isi (Ts := "tuple") (by decide) (by rfl) h.n_isinstance boot_isinstance (by rfl) h.n_tuple PyProof.Rows.boot_tuple (e_toR (e_var 0))) (e_and (e_cmp (opv_eq (u64_of D.hr)) (e_toR (e_callB (x := "len") cv_len (by rfl) h.n_len boot_len (a_consR (e_toR (e_var 0)) a_nil))) (e_toR e_int) rfl) (e_one (e_allG (own := [("one", 1)]) boot_all D.mem D.cm (dp_of D.hr) rfl h.n_all D.tab D.cd (gn_ok (by kernel_rfl)) S.nd (i_seq (e_var 0)) (by exact fun _ _ _ _ _ => (g_name (i := 1) S.nd rfl (by first | exact Or.inl rfl | exact Or.inr rfl))) (by exact fun _ _ _ _ _ => ts_nil) (by exact fun _ _ _ _ _ => (e_call (cal_is_whole h TB) (D.hr.in1.in1.deeper _) (by decide) rfl takesN (a_consF (e_var 1) (a_consF (e_neg (e_toR (e_glo (x := "FAR_points") (by rfl) h.c_FAR_points))) (a_consF (e_glo (x := "FAR_points") (by rfl) h.c_FAR_points) a_nil)))))))))))
def N_check_points : List Str := ["row", "point"]
theorem S_check_points : FnScope N_check_points ["row"] (defScope (top 19)) := sc_ok (by kernel_rfl)
def s_check_points_1 : SM := (sRaise "BadPoint")
def s_check_points_2 : SM := (sIf (tNotM (tVal (mCall 1 M_is_point (aCons (mVar 1) aNil)))) s_check_points_1 sNil)
def s_check_points_3 : SM := (sFor (iSeq (mVar 0)) (gNm 1)
  s_check_points_2 [1])
def B_check_points : SM := s_check_points_3
def M_check_points : FM := fnM 2 B_check_points
theorem cal_check_points (h : Hy P K mg cs tg) (TB : ∀ p ∈ cs, TabB base mg p.1 p.2) : CalM P w K mg base (tbO cs tg) 6 "check_points" 1 M_check_points := by
  obtain ⟨f, fd, c, T, F⟩ := h.f_check_points
  refine mk_cal (k := 5) (N := N_check_points) F S_check_points TB (fun _ _ _ _ _ _ us hl => match us, hl with | [_], _ => rfl) fun A outer s H E D => ?_
  have S := S_check_points
  exact (b_one (s_for (passes_of rfl) D.cm (i_seq (e_var 0)) (g_name (i := 1) S.nd rfl (by first | exact Or.inl rfl | exact Or.inr rfl))
  (b_one (s_if (t_not (t_val (e_toR (e_call (cal_is_point h TB) D.hr (by decide) rfl D.tk (a_consF (e_var 1) a_nil))))) (b_one (s_raise h.r_BadPoint D.cm D.tk rfl)) b_nil)) [1]))
def N_sides : List Str := ["shape", "k"]
theorem S_sides : FnScope N_sides ["shape"] (defScope (top 28)) := sc_ok (by kernel_rfl)
def s_sides_1 : SM := (sRet (mCallB bTuple (aCons (mComp (iRng1M (aCons (mCallB bLen (aCons (mVar 0) aNil)) aNil)) (gNm 1) tYesM (mTup (aCons (mIx (mVar 0) (mVar 1)) (aCons (mIx (mVar 0) (mBin pMod (mBin pAdd (mVar 1) (mC (.int 1))) (mCallB bLen (aCons (mVar 0) aNil)))) aNil))) [1]) aNil)))
def B_sides : SM := s_sides_1
def M_sides : FM := fnM 2 B_sides
theorem cal_sides (h : Hy P K mg cs tg) (TB : ∀ p ∈ cs, TabB base mg p.1 p.2) : CalM P w K mg base (tbO cs tg) 1 "sides" 1 M_sides := by
  obtain ⟨f, fd, c, T, F⟩ := h.f_sides
  refine mk_cal (k := 0) (N := N_sides) F S_sides TB (fun _ _ _ _ _ _ us hl => match us, hl with | [_], _ => rfl) fun A outer s H E D => ?_
  have S := S_sides
  exact (b_one (s_ret (e_callT (x := "tuple") cv_tuple (by rfl) h.n_tuple boot_tuple (a_consR (e_toR (e_toF (e_lc (own := [("k", 1)]) D.cm S.nd (i_range1 rfl h.n_range (a_consR (e_toR (e_callB (x := "len") cv_len (by rfl) h.n_len boot_len (a_consR (e_toR (e_var 0)) a_nil))) a_nil)) (blk_ok (by kernel_rfl)) (by exact fun _ _ _ _ _ => (g_name (i := 1) S.nd rfl (by first | exact Or.inl rfl | exact Or.inr rfl))) (by exact fun _ _ _ _ _ => ts_nil) (by exact fun _ _ _ _ _ => (e_tup (a_consF (e_ix (e_toR (e_var 0)) (e_toR (e_var 1)) (fun _ _ => rfl)) (a_consF (e_ix (e_toR (e_var 0)) (e_toR (e_bin opv_mod (e_toR (e_bin opv_add (e_toR (e_var 1)) (e_toR e_int))) (e_toR (e_callB (x := "len") cv_len (by rfl) h.n_len boot_len (a_consR (e_toR (e_var 0)) a_nil))))) (fun _ _ => rfl)) a_nil))))))) a_nil))))
def N_less : List Str := ["one", "other"]
theorem S_less : FnScope N_less ["one", "other"] (defScope (top 20)) := sc_ok (by kernel_rfl)
def s_less_1 : SM := (sRet (mTup (aCons (mBin pSub (mIx (mVar 0) (mC (.int 0))) (mIx (mVar 1) (mC (.int 0)))) (aCons (mBin pSub (mIx (mVar 0) (mC (.int 1))) (mIx (mVar 1) (mC (.int 1)))) aNil))))
def B_less : SM := s_less_1
def M_less : FM := fnM 2 B_less
theorem cal_less (h : Hy P K mg cs tg) (TB : ∀ p ∈ cs, TabB base mg p.1 p.2) : CalM P w K mg base (tbO cs tg) 1 "less" 2 M_less := by
  obtain ⟨f, fd, c, T, F⟩ := h.f_less
  refine mk_cal (k := 0) (N := N_less) F S_less TB (fun _ _ _ _ _ _ us hl => match us, hl with | [_, _], _ => rfl) fun A outer s H E D => ?_
  have S := S_less
  exact (b_one (s_ret (e_tup (a_consF (e_bin opv_sub (e_toR (e_ix (e_toR (e_var 0)) (e_toR e_int) (fun _ _ => rfl))) (e_toR (e_ix (e_toR (e_var 1)) (e_toR e_int) (fun _ _ => rfl)))) (a_consF (e_bin opv_sub (e_toR (e_ix (e_toR (e_var 0)) (e_toR e_int) (fun _ _ => rfl))) (e_toR (e_ix (e_toR (e_var 1)) (e_toR e_int) (fun _ _ => rfl)))) a_nil)))))
def N_cross : List Str := ["one", "other"]
theorem S_cross : FnScope N_cross ["one", "other"] (defScope (top 21)) := sc_ok (by kernel_rfl)
def s_cross_1 : SM := (sRet (mBin pSub (mBin pMul (mIx (mVar 0) (mC (.int 0))) (mIx (mVar 1) (mC (.int 1)))) (mBin pMul (mIx (mVar 0) (mC (.int 1))) (mIx (mVar 1) (mC (.int 0))))))
def B_cross : SM := s_cross_1
def M_cross : FM := fnM 2 B_cross
theorem cal_cross (h : Hy P K mg cs tg) (TB : ∀ p ∈ cs, TabB base mg p.1 p.2) : CalM P w K mg base (tbO cs tg) 1 "cross" 2 M_cross := by
  obtain ⟨f, fd, c, T, F⟩ := h.f_cross
  refine mk_cal (k := 0) (N := N_cross) F S_cross TB (fun _ _ _ _ _ _ us hl => match us, hl with | [_, _], _ => rfl) fun A outer s H E D => ?_
  have S := S_cross
  exact (b_one (s_ret (e_bin opv_sub (e_toR (e_bin opv_mul (e_toR (e_ix (e_toR (e_var 0)) (e_toR e_int) (fun _ _ => rfl))) (e_toR (e_ix (e_toR (e_var 1)) (e_toR e_int) (fun _ _ => rfl))))) (e_toR (e_bin opv_mul (e_toR (e_ix (e_toR (e_var 0)) (e_toR e_int) (fun _ _ => rfl))) (e_toR (e_ix (e_toR (e_var 1)) (e_toR e_int) (fun _ _ => rfl))))))))
def N_turn : List Str := ["one", "two", "three", "much"]
theorem S_turn : FnScope N_turn ["one", "two", "three"] (defScope (top 22)) := sc_ok (by kernel_rfl)
def s_turn_1 : SM := (sSet 3 (mCall 2 M_cross (aCons (mCall 2 M_less (aCons (mVar 1) (aCons (mVar 0) aNil))) (aCons (mCall 2 M_less (aCons (mVar 2) (aCons (mVar 0) aNil))) aNil))))
def s_turn_2 : SM := (sRet (mBin pSub (mBin cGt (mVar 3) (mC (.int 0))) (mBin cLt (mVar 3) (mC (.int 0)))))
def B_turn : SM := (sSeq s_turn_1 s_turn_2)
def M_turn : FM := fnM 4 B_turn
theorem cal_turn (h : Hy P K mg cs tg) (TB : ∀ p ∈ cs, TabB base mg p.1 p.2) : CalM P w K mg base (tbO cs tg) 2 "turn" 3 M_turn := by
  obtain ⟨f, fd, c, T, F⟩ := h.f_turn
  refine mk_cal (k := 1) (N := N_turn) F S_turn TB (fun _ _ _ _ _ _ us hl => match us, hl with | [_, _, _], _ => rfl) fun A outer s H E D => ?_
  have S := S_turn
  exact (b_cons (s_set (i := 3) S.nd rfl (by first | exact Or.inl rfl | exact Or.inr rfl) (e_call (cal_cross h TB) D.hr (by decide) rfl D.tk (a_consF (e_call (cal_less h TB) D.hr (by decide) rfl D.tk (a_consF (e_var 1) (a_consF (e_var 0) a_nil))) (a_consF (e_call (cal_less h TB) D.hr (by decide) rfl D.tk (a_consF (e_var 2) (a_consF (e_var 0) a_nil))) a_nil))))
  (b_one (s_ret (e_bin opv_sub (e_toR (e_cmp (opv_gt (u64_of D.hr)) (e_toR (e_var 3)) (e_toR e_int) rfl)) (e_toR (e_cmp (opv_lt (u64_of D.hr)) (e_toR (e_var 3)) (e_toR e_int) rfl))))))
def N_between : List Str := ["one", "two", "point", "low", "high"]
theorem S_between : FnScope N_between ["one", "two", "point"] (defScope (top 24)) := sc_ok (by kernel_rfl)
def s_between_1 : SM := (sRet (mC (.bl false)))
def s_between_2 : SM := (sIf (tBin cNe (mCall 3 M_turn (aCons (mVar 0) (aCons (mVar 1) (aCons (mVar 2) aNil)))) (mC (.int 0))) s_between_1 sNil)
def s_between_3 : SM := (sPar [3, 4] (vF (mCallB bMinD (aCons (mVar 0) (aCons (mVar 1) aNil))) (vF (mCallB bMaxD (aCons (mVar 0) (aCons (mVar 1) aNil))) vNil)))
def s_between_4 : SM := (sRet (eAnd (eChain cLe cLe (mIx (mVar 3) (mC (.int 0))) (mIx (mVar 2) (mC (.int 0))) (mIx (mVar 4) (mC (.int 0)))) (eChain cLe cLe (mCallB bMinD (aCons (mIx (mVar 0) (mC (.int 1))) (aCons (mIx (mVar 1) (mC (.int 1))) aNil))) (mIx (mVar 2) (mC (.int 1))) (mCallB bMaxD (aCons (mIx (mVar 0) (mC (.int 1))) (aCons (mIx (mVar 1) (mC (.int 1))) aNil))))))
def B_between : SM := (sSeq s_between_2 (sSeq s_between_3 s_between_4))
def M_between : FM := fnM 5 B_between
theorem cal_between (h : Hy P K mg cs tg) (TB : ∀ p ∈ cs, TabB base mg p.1 p.2) : CalM P w K mg base (tbO cs tg) 3 "between" 3 M_between := by
  obtain ⟨f, fd, c, T, F⟩ := h.f_between
  refine mk_cal (k := 2) (N := N_between) F S_between TB (fun _ _ _ _ _ _ us hl => match us, hl with | [_, _, _], _ => rfl) fun A outer s H E D => ?_
  have S := S_between
  exact (b_cons (s_if (t_cmp (opv_ne (u64_of D.hr)) (e_toR (e_call (cal_turn h TB) D.hr (by decide) rfl D.tk (a_consF (e_var 0) (a_consF (e_var 1) (a_consF (e_var 2) a_nil))))) (e_toR e_int) rfl) (b_one (s_ret e_bl)) b_nil)
  (b_cons (s_par2 (ps_par (i := 3) (j := 4) D.cm S.nd rfl rfl (by decide) rfl rfl (v_F (e_callB (x := "min") (cv_minD D.cm (u100_of D.hr)) (by rfl) h.n_min boot_min (a_consR (e_toR (e_var 0)) (a_consR (e_toR (e_var 1)) a_nil))) (v_F (e_callB (x := "max") (cv_maxD D.cm (u100_of D.hr)) (by rfl) h.n_max boot_max (a_consR (e_toR (e_var 0)) (a_consR (e_toR (e_var 1)) a_nil))) v_nil)) (by rfl)))
  (b_one (s_ret (e_and (e_chain (opv_le (u64_of D.hr)) (opv_le (u64_of D.hr)) (e_toR (e_ix (e_toR (e_var 3)) (e_toR e_int) (fun _ _ => rfl))) (e_toR (e_ix (e_toR (e_var 2)) (e_toR e_int) (fun _ _ => rfl))) (e_toR (e_ix (e_toR (e_var 4)) (e_toR e_int) (fun _ _ => rfl)))) (e_one (e_chain (opv_le (u64_of D.hr)) (opv_le (u64_of D.hr)) (e_toR (e_callB (x := "min") (cv_minD D.cm (u100_of D.hr)) (by rfl) h.n_min boot_min (a_consR (e_toR (e_ix (e_toR (e_var 0)) (e_toR e_int) (fun _ _ => rfl))) (a_consR (e_toR (e_ix (e_toR (e_var 1)) (e_toR e_int) (fun _ _ => rfl))) a_nil)))) (e_toR (e_ix (e_toR (e_var 2)) (e_toR e_int) (fun _ _ => rfl))) (e_toR (e_callB (x := "max") (cv_maxD D.cm (u100_of D.hr)) (by rfl) h.n_max boot_max (a_consR (e_toR (e_ix (e_toR (e_var 0)) (e_toR e_int) (fun _ _ => rfl))) (a_consR (e_toR (e_ix (e_toR (e_var 1)) (e_toR e_int) (fun _ _ => rfl))) a_nil)))))))))))
def N_folds : List Str := ["one", "other", "ends", "shared", "a", "b", "point"]
theorem S_folds : FnScope N_folds ["one", "other"] (defScope (top 30)) := sc_ok (by kernel_rfl)
def s_folds_1 : SM := (sSet 2 (mComp (iSeq (mVar 0)) (gNm 6) (tBin cIn (mVar 6) (mVar 1)) (mVar 6) [6]))
def s_folds_2 : SM := (sRet (mC (.bl true)))
def s_folds_3 : SM := (sIf (tBin cNe (mCallB bLen (aCons (mVar 2) aNil)) (mC (.int 1))) s_folds_2 sNil)
def s_folds_4 : SM := (sSet 3 (mIx (mVar 2) (mC (.int 0))))
def s_folds_5 : SM := (sSet 4 (eIf (tBin cEq (mIx (mVar 0) (mC (.int 1))) (mVar 3)) (mIx (mVar 0) (mC (.int 0))) (mIx (mVar 0) (mC (.int 1)))))
def s_folds_6 : SM := (sSet 5 (eIf (tBin cEq (mIx (mVar 1) (mC (.int 1))) (mVar 3)) (mIx (mVar 1) (mC (.int 0))) (mIx (mVar 1) (mC (.int 1)))))
def s_folds_7 : SM := (sRet (eOr (mCall 3 M_between (aCons (mVar 3) (aCons (mVar 4) (aCons (mVar 5) aNil)))) (mCall 3 M_between (aCons (mVar 3) (aCons (mVar 5) (aCons (mVar 4) aNil))))))
def B_folds : SM := (sSeq s_folds_1 (sSeq s_folds_3 (sSeq s_folds_4 (sSeq s_folds_5 (sSeq s_folds_6 s_folds_7)))))
def M_folds : FM := fnM 7 B_folds
theorem cal_folds (h : Hy P K mg cs tg) (TB : ∀ p ∈ cs, TabB base mg p.1 p.2) : CalM P w K mg base (tbO cs tg) 4 "folds" 2 M_folds := by
  obtain ⟨f, fd, c, T, F⟩ := h.f_folds
  refine mk_cal (k := 3) (N := N_folds) F S_folds TB (fun _ _ _ _ _ _ us hl => match us, hl with | [_, _], _ => rfl) fun A outer s H E D => ?_
  have S := S_folds
  exact (b_cons (s_setOf (asg_toF (p_setLc (own := [("point", 6)]) (i := 2) D.cm S.nd rfl rfl (sw_true rfl rfl rfl rfl) (i_seq (e_var 0)) (blk_ok (by kernel_rfl)) (by exact fun _ _ _ _ _ => (g_name (i := 6) S.nd rfl (by first | exact Or.inl rfl | exact Or.inr rfl))) (by exact fun _ _ _ _ _ => (ts_one (t_cmp (opv_in (u65_of D.hr)) (e_toR (e_var 6)) (e_toR (e_var 1)) rfl))) (by exact fun _ _ _ _ _ => (e_var 6)))))
  (b_cons (s_if (t_cmp (opv_ne (u64_of D.hr)) (e_toR (e_callB (x := "len") cv_len (by rfl) h.n_len boot_len (a_consR (e_toR (e_var 2)) a_nil))) (e_toR e_int) rfl) (b_one (s_ret e_bl)) b_nil)
  (b_cons (s_set (i := 3) S.nd rfl (by first | exact Or.inl rfl | exact Or.inr rfl) (e_ix (e_toR (e_var 2)) (e_toR e_int) (fun _ _ => rfl)))
  (b_cons (s_set (i := 4) S.nd rfl (by first | exact Or.inl rfl | exact Or.inr rfl) (e_if (t_cmp (opv_eq (u64_of D.hr)) (e_toR (e_ix (e_toR (e_var 0)) (e_toR e_int) (fun _ _ => rfl))) (e_toR (e_var 3)) rfl) (e_ix (e_toR (e_var 0)) (e_toR e_int) (fun _ _ => rfl)) (e_ix (e_toR (e_var 0)) (e_toR e_int) (fun _ _ => rfl))))
  (b_cons (s_set (i := 5) S.nd rfl (by first | exact Or.inl rfl | exact Or.inr rfl) (e_if (t_cmp (opv_eq (u64_of D.hr)) (e_toR (e_ix (e_toR (e_var 1)) (e_toR e_int) (fun _ _ => rfl))) (e_toR (e_var 3)) rfl) (e_ix (e_toR (e_var 1)) (e_toR e_int) (fun _ _ => rfl)) (e_ix (e_toR (e_var 1)) (e_toR e_int) (fun _ _ => rfl))))
  (b_one (s_ret (e_or (e_call (cal_between h TB) D.hr (by decide) rfl D.tk (a_consF (e_var 3) (a_consF (e_var 4) (a_consF (e_var 5) a_nil)))) (e_one (e_call (cal_between h TB) D.hr (by decide) rfl D.tk (a_consF (e_var 3) (a_consF (e_var 5) (a_consF (e_var 4) a_nil)))))))))))))
def N_do_meet : List Str := ["one", "other", "a", "b", "c", "d", "first", "second", "third", "fourth"]
theorem S_do_meet : FnScope N_do_meet ["one", "other"] (defScope (top 26)) := sc_ok (by kernel_rfl)
def s_do_meet_1 : SM := (sAsg (gTp 2 (gConsM (gTp 2 (gConsM (gNm 2) (gConsM (gNm 3) gNilM))) (gConsM (gTp 2 (gConsM (gNm 4) (gConsM (gNm 5) gNilM))) gNilM))) (mTup (aCons (mVar 0) (aCons (mVar 1) aNil))))
def s_do_meet_2 : SM := (sAsg (gTp 4 (gConsM (gNm 6) (gConsM (gNm 7) (gConsM (gNm 8) (gConsM (gNm 9) gNilM))))) (mTup (aCons (mCall 3 M_turn (aCons (mVar 2) (aCons (mVar 3) (aCons (mVar 4) aNil)))) (aCons (mCall 3 M_turn (aCons (mVar 2) (aCons (mVar 3) (aCons (mVar 5) aNil)))) (aCons (mCall 3 M_turn (aCons (mVar 4) (aCons (mVar 5) (aCons (mVar 2) aNil)))) (aCons (mCall 3 M_turn (aCons (mVar 4) (aCons (mVar 5) (aCons (mVar 3) aNil)))) aNil))))))
def s_do_meet_3 : SM := (sRet (mC (.bl true)))
def s_do_meet_4 : SM := (sIf (tAndM (tBin cLt (mBin pMul (mVar 6) (mVar 7)) (mC (.int 0))) (tBin cLt (mBin pMul (mVar 8) (mVar 9)) (mC (.int 0)))) s_do_meet_3 sNil)
def s_do_meet_5 : SM := (sRet (eOr (mCall 3 M_between (aCons (mVar 2) (aCons (mVar 3) (aCons (mVar 4) aNil)))) (eOr (mCall 3 M_between (aCons (mVar 2) (aCons (mVar 3) (aCons (mVar 5) aNil)))) (eOr (mCall 3 M_between (aCons (mVar 4) (aCons (mVar 5) (aCons (mVar 2) aNil)))) (mCall 3 M_between (aCons (mVar 4) (aCons (mVar 5) (aCons (mVar 3) aNil))))))))
def B_do_meet : SM := (sSeq s_do_meet_1 (sSeq s_do_meet_2 (sSeq s_do_meet_4 s_do_meet_5)))
def M_do_meet : FM := fnM 10 B_do_meet
theorem cal_do_meet (h : Hy P K mg cs tg) (TB : ∀ p ∈ cs, TabB base mg p.1 p.2) : CalM P w K mg base (tbO cs tg) 4 "do_meet" 2 M_do_meet := by
  obtain ⟨f, fd, c, T, F⟩ := h.f_do_meet
  refine mk_cal (k := 3) (N := N_do_meet) F S_do_meet TB (fun _ _ _ _ _ _ us hl => match us, hl with | [_, _], _ => rfl) fun A outer s H E D => ?_
  have S := S_do_meet
  exact (b_cons (s_asg (e_tup (a_consF (e_var 0) (a_consF (e_var 1) a_nil))) (g_tup D.cm (gs_cons (g_tup D.cm (gs_cons (g_name (i := 2) S.nd rfl (by first | exact Or.inl rfl | exact Or.inr rfl)) (gs_cons (g_name (i := 3) S.nd rfl (by first | exact Or.inl rfl | exact Or.inr rfl)) gs_nil))) (gs_cons (g_tup D.cm (gs_cons (g_name (i := 4) S.nd rfl (by first | exact Or.inl rfl | exact Or.inr rfl)) (gs_cons (g_name (i := 5) S.nd rfl (by first | exact Or.inl rfl | exact Or.inr rfl)) gs_nil))) gs_nil))))
  (b_cons (s_asg (e_tup (a_consF (e_call (cal_turn h TB) D.hr (by decide) rfl D.tk (a_consF (e_var 2) (a_consF (e_var 3) (a_consF (e_var 4) a_nil)))) (a_consF (e_call (cal_turn h TB) D.hr (by decide) rfl D.tk (a_consF (e_var 2) (a_consF (e_var 3) (a_consF (e_var 5) a_nil)))) (a_consF (e_call (cal_turn h TB) D.hr (by decide) rfl D.tk (a_consF (e_var 4) (a_consF (e_var 5) (a_consF (e_var 2) a_nil)))) (a_consF (e_call (cal_turn h TB) D.hr (by decide) rfl D.tk (a_consF (e_var 4) (a_consF (e_var 5) (a_consF (e_var 3) a_nil)))) a_nil))))) (g_tup D.cm (gs_cons (g_name (i := 6) S.nd rfl (by first | exact Or.inl rfl | exact Or.inr rfl)) (gs_cons (g_name (i := 7) S.nd rfl (by first | exact Or.inl rfl | exact Or.inr rfl)) (gs_cons (g_name (i := 8) S.nd rfl (by first | exact Or.inl rfl | exact Or.inr rfl)) (gs_cons (g_name (i := 9) S.nd rfl (by first | exact Or.inl rfl | exact Or.inr rfl)) gs_nil))))))
  (b_cons (s_if (t_w (w_and (t_cmp (opv_lt (u64_of D.hr)) (e_toR (e_bin opv_mul (e_toR (e_var 6)) (e_toR (e_var 7)))) (e_toR e_int) rfl) (w_and1 (t_cmp (opv_lt (u64_of D.hr)) (e_toR (e_bin opv_mul (e_toR (e_var 8)) (e_toR (e_var 9)))) (e_toR e_int) rfl)))) (b_one (s_ret e_bl)) b_nil)
  (b_one (s_ret (e_or (e_call (cal_between h TB) D.hr (by decide) rfl D.tk (a_consF (e_var 2) (a_consF (e_var 3) (a_consF (e_var 4) a_nil)))) (e_or (e_call (cal_between h TB) D.hr (by decide) rfl D.tk (a_consF (e_var 2) (a_consF (e_var 3) (a_consF (e_var 5) a_nil)))) (e_or (e_call (cal_between h TB) D.hr (by decide) rfl D.tk (a_consF (e_var 4) (a_consF (e_var 5) (a_consF (e_var 2) a_nil)))) (e_one (e_call (cal_between h TB) D.hr (by decide) rfl D.tk (a_consF (e_var 4) (a_consF (e_var 5) (a_consF (e_var 3) a_nil)))))))))))))
def N_is_shape : List Str := ["thing", "row", "k", "j", "one", "other", "point"]
theorem S_is_shape : FnScope N_is_shape ["thing"] (defScope (top 29)) := sc_ok (by kernel_rfl)
def s_is_shape_1 : SM := (sRet (mC (.bl false)))
def s_is_shape_2 : SM := (sIf (tOrM (tNotM (tVal (mIsi "tuple" (mVar 0)))) (tOrM (tNotM (tChain2 cLe cLe (mC (.int 3)) (mCallB bLen (aCons (mVar 0) aNil)) (mC (.int 60)))) (tNotM (tVal (mAllG (iSeq (mVar 0)) (gNm 6) tYesM (mCall 1 M_is_point (aCons (mVar 6) aNil)) [6]))))) s_is_shape_1 sNil)
def s_is_shape_3 : SM := (sSet 1 (mCall 1 M_sides (aCons (mVar 0) aNil)))
def s_is_shape_4 : SM := (sIf (tVal (mAnyG (iSeq (mVar 1)) (gTp 2 (gConsM (gNm 4) (gConsM (gNm 5) gNilM))) tYesM (mBin cEq (mVar 4) (mVar 5)) [4, 5])) s_is_shape_1 sNil)
def s_is_shape_5 : SM := (sIf (tVal (mCall 2 M_folds (aCons (mIx (mVar 1) (mVar 3)) (aCons (mIx (mVar 1) (mVar 2)) aNil)))) s_is_shape_1 sNil)
def s_is_shape_6 : SM := (sIf (tVal (mCall 2 M_do_meet (aCons (mIx (mVar 1) (mVar 3)) (aCons (mIx (mVar 1) (mVar 2)) aNil)))) s_is_shape_1 sNil)
def s_is_shape_7 : SM := (sIf (tOrM (tBin cEq (mVar 3) (mBin pSub (mVar 2) (mC (.int 1)))) (tAndM (tBin cEq (mVar 3) (mC (.int 0))) (tBin cEq (mVar 2) (mBin pSub (mCallB bLen (aCons (mVar 1) aNil)) (mC (.int 1)))))) s_is_shape_5 s_is_shape_6)
def s_is_shape_8 : SM := (sFor (iRng1M (aCons (mVar 2) aNil)) (gNm 3)
  s_is_shape_7 [3])
def s_is_shape_9 : SM := (sFor (iRng1M (aCons (mCallB bLen (aCons (mVar 1) aNil)) aNil)) (gNm 2)
  s_is_shape_8 [2, 3])
def s_is_shape_10 : SM := (sRet (mC (.bl true)))
def B_is_shape : SM := (sSeq s_is_shape_2 (sSeq s_is_shape_3 (sSeq s_is_shape_4 (sSeq s_is_shape_9 s_is_shape_10))))
def M_is_shape : FM := fnM 7 B_is_shape
theorem cal_is_shape (h : Hy P K mg cs tg) (TB : ∀ p ∈ cs, TabB base mg p.1 p.2) : CalM P w K mg base (tbO cs tg) 9 "is_shape" 1 M_is_shape := by
  obtain ⟨f, fd, c, T, F⟩ := h.f_is_shape
  refine mk_cal (k := 8) (N := N_is_shape) F S_is_shape TB (fun _ _ _ _ _ _ us hl => match us, hl with | [_], _ => rfl) fun A outer s H E D => ?_
  have S := S_is_shape
  exact (b_cons (s_if (t_w (w_or (t_not (t_val (e_toR (e_isi (Ts := "tuple") (by decide) (by rfl) h.n_isinstance boot_isinstance (by rfl) h.n_tuple PyProof.Rows.boot_tuple (e_toR (e_var 0)))))) (w_or (t_not (t_chain (opv_le (u64_of D.hr)) (opv_le (u64_of D.hr)) (e_toR e_int) (e_toR (e_callB (x := "len") cv_len (by rfl) h.n_len boot_len (a_consR (e_toR (e_var 0)) a_nil))) (e_toR e_int))) (w_or1 (t_not (t_val (e_toR (e_allG (own := [("point", 6)]) boot_all D.mem D.cm (dp_of D.hr) rfl h.n_all D.tab D.cd (gn_ok (by kernel_rfl)) S.nd (i_seq (e_var 0)) (by exact fun _ _ _ _ _ => (g_name (i := 6) S.nd rfl (by first | exact Or.inl rfl | exact Or.inr rfl))) (by exact fun _ _ _ _ _ => ts_nil) (by exact fun _ _ _ _ _ => (e_call (cal_is_point h TB) (D.hr.in1.in1.deeper _) (by decide) rfl takesN (a_consF (e_var 6) a_nil))))))))))) (b_one (s_ret e_bl)) b_nil)
  (b_cons (s_set (i := 1) S.nd rfl (by first | exact Or.inl rfl | exact Or.inr rfl) (e_call (cal_sides h TB) D.hr (by decide) rfl D.tk (a_consF (e_var 0) a_nil)))
  (b_cons (s_if (t_val (e_toR (e_anyG (own := [("one", 4), ("other", 5)]) D.mem D.cm (dp_of D.hr) rfl h.n_any D.tab D.cd (gn_ok (by kernel_rfl)) S.nd (i_seq (e_var 1)) (by exact fun _ _ _ _ _ => (g_tup D.cm (gs_cons (g_name (i := 4) S.nd rfl (by first | exact Or.inl rfl | exact Or.inr rfl)) (gs_cons (g_name (i := 5) S.nd rfl (by first | exact Or.inl rfl | exact Or.inr rfl)) gs_nil)))) (by exact fun _ _ _ _ _ => ts_nil) (by exact fun _ _ _ _ _ => (e_cmp (opv_eq (u64_of (D.hr.in1.in1.deeper _))) (e_toR (e_var 4)) (e_toR (e_var 5)) rfl))))) (b_one (s_ret e_bl)) b_nil)
  (b_cons (s_for (passes_of rfl) D.cm (i_range1 rfl h.n_range (a_consR (e_toR (e_callB (x := "len") cv_len (by rfl) h.n_len boot_len (a_consR (e_toR (e_var 1)) a_nil))) a_nil)) (g_name (i := 2) S.nd rfl (by first | exact Or.inl rfl | exact Or.inr rfl))
  (b_one (s_for (passes_of rfl) D.cm (i_range1 rfl h.n_range (a_consR (e_toR (e_var 2)) a_nil)) (g_name (i := 3) S.nd rfl (by first | exact Or.inl rfl | exact Or.inr rfl))
  (b_one (s_if (t_w (w_or (t_cmp (opv_eq (u64_of D.hr)) (e_toR (e_var 3)) (e_toR (e_bin opv_sub (e_toR (e_var 2)) (e_toR e_int))) rfl) (w_or1 (t_w (w_and (t_cmp (opv_eq (u64_of D.hr)) (e_toR (e_var 3)) (e_toR e_int) rfl) (w_and1 (t_cmp (opv_eq (u64_of D.hr)) (e_toR (e_var 2)) (e_toR (e_bin opv_sub (e_toR (e_callB (x := "len") cv_len (by rfl) h.n_len boot_len (a_consR (e_toR (e_var 1)) a_nil))) (e_toR e_int))) rfl))))))) (b_one (s_if (t_val (e_toR (e_call (cal_folds h TB) D.hr (by decide) rfl D.tk (a_consF (e_ix (e_toR (e_var 1)) (e_toR (e_var 3)) (fun _ _ => rfl)) (a_consF (e_ix (e_toR (e_var 1)) (e_toR (e_var 2)) (fun _ _ => rfl)) a_nil))))) (b_one (s_ret e_bl)) b_nil)) (b_one (s_if (t_val (e_toR (e_call (cal_do_meet h TB) D.hr (by decide) rfl D.tk (a_consF (e_ix (e_toR (e_var 1)) (e_toR (e_var 3)) (fun _ _ => rfl)) (a_consF (e_ix (e_toR (e_var 1)) (e_toR (e_var 2)) (fun _ _ => rfl)) a_nil))))) (b_one (s_ret e_bl)) b_nil)))) [3])) [2, 3])
  (b_one (s_ret e_bl))))))
def N_check_shape : List Str := ["thing"]
theorem S_check_shape : FnScope N_check_shape ["thing"] (defScope (top 31)) := sc_ok (by kernel_rfl)
def s_check_shape_1 : SM := (sRaise "BadShape")
def s_check_shape_2 : SM := (sIf (tNotM (tVal (mCall 1 M_is_shape (aCons (mVar 0) aNil)))) s_check_shape_1 sNil)
def B_check_shape : SM := s_check_shape_2
def M_check_shape : FM := fnM 1 B_check_shape
theorem cal_check_shape (h : Hy P K mg cs tg) (TB : ∀ p ∈ cs, TabB base mg p.1 p.2) : CalM P w K mg base (tbO cs tg) 10 "check_shape" 1 M_check_shape := by
  obtain ⟨f, fd, c, T, F⟩ := h.f_check_shape
  refine mk_cal (k := 9) (N := N_check_shape) F S_check_shape TB (fun _ _ _ _ _ _ us hl => match us, hl with | [_], _ => rfl) fun A outer s H E D => ?_
  have S := S_check_shape
  exact (b_one (s_if (t_not (t_val (e_toR (e_call (cal_is_shape h TB) D.hr (by decide) rfl D.tk (a_consF (e_var 0) a_nil))))) (b_one (s_raise h.r_BadShape D.cm D.tk rfl)) b_nil))
def N_is_block : List Str := ["thing", "one"]
theorem S_is_block : FnScope N_is_block ["thing"] (defScope (top 57)) := sc_ok (by kernel_rfl)
def s_is_block_1 : SM := (sRet (mC (.bl false)))
def s_is_block_2 : SM := (sIf (tOrM (tNotM (tVal (mIsi "tuple" (mVar 0)))) (tOrM (tBin cNe (mCallB bLen (aCons (mVar 0) aNil)) (mC (.int 4))) (tNotM (tVal (mAllG (iSeq (mVar 0)) (gNm 1) tYesM (mCall 3 M_is_whole (aCons (mVar 1) (aCons (mUn pNeg (mC (.int 10000))) (aCons (mC (.int 10000)) aNil)))) [1]))))) s_is_block_1 sNil)
def s_is_block_3 : SM := (sRet (eAnd (mBin cLt (mIx (mVar 0) (mC (.int 0))) (mIx (mVar 0) (mC (.int 2)))) (mBin cLt (mIx (mVar 0) (mC (.int 1))) (mIx (mVar 0) (mC (.int 3))))))
def B_is_block : SM := (sSeq s_is_block_2 s_is_block_3)
def M_is_block : FM := fnM 2 B_is_block
theorem cal_is_block (h : Hy P K mg cs tg) (TB : ∀ p ∈ cs, TabB base mg p.1 p.2) : CalM P w K mg base (tbO cs tg) 5 "is_block" 1 M_is_block := by
  obtain ⟨f, fd, c, T, F⟩ := h.f_is_block
  refine mk_cal (k := 4) (N := N_is_block) F S_is_block TB (fun _ _ _ _ _ _ us hl => match us, hl with | [_], _ => rfl) fun A outer s H E D => ?_
  have S := S_is_block
  exact (b_cons (s_if (t_w (w_or (t_not (t_val (e_toR (e_isi (Ts := "tuple") (by decide) (by rfl) h.n_isinstance boot_isinstance (by rfl) h.n_tuple PyProof.Rows.boot_tuple (e_toR (e_var 0)))))) (w_or (t_cmp (opv_ne (u64_of D.hr)) (e_toR (e_callB (x := "len") cv_len (by rfl) h.n_len boot_len (a_consR (e_toR (e_var 0)) a_nil))) (e_toR e_int) rfl) (w_or1 (t_not (t_val (e_toR (e_allG (own := [("one", 1)]) boot_all D.mem D.cm (dp_of D.hr) rfl h.n_all D.tab D.cd (gn_ok (by kernel_rfl)) S.nd (i_seq (e_var 0)) (by exact fun _ _ _ _ _ => (g_name (i := 1) S.nd rfl (by first | exact Or.inl rfl | exact Or.inr rfl))) (by exact fun _ _ _ _ _ => ts_nil) (by exact fun _ _ _ _ _ => (e_call (cal_is_whole h TB) (D.hr.in1.in1.deeper _) (by decide) rfl takesN (a_consF (e_var 1) (a_consF (e_neg (e_toR (e_glo (x := "FAR_regions") (by rfl) h.c_FAR_regions))) (a_consF (e_glo (x := "FAR_regions") (by rfl) h.c_FAR_regions) a_nil))))))))))))) (b_one (s_ret e_bl)) b_nil)
  (b_one (s_ret (e_and (e_cmp (opv_lt (u64_of D.hr)) (e_toR (e_ix (e_toR (e_var 0)) (e_toR e_int) (fun _ _ => rfl))) (e_toR (e_ix (e_toR (e_var 0)) (e_toR e_int) (fun _ _ => rfl))) rfl) (e_one (e_cmp (opv_lt (u64_of D.hr)) (e_toR (e_ix (e_toR (e_var 0)) (e_toR e_int) (fun _ _ => rfl))) (e_toR (e_ix (e_toR (e_var 0)) (e_toR e_int) (fun _ _ => rfl))) rfl))))))
def N_check_blocks : List Str := ["row", "block"]
theorem S_check_blocks : FnScope N_check_blocks ["row"] (defScope (top 58)) := sc_ok (by kernel_rfl)
def s_check_blocks_1 : SM := (sRaise "BadRegion")
def s_check_blocks_2 : SM := (sIf (tNotM (tVal (mCall 1 M_is_block (aCons (mVar 1) aNil)))) s_check_blocks_1 sNil)
def s_check_blocks_3 : SM := (sFor (iSeq (mVar 0)) (gNm 1)
  s_check_blocks_2 [1])
def B_check_blocks : SM := s_check_blocks_3
def M_check_blocks : FM := fnM 2 B_check_blocks
theorem cal_check_blocks (h : Hy P K mg cs tg) (TB : ∀ p ∈ cs, TabB base mg p.1 p.2) : CalM P w K mg base (tbO cs tg) 6 "check_blocks" 1 M_check_blocks := by
  obtain ⟨f, fd, c, T, F⟩ := h.f_check_blocks
  refine mk_cal (k := 5) (N := N_check_blocks) F S_check_blocks TB (fun _ _ _ _ _ _ us hl => match us, hl with | [_], _ => rfl) fun A outer s H E D => ?_
  have S := S_check_blocks
  exact (b_one (s_for (passes_of rfl) D.cm (i_seq (e_var 0)) (g_name (i := 1) S.nd rfl (by first | exact Or.inl rfl | exact Or.inr rfl))
  (b_one (s_if (t_not (t_val (e_toR (e_call (cal_is_block h TB) D.hr (by decide) rfl D.tk (a_consF (e_var 1) a_nil))))) (b_one (s_raise h.r_BadRegion D.cm D.tk rfl)) b_nil)) [1]))
def N_lies_on : List Str := ["one", "other", "town", "low", "high"]
theorem S_lies_on : FnScope N_lies_on ["one", "other", "town"] (defScope (top 54)) := sc_ok (by kernel_rfl)
def s_lies_on_1 : SM := (sPar [3, 4] (vF (mCallB bMinD (aCons (mVar 0) (aCons (mVar 1) aNil))) (vF (mCallB bMaxD (aCons (mVar 0) (aCons (mVar 1) aNil))) vNil)))
def s_lies_on_2 : SM := (sRet (eAnd (eChain cLt cLt (mVar 3) (mVar 2) (mVar 4)) (mBin cEq (mCall 3 M_turn (aCons (mVar 3) (aCons (mVar 4) (aCons (mVar 2) aNil)))) (mC (.int 0)))))
def B_lies_on : SM := (sSeq s_lies_on_1 s_lies_on_2)
def M_lies_on : FM := fnM 5 B_lies_on
theorem cal_lies_on (h : Hy P K mg cs tg) (TB : ∀ p ∈ cs, TabB base mg p.1 p.2) : CalM P w K mg base (tbO cs tg) 3 "lies_on" 3 M_lies_on := by
  obtain ⟨f, fd, c, T, F⟩ := h.f_lies_on
  refine mk_cal (k := 2) (N := N_lies_on) F S_lies_on TB (fun _ _ _ _ _ _ us hl => match us, hl with | [_, _, _], _ => rfl) fun A outer s H E D => ?_
  have S := S_lies_on
  exact (b_cons (s_par2 (ps_par (i := 3) (j := 4) D.cm S.nd rfl rfl (by decide) rfl rfl (v_F (e_callB (x := "min") (cv_minD D.cm (u100_of D.hr)) (by rfl) h.n_min boot_min (a_consR (e_toR (e_var 0)) (a_consR (e_toR (e_var 1)) a_nil))) (v_F (e_callB (x := "max") (cv_maxD D.cm (u100_of D.hr)) (by rfl) h.n_max boot_max (a_consR (e_toR (e_var 0)) (a_consR (e_toR (e_var 1)) a_nil))) v_nil)) (by rfl)))
  (b_one (s_ret (e_and (e_chain (opv_lt (u64_of D.hr)) (opv_lt (u64_of D.hr)) (e_toR (e_var 3)) (e_toR (e_var 2)) (e_toR (e_var 4))) (e_one (e_cmp (opv_eq (u64_of D.hr)) (e_toR (e_call (cal_turn h TB) D.hr (by decide) rfl D.tk (a_consF (e_var 3) (a_consF (e_var 4) (a_consF (e_var 2) a_nil))))) (e_toR e_int) rfl))))))
def N_is_map : List Str := ["thing", "towns", "roads", "road", "k", "town", "one", "other"]
theorem S_is_map : FnScope N_is_map ["thing"] (defScope (top 51)) := sc_ok (by kernel_rfl)
def s_is_map_1 : SM := (sRet (mC (.bl false)))
def s_is_map_2 : SM := (sIf (tOrM (tNotM (tVal (mIsi "tuple" (mVar 0)))) (tBin cNe (mCallB bLen (aCons (mVar 0) aNil)) (mC (.int 2)))) s_is_map_1 sNil)
def s_is_map_3 : SM := (sAsg (gTp 2 (gConsM (gNm 1) (gConsM (gNm 2) gNilM))) (mVar 0))
def s_is_map_4 : SM := (sIf (tOrM (tNotM (tVal (mIsi "tuple" (mVar 1)))) (tOrM (tNotM (tVal (mIsi "tuple" (mVar 2)))) (tNotM (tVal (mAllG (iSeq (mVar 1)) (gNm 5) tYesM (mCall 1 M_is_point (aCons (mVar 5) aNil)) [5]))))) s_is_map_1 sNil)
def s_is_map_5 : SM := (sIf (tVal (mAnyG (iRng1M (aCons (mBin pSub (mCallB bLen (aCons (mVar 1) aNil)) (mC (.int 1))) aNil)) (gNm 4) tYesM (mBin cGe (mIx (mVar 1) (mVar 4)) (mIx (mVar 1) (mBin pAdd (mVar 4) (mC (.int 1))))) [4])) s_is_map_1 sNil)
def s_is_map_6 : SM := (sIf (tOrM (tNotM (tVal (mIsi "tuple" (mVar 3)))) (tOrM (tBin cNe (mCallB bLen (aCons (mVar 3) aNil)) (mC (.int 2))) (tNotM (tVal (mCall 3 M_is_whole (aCons (mIx (mVar 3) (mC (.int 0))) (aCons (mC (.int 0)) (aCons (mBin pSub (mCallB bLen (aCons (mVar 1) aNil)) (mC (.int 1))) aNil)))))))) s_is_map_1 sNil)
def s_is_map_7 : SM := (sIf (tNotM (tVal (mCall 3 M_is_whole (aCons (mIx (mVar 3) (mC (.int 1))) (aCons (mBin pAdd (mIx (mVar 3) (mC (.int 0))) (mC (.int 1))) (aCons (mBin pSub (mCallB bLen (aCons (mVar 1) aNil)) (mC (.int 1))) aNil)))))) s_is_map_1 sNil)
def s_is_map_8 : SM := (sIf (tVal (mAnyG (iSeq (mVar 1)) (gNm 5) tYesM (mCall 3 M_lies_on (aCons (mIx (mVar 1) (mIx (mVar 3) (mC (.int 0)))) (aCons (mIx (mVar 1) (mIx (mVar 3) (mC (.int 1)))) (aCons (mVar 5) aNil)))) [5])) s_is_map_1 sNil)
def s_is_map_9 : SM := (sFor (iSeq (mVar 2)) (gNm 3)
  (sSeq s_is_map_6 (sSeq s_is_map_7 s_is_map_8)) [3])
def s_is_map_10 : SM := (sIf (tVal (mAnyG (iRng1M (aCons (mBin pSub (mCallB bLen (aCons (mVar 2) aNil)) (mC (.int 1))) aNil)) (gNm 4) tYesM (mBin cGe (mIx (mVar 2) (mVar 4)) (mIx (mVar 2) (mBin pAdd (mVar 4) (mC (.int 1))))) [4])) s_is_map_1 sNil)
def B_is_map : SM := (sSeq s_is_map_2 (sSeq s_is_map_3 (sSeq s_is_map_4 (sSeq s_is_map_5 (sSeq s_is_map_9 (sSeq s_is_map_10 sBadM))))))
def M_is_map : FM := fnM 8 B_is_map
theorem cal_is_map (h : Hy P K mg cs tg) (TB : ∀ p ∈ cs, TabB base mg p.1 p.2) : CalM P w K mg base (tbO cs tg) 9 "is_map" 1 M_is_map := by
  obtain ⟨f, fd, c, T, F⟩ := h.f_is_map
  refine mk_cal (k := 8) (N := N_is_map) F S_is_map TB (fun _ _ _ _ _ _ us hl => match us, hl with | [_], _ => rfl) fun A outer s H E D => ?_
  have S := S_is_map
  exact (b_cons (s_if (t_w (w_or (t_not (t_val (e_toR (e_isi (Ts := "tuple") (by decide) (by rfl) h.n_isinstance boot_isinstance (by rfl) h.n_tuple PyProof.Rows.boot_tuple (e_toR (e_var 0)))))) (w_or1 (t_cmp (opv_ne (u64_of D.hr)) (e_toR (e_callB (x := "len") cv_len (by rfl) h.n_len boot_len (a_consR (e_toR (e_var 0)) a_nil))) (e_toR e_int) rfl)))) (b_one (s_ret e_bl)) b_nil)
  (b_cons (s_asg (e_var 0) (g_tup D.cm (gs_cons (g_name (i := 1) S.nd rfl (by first | exact Or.inl rfl | exact Or.inr rfl)) (gs_cons (g_name (i := 2) S.nd rfl (by first | exact Or.inl rfl | exact Or.inr rfl)) gs_nil))))
  (b_cons (s_if (t_w (w_or (t_not (t_val (e_toR (e_isi (Ts := "tuple") (by decide) (by rfl) h.n_isinstance boot_isinstance (by rfl) h.n_tuple PyProof.Rows.boot_tuple (e_toR (e_var 1)))))) (w_or (t_not (t_val (e_toR (e_isi (Ts := "tuple") (by decide) (by rfl) h.n_isinstance boot_isinstance (by rfl) h.n_tuple PyProof.Rows.boot_tuple (e_toR (e_var 2)))))) (w_or1 (t_not (t_val (e_toR (e_allG (own := [("town", 5)]) boot_all D.mem D.cm (dp_of D.hr) rfl h.n_all D.tab D.cd (gn_ok (by kernel_rfl)) S.nd (i_seq (e_var 1)) (by exact fun _ _ _ _ _ => (g_name (i := 5) S.nd rfl (by first | exact Or.inl rfl | exact Or.inr rfl))) (by exact fun _ _ _ _ _ => ts_nil) (by exact fun _ _ _ _ _ => (e_call (cal_is_point h TB) (D.hr.in1.in1.deeper _) (by decide) rfl takesN (a_consF (e_var 5) a_nil))))))))))) (b_one (s_ret e_bl)) b_nil)
  (b_cons (s_if (t_val (e_toR (e_anyG (own := [("k", 4)]) D.mem D.cm (dp_of D.hr) rfl h.n_any D.tab D.cd (gn_ok (by kernel_rfl)) S.nd (i_range1 rfl h.n_range (a_consR (e_toR (e_bin opv_sub (e_toR (e_callB (x := "len") cv_len (by rfl) h.n_len boot_len (a_consR (e_toR (e_var 1)) a_nil))) (e_toR e_int))) a_nil)) (by exact fun _ _ _ _ _ => (g_name (i := 4) S.nd rfl (by first | exact Or.inl rfl | exact Or.inr rfl))) (by exact fun _ _ _ _ _ => ts_nil) (by exact fun _ _ _ _ _ => (e_cmp (opv_ge (u64_of (D.hr.in1.in1.deeper _))) (e_toR (e_ix (e_toR (e_var 1)) (e_toR (e_var 4)) (fun _ _ => rfl))) (e_toR (e_ix (e_toR (e_var 1)) (e_toR (e_bin opv_add (e_toR (e_var 4)) (e_toR e_int))) (fun _ _ => rfl))) rfl))))) (b_one (s_ret e_bl)) b_nil)
  (b_cons (s_for (passes_of rfl) D.cm (i_seq (e_var 2)) (g_name (i := 3) S.nd rfl (by first | exact Or.inl rfl | exact Or.inr rfl))
  (b_cons (s_if (t_w (w_or (t_not (t_val (e_toR (e_isi (Ts := "tuple") (by decide) (by rfl) h.n_isinstance boot_isinstance (by rfl) h.n_tuple PyProof.Rows.boot_tuple (e_toR (e_var 3)))))) (w_or (t_cmp (opv_ne (u64_of D.hr)) (e_toR (e_callB (x := "len") cv_len (by rfl) h.n_len boot_len (a_consR (e_toR (e_var 3)) a_nil))) (e_toR e_int) rfl) (w_or1 (t_not (t_val (e_toR (e_call (cal_is_whole h TB) D.hr (by decide) rfl D.tk (a_consF (e_ix (e_toR (e_var 3)) (e_toR e_int) (fun _ _ => rfl)) (a_consF e_int (a_consF (e_bin opv_sub (e_toR (e_callB (x := "len") cv_len (by rfl) h.n_len boot_len (a_consR (e_toR (e_var 1)) a_nil))) (e_toR e_int)) a_nil))))))))))) (b_one (s_ret e_bl)) b_nil)
  (b_cons (s_if (t_not (t_val (e_toR (e_call (cal_is_whole h TB) D.hr (by decide) rfl D.tk (a_consF (e_ix (e_toR (e_var 3)) (e_toR e_int) (fun _ _ => rfl)) (a_consF (e_bin opv_add (e_toR (e_ix (e_toR (e_var 3)) (e_toR e_int) (fun _ _ => rfl))) (e_toR e_int)) (a_consF (e_bin opv_sub (e_toR (e_callB (x := "len") cv_len (by rfl) h.n_len boot_len (a_consR (e_toR (e_var 1)) a_nil))) (e_toR e_int)) a_nil))))))) (b_one (s_ret e_bl)) b_nil)
  (b_one (s_if (t_val (e_toR (e_anyG (own := [("town", 5)]) D.mem D.cm (dp_of D.hr) rfl h.n_any D.tab D.cd (gn_ok (by kernel_rfl)) S.nd (i_seq (e_var 1)) (by exact fun _ _ _ _ _ => (g_name (i := 5) S.nd rfl (by first | exact Or.inl rfl | exact Or.inr rfl))) (by exact fun _ _ _ _ _ => ts_nil) (by exact fun _ _ _ _ _ => (e_call (cal_lies_on h TB) (D.hr.in1.in1.deeper _) (by decide) rfl takesN (a_consF (e_ix (e_toR (e_var 1)) (e_toR (e_ix (e_toR (e_var 3)) (e_toR e_int) (fun _ _ => rfl))) (fun _ _ => rfl)) (a_consF (e_ix (e_toR (e_var 1)) (e_toR (e_ix (e_toR (e_var 3)) (e_toR e_int) (fun _ _ => rfl))) (fun _ _ => rfl)) (a_consF (e_var 5) a_nil)))))))) (b_one (s_ret e_bl)) b_nil)))) [3])
  (b_cons (s_if (t_val (e_toR (e_anyG (own := [("k", 4)]) D.mem D.cm (dp_of D.hr) rfl h.n_any D.tab D.cd (gn_ok (by kernel_rfl)) S.nd (i_range1 rfl h.n_range (a_consR (e_toR (e_bin opv_sub (e_toR (e_callB (x := "len") cv_len (by rfl) h.n_len boot_len (a_consR (e_toR (e_var 2)) a_nil))) (e_toR e_int))) a_nil)) (by exact fun _ _ _ _ _ => (g_name (i := 4) S.nd rfl (by first | exact Or.inl rfl | exact Or.inr rfl))) (by exact fun _ _ _ _ _ => ts_nil) (by exact fun _ _ _ _ _ => (e_cmp (opv_ge (u64_of (D.hr.in1.in1.deeper _))) (e_toR (e_ix (e_toR (e_var 2)) (e_toR (e_var 4)) (fun _ _ => rfl))) (e_toR (e_ix (e_toR (e_var 2)) (e_toR (e_bin opv_add (e_toR (e_var 4)) (e_toR e_int))) (fun _ _ => rfl))) rfl))))) (b_one (s_ret e_bl)) b_nil)
  b_bad))))))
def N_check_map : List Str := ["thing"]
theorem S_check_map : FnScope N_check_map ["thing"] (defScope (top 53)) := sc_ok (by kernel_rfl)
def s_check_map_1 : SM := (sRaise "BadMap")
def s_check_map_2 : SM := (sIf (tNotM (tVal (mCall 1 M_is_map (aCons (mVar 0) aNil)))) s_check_map_1 sNil)
def B_check_map : SM := s_check_map_2
def M_check_map : FM := fnM 1 B_check_map
theorem cal_check_map (h : Hy P K mg cs tg) (TB : ∀ p ∈ cs, TabB base mg p.1 p.2) : CalM P w K mg base (tbO cs tg) 10 "check_map" 1 M_check_map := by
  obtain ⟨f, fd, c, T, F⟩ := h.f_check_map
  refine mk_cal (k := 9) (N := N_check_map) F S_check_map TB (fun _ _ _ _ _ _ us hl => match us, hl with | [_], _ => rfl) fun A outer s H E D => ?_
  have S := S_check_map
  exact (b_one (s_if (t_not (t_val (e_toR (e_call (cal_is_map h TB) D.hr (by decide) rfl D.tk (a_consF (e_var 0) a_nil))))) (b_one (s_raise h.r_BadMap D.cm D.tk rfl)) b_nil))
def N_is_number : List Str := ["text", "bare", "sign"]
theorem S_is_number : FnScope N_is_number ["text"] (defScope (top 41)) := sc_ok (by kernel_rfl)
def s_is_number_1 : SM := (sSet 1 (eIf (tBin cEq (mSliceX (mVar 0) pN (pS (mC (.int 1)))) (mC (.str (Str.ofString "-")))) (mSliceX (mVar 0) (pS (mC (.int 1))) pN) (mVar 0)))
def s_is_number_2 : SM := (sRet (mC (.bl false)))
def s_is_number_3 : SM := (sIf (tOrM (tNotM (tChain2 cLe cLe (mC (.int 1)) (mCallB bLen (aCons (mVar 1) aNil)) (mC (.int 5)))) (tNotM (tVal (mAllG (iSeqS (mVar 1)) (gNm 2) tYesM (mBin cInX (mVar 2) (mC (.str (Str.ofString "0123456789")))) [2])))) s_is_number_2 sNil)
def s_is_number_4 : SM := (sRet (eAnd (eOr (mBin cNe (mIx (mVar 1) (mC (.int 0))) (mC (.str (Str.ofString "0")))) (mBin cEq (mVar 1) (mC (.str (Str.ofString "0"))))) (mBin cNe (mVar 0) (mC (.str (Str.ofString "-0"))))))
def B_is_number : SM := (sSeq s_is_number_1 (sSeq s_is_number_3 s_is_number_4))
def M_is_number : FM := fnM 3 B_is_number
theorem cal_is_number (h : Hy P K mg cs tg) (TB : ∀ p ∈ cs, TabB base mg p.1 p.2) : CalM P w K mg base (tbO cs tg) 4 "is_number" 1 M_is_number := by
  obtain ⟨f, fd, c, T, F⟩ := h.f_is_number
  refine mk_cal (k := 3) (N := N_is_number) F S_is_number TB (fun _ _ _ _ _ _ us hl => match us, hl with | [_], _ => rfl) fun A outer s H E D => ?_
  have S := S_is_number
  exact (b_cons (s_set (i := 1) S.nd rfl (by first | exact Or.inl rfl | exact Or.inr rfl) (e_if (t_cmp (opv_eq (u64_of D.hr)) (e_toR (e_sliceX (e_toR (e_var 0)) p_none (p_some (e_toR e_int)))) (e_toR e_str) rfl) (e_sliceX (e_toR (e_var 0)) (p_some (e_toR e_int)) p_none) (e_var 0)))
  (b_cons (s_if (t_w (w_or (t_not (t_chain (opv_le (u64_of D.hr)) (opv_le (u64_of D.hr)) (e_toR e_int) (e_toR (e_callB (x := "len") cv_len (by rfl) h.n_len boot_len (a_consR (e_toR (e_var 1)) a_nil))) (e_toR e_int))) (w_or1 (t_not (t_val (e_toR (e_allG (own := [("sign", 2)]) boot_all D.mem D.cm (dp_of D.hr) rfl h.n_all D.tab D.cd (gn_ok (by kernel_rfl)) S.nd (i_seqS (e_toR (e_var 1))) (by exact fun _ _ _ _ _ => (g_name (i := 2) S.nd rfl (by first | exact Or.inl rfl | exact Or.inr rfl))) (by exact fun _ _ _ _ _ => ts_nil) (by exact fun _ _ _ _ _ => (e_cmp (opv_inX (u65_of (D.hr.in1.in1.deeper _))) (e_toR (e_var 2)) (e_toR (e_glo (x := "FIGURES") (by rfl) h.c_FIGURES)) rfl))))))))) (b_one (s_ret e_bl)) b_nil)
  (b_one (s_ret (e_and (e_or (e_cmp (opv_ne (u64_of D.hr)) (e_toR (e_ix (e_toR (e_var 1)) (e_toR e_int) (fun _ _ => rfl))) (e_toR e_str) rfl) (e_one (e_cmp (opv_eq (u64_of D.hr)) (e_toR (e_var 1)) (e_toR e_str) rfl))) (e_one (e_cmp (opv_ne (u64_of D.hr)) (e_toR (e_var 0)) (e_toR e_str) rfl)))))))
def N_is_name : List Str := ["thing", "sign"]
theorem S_is_name : FnScope N_is_name ["thing"] (defScope (top 36)) := sc_ok (by kernel_rfl)
def s_is_name_1 : SM := (sRet (eAnd (mIsi "str" (mVar 0)) (eAnd (eChain cLe cLe (mC (.int 1)) (mCallB bLen (aCons (mVar 0) aNil)) (mC (.int 20))) (mAllG (iSeqS (mVar 0)) (gNm 1) tYesM (mBin cInX (mVar 1) (mC (.str (Str.ofString "abcdefghijklmnopqrstuvwxyz")))) [1]))))
def B_is_name : SM := s_is_name_1
def M_is_name : FM := fnM 2 B_is_name
theorem cal_is_name (h : Hy P K mg cs tg) (TB : ∀ p ∈ cs, TabB base mg p.1 p.2) : CalM P w K mg base (tbO cs tg) 4 "is_name" 1 M_is_name := by
  obtain ⟨f, fd, c, T, F⟩ := h.f_is_name
  refine mk_cal (k := 3) (N := N_is_name) F S_is_name TB (fun _ _ _ _ _ _ us hl => match us, hl with | [_], _ => rfl) fun A outer s H E D => ?_
  have S := S_is_name
  exact (b_one (s_ret (e_and (e_isi (Ts := "str") (by decide) (by rfl) h.n_isinstance boot_isinstance (by rfl) h.n_str PyProof.Rows.boot_str (e_toR (e_var 0))) (e_and (e_chain (opv_le (u64_of D.hr)) (opv_le (u64_of D.hr)) (e_toR e_int) (e_toR (e_callB (x := "len") cv_len (by rfl) h.n_len boot_len (a_consR (e_toR (e_var 0)) a_nil))) (e_toR e_int)) (e_one (e_allG (own := [("sign", 1)]) boot_all D.mem D.cm (dp_of D.hr) rfl h.n_all D.tab D.cd (gn_ok (by kernel_rfl)) S.nd (i_seqS (e_toR (e_var 0))) (by exact fun _ _ _ _ _ => (g_name (i := 1) S.nd rfl (by first | exact Or.inl rfl | exact Or.inr rfl))) (by exact fun _ _ _ _ _ => ts_nil) (by exact fun _ _ _ _ _ => (e_cmp (opv_inX (u65_of (D.hr.in1.in1.deeper _))) (e_toR (e_var 1)) (e_toR (e_glo (x := "SMALL") (by rfl) h.c_SMALL)) rfl))))))))
def N_is_thing : List Str := ["thing", "point", "k"]
theorem S_is_thing : FnScope N_is_thing ["thing"] (defScope (top 37)) := sc_ok (by kernel_rfl)
def s_is_thing_1 : SM := (sRet (mC (.bl false)))
def s_is_thing_2 : SM := (sIf (tOrM (tNotM (tVal (mIsi "tuple" (mVar 0)))) (tOrM (tBin cNe (mCallB bLen (aCons (mVar 0) aNil)) (mC (.int 3))) (tOrM (tNotM (tVal (mCall 1 M_is_name (aCons (mIx (mVar 0) (mC (.int 1))) aNil)))) (tNotM (tVal (mIsi "tuple" (mIx (mVar 0) (mC (.int 2))))))))) s_is_thing_1 sNil)
def s_is_thing_3 : SM := (sIf (tNotM (tVal (mAllG (iSeq (mIx (mVar 0) (mC (.int 2)))) (gNm 1) tYesM (mCall 1 M_is_point (aCons (mVar 1) aNil)) [1]))) s_is_thing_1 sNil)
def s_is_thing_4 : SM := (sRet (mBin cEq (mCallB bLen (aCons (mIx (mVar 0) (mC (.int 2))) aNil)) (mC (.int 1))))
def s_is_thing_5 : SM := (sIf (tBin cEq (mIx (mVar 0) (mC (.int 0))) (mC (.str (Str.ofString "POINT")))) s_is_thing_4 sNil)
def s_is_thing_6 : SM := (sRet (eAnd (mBin cGe (mCallB bLen (aCons (mIx (mVar 0) (mC (.int 2))) aNil)) (mC (.int 2))) (mAllG (iRng1M (aCons (mBin pSub (mCallB bLen (aCons (mIx (mVar 0) (mC (.int 2))) aNil)) (mC (.int 1))) aNil)) (gNm 2) tYesM (mBin cNe (mIx (mIx (mVar 0) (mC (.int 2))) (mVar 2)) (mIx (mIx (mVar 0) (mC (.int 2))) (mBin pAdd (mVar 2) (mC (.int 1))))) [2])))
def s_is_thing_7 : SM := (sIf (tBin cEq (mIx (mVar 0) (mC (.int 0))) (mC (.str (Str.ofString "LINE")))) s_is_thing_6 sNil)
def s_is_thing_8 : SM := (sRet (eAnd (mBin cEq (mIx (mVar 0) (mC (.int 0))) (mC (.str (Str.ofString "SHAPE")))) (mCall 1 M_is_shape (aCons (mIx (mVar 0) (mC (.int 2))) aNil))))
def B_is_thing : SM := (sSeq s_is_thing_2 (sSeq s_is_thing_3 (sSeq s_is_thing_5 (sSeq s_is_thing_7 s_is_thing_8))))
def M_is_thing : FM := fnM 3 B_is_thing
theorem cal_is_thing (h : Hy P K mg cs tg) (TB : ∀ p ∈ cs, TabB base mg p.1 p.2) : CalM P w K mg base (tbO cs tg) 10 "is_thing" 1 M_is_thing := by
  obtain ⟨f, fd, c, T, F⟩ := h.f_is_thing
  refine mk_cal (k := 9) (N := N_is_thing) F S_is_thing TB (fun _ _ _ _ _ _ us hl => match us, hl with | [_], _ => rfl) fun A outer s H E D => ?_
  have S := S_is_thing
  exact (b_cons (s_if (t_w (w_or (t_not (t_val (e_toR (e_isi (Ts := "tuple") (by decide) (by rfl) h.n_isinstance boot_isinstance (by rfl) h.n_tuple PyProof.Rows.boot_tuple (e_toR (e_var 0)))))) (w_or (t_cmp (opv_ne (u64_of D.hr)) (e_toR (e_callB (x := "len") cv_len (by rfl) h.n_len boot_len (a_consR (e_toR (e_var 0)) a_nil))) (e_toR e_int) rfl) (w_or (t_not (t_val (e_toR (e_call (cal_is_name h TB) D.hr (by decide) rfl D.tk (a_consF (e_ix (e_toR (e_var 0)) (e_toR e_int) (fun _ _ => rfl)) a_nil))))) (w_or1 (t_not (t_val (e_toR (e_isi (Ts := "tuple") (by decide) (by rfl) h.n_isinstance boot_isinstance (by rfl) h.n_tuple PyProof.Rows.boot_tuple (e_toR (e_ix (e_toR (e_var 0)) (e_toR e_int) (fun _ _ => rfl)))))))))))) (b_one (s_ret e_bl)) b_nil)
  (b_cons (s_if (t_not (t_val (e_toR (e_allG (own := [("point", 1)]) boot_all D.mem D.cm (dp_of D.hr) rfl h.n_all D.tab D.cd (gn_ok (by kernel_rfl)) S.nd (i_seq (e_ix (e_toR (e_var 0)) (e_toR e_int) (fun _ _ => rfl))) (by exact fun _ _ _ _ _ => (g_name (i := 1) S.nd rfl (by first | exact Or.inl rfl | exact Or.inr rfl))) (by exact fun _ _ _ _ _ => ts_nil) (by exact fun _ _ _ _ _ => (e_call (cal_is_point h TB) (D.hr.in1.in1.deeper _) (by decide) rfl takesN (a_consF (e_var 1) a_nil))))))) (b_one (s_ret e_bl)) b_nil)
  (b_cons (s_if (t_cmp (opv_eq (u64_of D.hr)) (e_toR (e_ix (e_toR (e_var 0)) (e_toR e_int) (fun _ _ => rfl))) (e_toR e_str) rfl) (b_one (s_ret (e_cmp (opv_eq (u64_of D.hr)) (e_toR (e_callB (x := "len") cv_len (by rfl) h.n_len boot_len (a_consR (e_toR (e_ix (e_toR (e_var 0)) (e_toR e_int) (fun _ _ => rfl))) a_nil))) (e_toR e_int) rfl))) b_nil)
  (b_cons (s_if (t_cmp (opv_eq (u64_of D.hr)) (e_toR (e_ix (e_toR (e_var 0)) (e_toR e_int) (fun _ _ => rfl))) (e_toR e_str) rfl) (b_one (s_ret (e_and (e_cmp (opv_ge (u64_of D.hr)) (e_toR (e_callB (x := "len") cv_len (by rfl) h.n_len boot_len (a_consR (e_toR (e_ix (e_toR (e_var 0)) (e_toR e_int) (fun _ _ => rfl))) a_nil))) (e_toR e_int) rfl) (e_one (e_allG (own := [("k", 2)]) boot_all D.mem D.cm (dp_of D.hr) rfl h.n_all D.tab D.cd (gn_ok (by kernel_rfl)) S.nd (i_range1 rfl h.n_range (a_consR (e_toR (e_bin opv_sub (e_toR (e_callB (x := "len") cv_len (by rfl) h.n_len boot_len (a_consR (e_toR (e_ix (e_toR (e_var 0)) (e_toR e_int) (fun _ _ => rfl))) a_nil))) (e_toR e_int))) a_nil)) (by exact fun _ _ _ _ _ => (g_name (i := 2) S.nd rfl (by first | exact Or.inl rfl | exact Or.inr rfl))) (by exact fun _ _ _ _ _ => ts_nil) (by exact fun _ _ _ _ _ => (e_cmp (opv_ne (u64_of (D.hr.in1.in1.deeper _))) (e_toR (e_ix (e_toR (e_ix (e_toR (e_var 0)) (e_toR e_int) (fun _ _ => rfl))) (e_toR (e_var 2)) (fun _ _ => rfl))) (e_toR (e_ix (e_toR (e_ix (e_toR (e_var 0)) (e_toR e_int) (fun _ _ => rfl))) (e_toR (e_bin opv_add (e_toR (e_var 2)) (e_toR e_int))) (fun _ _ => rfl))) rfl))))))) b_nil)
  (b_one (s_ret (e_and (e_cmp (opv_eq (u64_of D.hr)) (e_toR (e_ix (e_toR (e_var 0)) (e_toR e_int) (fun _ _ => rfl))) (e_toR e_str) rfl) (e_one (e_call (cal_is_shape h TB) D.hr (by decide) rfl D.tk (a_consF (e_ix (e_toR (e_var 0)) (e_toR e_int) (fun _ _ => rfl)) a_nil))))))))))
def N_thing_of : List Str := ["line", "number", "kind", "blank", "rest", "name", "points", "pair", "x", "y", "found"]
theorem S_thing_of : FnScope N_thing_of ["line", "number"] (defScope (top 40)) := sc_ok (by kernel_rfl)
def s_thing_of_1 : SM := (sAsg (gTp 3 (gConsM (gNm 2) (gConsM (gNm 3) (gConsM (gNm 4) gNilM)))) (mPart (mVar 0) (mC (.str (Str.ofString " ")))))
def s_thing_of_2 : SM := (sAsg (gTp 3 (gConsM (gNm 5) (gConsM (gNm 3) (gConsM (gNm 4) gNilM)))) (mPart (mVar 4) (mC (.str (Str.ofString " ")))))
def s_thing_of_3 : SM := (sRaiseN "BadText" "line" (mVar 1))
def s_thing_of_4 : SM := (sIf (tOrM (tBin cNe (mSliceX (mVar 4) pN (pS (mC (.int 1)))) (mC (.str (Str.ofString "(")))) (tOrM (tBin cNe (mSliceX (mVar 4) (pS (mUn pNeg (mC (.int 1)))) pN) (mC (.str (Str.ofString ")")))) (tBin cLt (mCallB bLen (aCons (mVar 4) aNil)) (mC (.int 2))))) s_thing_of_3 sNil)
def s_thing_of_5 : SM := (sSetO 6 (mLst aNil))
def s_thing_of_6 : SM := (sAsg (gTp 3 (gConsM (gNm 8) (gConsM (gNm 3) (gConsM (gNm 9) gNilM)))) (mPart (mVar 7) (mC (.str (Str.ofString " ")))))
def s_thing_of_7 : SM := (sIf (tOrM (tNotM (tVal (mCall 1 M_is_number (aCons (mVar 8) aNil)))) (tNotM (tVal (mCall 1 M_is_number (aCons (mVar 9) aNil))))) s_thing_of_3 sNil)
def s_thing_of_8 : SM := (sAppend 6 (mTup (aCons (mCallB bIntS (aCons (mVar 8) aNil)) (aCons (mCallB bIntS (aCons (mVar 9) aNil)) aNil))))
def s_thing_of_9 : SM := (sFor (iSeq (mSplit (mSliceX (mVar 4) (pS (mC (.int 1))) (pS (mUn pNeg (mC (.int 1))))) (mC (.str (Str.ofString ", "))))) (gNm 7)
  (sSeq s_thing_of_6 (sSeq s_thing_of_7 s_thing_of_8)) [3, 7, 8, 9])
def s_thing_of_10 : SM := (sSet 10 (mTup (aCons (mVar 2) (aCons (mVar 5) (aCons (mCallB bTuple (aCons (mOwn 6) aNil)) aNil)))))
def s_thing_of_11 : SM := (sIf (tNotM (tVal (mCall 1 M_is_thing (aCons (mVar 10) aNil)))) s_thing_of_3 sNil)
def s_thing_of_12 : SM := (sRet (mVar 10))
def B_thing_of : SM := (sSeq s_thing_of_1 (sSeq s_thing_of_2 (sSeq s_thing_of_4 (sSeq s_thing_of_5 (sSeq s_thing_of_9 (sSeq s_thing_of_10 (sSeq s_thing_of_11 s_thing_of_12)))))))
def M_thing_of : FM := fnM 11 B_thing_of
theorem cal_thing_of (h : Hy P K mg cs tg) (TB : ∀ p ∈ cs, TabB base mg p.1 p.2) : CalM P w K mg base (tbO cs tg) 11 "thing_of" 2 M_thing_of := by
  obtain ⟨f, fd, c, T, F⟩ := h.f_thing_of
  refine mk_cal (k := 10) (N := N_thing_of) F S_thing_of TB (fun _ _ _ _ _ _ us hl => match us, hl with | [_, _], _ => rfl) fun A outer s H E D => ?_
  have S := S_thing_of
  exact (b_cons (s_asg (e_part (e_toR (e_var 0)) (e_toR e_str)) (g_tup D.cm (gs_cons (g_name (i := 2) S.nd rfl (by first | exact Or.inl rfl | exact Or.inr rfl)) (gs_cons (g_name (i := 3) S.nd rfl (by first | exact Or.inl rfl | exact Or.inr rfl)) (gs_cons (g_name (i := 4) S.nd rfl (by first | exact Or.inl rfl | exact Or.inr rfl)) gs_nil)))))
  (b_cons (s_asg (e_part (e_toR (e_var 4)) (e_toR e_str)) (g_tup D.cm (gs_cons (g_name (i := 5) S.nd rfl (by first | exact Or.inl rfl | exact Or.inr rfl)) (gs_cons (g_name (i := 3) S.nd rfl (by first | exact Or.inl rfl | exact Or.inr rfl)) (gs_cons (g_name (i := 4) S.nd rfl (by first | exact Or.inl rfl | exact Or.inr rfl)) gs_nil)))))
  (b_cons (s_if (t_w (w_or (t_cmp (opv_ne (u64_of D.hr)) (e_toR (e_sliceX (e_toR (e_var 4)) p_none (p_some (e_toR e_int)))) (e_toR e_str) rfl) (w_or (t_cmp (opv_ne (u64_of D.hr)) (e_toR (e_sliceX (e_toR (e_var 4)) (p_some (e_toR (e_neg (e_toR e_int)))) p_none)) (e_toR e_str) rfl) (w_or1 (t_cmp (opv_lt (u64_of D.hr)) (e_toR (e_callB (x := "len") cv_len (by rfl) h.n_len boot_len (a_consR (e_toR (e_var 4)) a_nil))) (e_toR e_int) rfl))))) (b_one (s_raiseN h.p_BadText (D.hr.mono (by decide)) D.cm D.tk rfl (e_var 1))) b_nil)
  (b_cons (s_setO (i := 6) S.nd rfl (by first | exact Or.inl rfl | exact Or.inr rfl) (e_lst a_nil))
  (b_cons (s_for (passes_of rfl) D.cm (i_seq (e_toF (e_split (e_toR (e_sliceX (e_toR (e_var 4)) (p_some (e_toR e_int)) (p_some (e_toR (e_neg (e_toR e_int)))))) (e_toR e_str)))) (g_name (i := 7) S.nd rfl (by first | exact Or.inl rfl | exact Or.inr rfl))
  (b_cons (s_asg (e_part (e_toR (e_var 7)) (e_toR e_str)) (g_tup D.cm (gs_cons (g_name (i := 8) S.nd rfl (by first | exact Or.inl rfl | exact Or.inr rfl)) (gs_cons (g_name (i := 3) S.nd rfl (by first | exact Or.inl rfl | exact Or.inr rfl)) (gs_cons (g_name (i := 9) S.nd rfl (by first | exact Or.inl rfl | exact Or.inr rfl)) gs_nil)))))
  (b_cons (s_if (t_w (w_or (t_not (t_val (e_toR (e_call (cal_is_number h TB) D.hr (by decide) rfl D.tk (a_consF (e_var 8) a_nil))))) (w_or1 (t_not (t_val (e_toR (e_call (cal_is_number h TB) D.hr (by decide) rfl D.tk (a_consF (e_var 9) a_nil)))))))) (b_one (s_raiseN h.p_BadText (D.hr.mono (by decide)) D.cm D.tk rfl (e_var 1))) b_nil)
  (b_one (s_append (ps_expr (pe_bm PySem.F.plainAttrs_list PySem.F.slot_list_append PySem.F.type_list_append mt_append (pv 6) (pa_cons (e_tup (a_consF (e_callT (x := "int") cv_intS (by rfl) h.n_int boot_int (a_consR (e_toR (e_var 8)) a_nil)) (a_consF (e_callT (x := "int") cv_intS (by rfl) h.n_int boot_int (a_consR (e_toR (e_var 9)) a_nil)) a_nil))) pa_nil))))))) [3, 7, 8, 9])
  (b_cons (s_set (i := 10) S.nd rfl (by first | exact Or.inl rfl | exact Or.inr rfl) (e_tup (a_consF (e_var 2) (a_consF (e_var 5) (a_consF (e_callT (x := "tuple") cv_tuple (by rfl) h.n_tuple boot_tuple (a_consR (e_own 6) a_nil)) a_nil)))))
  (b_cons (s_if (t_not (t_val (e_toR (e_call (cal_is_thing h TB) D.hr (by decide) rfl D.tk (a_consF (e_var 10) a_nil))))) (b_one (s_raiseN h.p_BadText (D.hr.mono (by decide)) D.cm D.tk rfl (e_var 1))) b_nil)
  (b_one (s_ret (e_var 10))))))))))
def N_read : List Str := ["text", "k", "line"]
theorem S_read : FnScope N_read ["text"] (defScope (top 39)) := sc_ok (by kernel_rfl)
def s_read_1 : SM := (sRaiseN "BadText" "line" (mC (.int 1)))
def s_read_2 : SM := (sIf (tOrM (tNotM (tVal (mIsi "str" (mVar 0)))) (tAndM (tBin cNe (mVar 0) (mC (.str (Str.ofString "")))) (tBin cNe (mIx (mVar 0) (mUn pNeg (mC (.int 1)))) (mC (.str (Str.ofString "\n")))))) s_read_1 sNil)
def s_read_3 : SM := (sRet (mCallB bTuple (aCons (mCompX (iEnumM (aCons (mSlice (mSplit (mVar 0) (mC (.str (Str.ofString "\n")))) pN (pS (mUn pNeg (mC (.int 1))))) aNil)) (gTp 2 (gConsM (gNm 1) (gConsM (gNm 2) gNilM))) tYesM (mCall 2 M_thing_of (aCons (mVar 2) (aCons (mBin pAdd (mVar 1) (mC (.int 1))) aNil))) [1, 2]) aNil)))
def B_read : SM := (sSeq s_read_2 s_read_3)
def M_read : FM := fnM 3 B_read
theorem cal_read (h : Hy P K mg cs tg) (TB : ∀ p ∈ cs, TabB base mg p.1 p.2) : CalM P w K mg base (tbO cs tg) 12 "read" 1 M_read := by
  obtain ⟨f, fd, c, T, F⟩ := h.f_read
  refine mk_cal (k := 11) (N := N_read) F S_read TB (fun _ _ _ _ _ _ us hl => match us, hl with | [_], _ => rfl) fun A outer s H E D => ?_
  have S := S_read
  exact (b_cons (s_if (t_w (w_or (t_not (t_val (e_toR (e_isi (Ts := "str") (by decide) (by rfl) h.n_isinstance boot_isinstance (by rfl) h.n_str PyProof.Rows.boot_str (e_toR (e_var 0)))))) (w_or1 (t_w (w_and (t_cmp (opv_ne (u64_of D.hr)) (e_toR (e_var 0)) (e_toR e_str) rfl) (w_and1 (t_cmp (opv_ne (u64_of D.hr)) (e_toR (e_ix (e_toR (e_var 0)) (e_toR (e_neg (e_toR e_int))) (fun _ _ => rfl))) (e_toR e_str) rfl))))))) (b_one (s_raiseN h.p_BadText (D.hr.mono (by decide)) D.cm D.tk rfl e_int)) b_nil)
  (b_one (s_ret (e_callT (x := "tuple") cv_tuple (by rfl) h.n_tuple boot_tuple (a_consR (e_toR (e_toF (e_lcX (own := [("k", 1), ("line", 2)]) D.cm S.nd (i_enum rfl h.n_enumerate (a_consF (e_slice (e_toR (e_toF (e_split (e_toR (e_var 0)) (e_toR e_str)))) p_none (p_some (e_toR (e_neg (e_toR e_int))))) a_nil)) (blk_ok (by kernel_rfl)) (by exact fun _ _ _ _ _ => (g_tup D.cm (gs_cons (g_name (i := 1) S.nd rfl (by first | exact Or.inl rfl | exact Or.inr rfl)) (gs_cons (g_name (i := 2) S.nd rfl (by first | exact Or.inl rfl | exact Or.inr rfl)) gs_nil)))) (by exact fun _ _ _ _ _ => ts_nil) rfl rfl D.tk (by exact fun _ _ _ _ _ _ _ tkx => (e_call (cal_thing_of h TB) D.hr (by decide) rfl tkx (a_consF (e_var 2) (a_consF (e_bin opv_add (e_toR (e_var 1)) (e_toR e_int)) a_nil))))))) a_nil)))))
def N_on_it : List Str := ["corners", "point", "low", "high"]
theorem S_on_it : FnScope N_on_it ["corners", "point"] (defScope (top 49)) := sc_ok (by kernel_rfl)
def s_on_it_1 : SM := (sPar [2, 3] (vF (mCallB bMinD (aCons (mVar 0) aNil)) (vF (mCallB bMaxD (aCons (mVar 0) aNil)) vNil)))
def s_on_it_2 : SM := (sRet (mC (.bl false)))
def s_on_it_3 : SM := (sIf (tOrM (tBin cNe (mCall 3 M_turn (aCons (mVar 2) (aCons (mVar 3) (aCons (mVar 1) aNil)))) (mC (.int 0))) (tNotM (tChain2 cLe cLe (mIx (mVar 2) (mC (.int 0))) (mIx (mVar 1) (mC (.int 0))) (mIx (mVar 3) (mC (.int 0)))))) s_on_it_2 sNil)
def s_on_it_4 : SM := (sRet (eChain cLe cLe (mCallB bMinD (aCons (mIx (mVar 2) (mC (.int 1))) (aCons (mIx (mVar 3) (mC (.int 1))) aNil))) (mIx (mVar 1) (mC (.int 1))) (mCallB bMaxD (aCons (mIx (mVar 2) (mC (.int 1))) (aCons (mIx (mVar 3) (mC (.int 1))) aNil)))))
def B_on_it : SM := (sSeq s_on_it_1 (sSeq s_on_it_3 s_on_it_4))
def M_on_it : FM := fnM 4 B_on_it
theorem cal_on_it (h : Hy P K mg cs tg) (TB : ∀ p ∈ cs, TabB base mg p.1 p.2) : CalM P w K mg base (tbO cs tg) 3 "on_it" 2 M_on_it := by
  obtain ⟨f, fd, c, T, F⟩ := h.f_on_it
  refine mk_cal (k := 2) (N := N_on_it) F S_on_it TB (fun _ _ _ _ _ _ us hl => match us, hl with | [_, _], _ => rfl) fun A outer s H E D => ?_
  have S := S_on_it
  exact (b_cons (s_par2 (ps_par (i := 2) (j := 3) D.cm S.nd rfl rfl (by decide) rfl rfl (v_F (e_callB (x := "min") (cv_minD D.cm (u100_of D.hr)) (by rfl) h.n_min boot_min (a_consR (e_toR (e_var 0)) a_nil)) (v_F (e_callB (x := "max") (cv_maxD D.cm (u100_of D.hr)) (by rfl) h.n_max boot_max (a_consR (e_toR (e_var 0)) a_nil)) v_nil)) (by rfl)))
  (b_cons (s_if (t_w (w_or (t_cmp (opv_ne (u64_of D.hr)) (e_toR (e_call (cal_turn h TB) D.hr (by decide) rfl D.tk (a_consF (e_var 2) (a_consF (e_var 3) (a_consF (e_var 1) a_nil))))) (e_toR e_int) rfl) (w_or1 (t_not (t_chain (opv_le (u64_of D.hr)) (opv_le (u64_of D.hr)) (e_toR (e_ix (e_toR (e_var 2)) (e_toR e_int) (fun _ _ => rfl))) (e_toR (e_ix (e_toR (e_var 1)) (e_toR e_int) (fun _ _ => rfl))) (e_toR (e_ix (e_toR (e_var 3)) (e_toR e_int) (fun _ _ => rfl)))))))) (b_one (s_ret e_bl)) b_nil)
  (b_one (s_ret (e_chain (opv_le (u64_of D.hr)) (opv_le (u64_of D.hr)) (e_toR (e_callB (x := "min") (cv_minD D.cm (u100_of D.hr)) (by rfl) h.n_min boot_min (a_consR (e_toR (e_ix (e_toR (e_var 2)) (e_toR e_int) (fun _ _ => rfl))) (a_consR (e_toR (e_ix (e_toR (e_var 3)) (e_toR e_int) (fun _ _ => rfl))) a_nil)))) (e_toR (e_ix (e_toR (e_var 1)) (e_toR e_int) (fun _ _ => rfl))) (e_toR (e_callB (x := "max") (cv_maxD D.cm (u100_of D.hr)) (by rfl) h.n_max boot_max (a_consR (e_toR (e_ix (e_toR (e_var 2)) (e_toR e_int) (fun _ _ => rfl))) (a_consR (e_toR (e_ix (e_toR (e_var 3)) (e_toR e_int) (fun _ _ => rfl))) a_nil)))))))))
def N_is_in : List Str := ["corners", "point", "k"]
theorem S_is_in : FnScope N_is_in ["corners", "point"] (defScope (top 48)) := sc_ok (by kernel_rfl)
def s_is_in_1 : SM := (sRet (eOr (mBin cIn (mVar 1) (mVar 0)) (eAnd (mBin cEq (mCallB bLen (aCons (mVar 0) aNil)) (mC (.int 2))) (mCall 2 M_on_it (aCons (mVar 0) (aCons (mVar 1) aNil))))))
def s_is_in_2 : SM := (sIf (tBin cLe (mCallB bLen (aCons (mVar 0) aNil)) (mC (.int 2))) s_is_in_1 sNil)
def s_is_in_3 : SM := (sRet (mAllG (iRng1M (aCons (mCallB bLen (aCons (mVar 0) aNil)) aNil)) (gNm 2) tYesM (mBin cGe (mCall 3 M_turn (aCons (mIx (mVar 0) (mBin pSub (mVar 2) (mC (.int 1)))) (aCons (mIx (mVar 0) (mVar 2)) (aCons (mVar 1) aNil)))) (mC (.int 0))) [2]))
def B_is_in : SM := (sSeq s_is_in_2 s_is_in_3)
def M_is_in : FM := fnM 3 B_is_in
theorem cal_is_in (h : Hy P K mg cs tg) (TB : ∀ p ∈ cs, TabB base mg p.1 p.2) : CalM P w K mg base (tbO cs tg) 6 "is_in" 2 M_is_in := by
  obtain ⟨f, fd, c, T, F⟩ := h.f_is_in
  refine mk_cal (k := 5) (N := N_is_in) F S_is_in TB (fun _ _ _ _ _ _ us hl => match us, hl with | [_, _], _ => rfl) fun A outer s H E D => ?_
  have S := S_is_in
  exact (b_cons (s_if (t_cmp (opv_le (u64_of D.hr)) (e_toR (e_callB (x := "len") cv_len (by rfl) h.n_len boot_len (a_consR (e_toR (e_var 0)) a_nil))) (e_toR e_int) rfl) (b_one (s_ret (e_or (e_cmp (opv_in (u65_of D.hr)) (e_toR (e_var 1)) (e_toR (e_var 0)) rfl) (e_one (e_and (e_cmp (opv_eq (u64_of D.hr)) (e_toR (e_callB (x := "len") cv_len (by rfl) h.n_len boot_len (a_consR (e_toR (e_var 0)) a_nil))) (e_toR e_int) rfl) (e_one (e_call (cal_on_it h TB) D.hr (by decide) rfl D.tk (a_consF (e_var 0) (a_consF (e_var 1) a_nil))))))))) b_nil)
  (b_one (s_ret (e_allG (own := [("k", 2)]) boot_all D.mem D.cm (dp_of D.hr) rfl h.n_all D.tab D.cd (gn_ok (by kernel_rfl)) S.nd (i_range1 rfl h.n_range (a_consR (e_toR (e_callB (x := "len") cv_len (by rfl) h.n_len boot_len (a_consR (e_toR (e_var 0)) a_nil))) a_nil)) (by exact fun _ _ _ _ _ => (g_name (i := 2) S.nd rfl (by first | exact Or.inl rfl | exact Or.inr rfl))) (by exact fun _ _ _ _ _ => ts_nil) (by exact fun _ _ _ _ _ => (e_cmp (opv_ge (u64_of (D.hr.in1.in1.deeper _))) (e_toR (e_call (cal_turn h TB) (D.hr.in1.in1.deeper _) (by decide) rfl takesN (a_consF (e_ix (e_toR (e_var 0)) (e_toR (e_bin opv_sub (e_toR (e_var 2)) (e_toR e_int))) (fun _ _ => rfl)) (a_consF (e_ix (e_toR (e_var 0)) (e_toR (e_var 2)) (fun _ _ => rfl)) (a_consF (e_var 1) a_nil))))) (e_toR e_int) rfl))))))
def N_look_hull : List Str := ["row", "corners", "k", "corner", "many", "point"]
theorem S_look_hull : FnScope N_look_hull ["row", "corners"] (defScope (top 47)) := sc_ok (by kernel_rfl)
def s_look_hull_1 : SM := (sRaiseN "BadPaper" "part" (mVar 2))
def s_look_hull_2 : SM := (sIf (tBin cNotIn (mVar 3) (mVar 0)) s_look_hull_1 sNil)
def s_look_hull_3 : SM := (sFor (iEnumM (aCons (mVar 1) aNil)) (gTp 2 (gConsM (gNm 2) (gConsM (gNm 3) gNilM)))
  s_look_hull_2 [2, 3])
def s_look_hull_4 : SM := (sSet 4 (mCallB bLen (aCons (mVar 1) aNil)))
def s_look_hull_5 : SM := (sRaiseN "BadPaper" "part" (mVar 4))
def s_look_hull_6 : SM := (sIf (tBin cNe (mCall 3 M_turn (aCons (mIx (mVar 1) (mBin pSub (mVar 2) (mC (.int 2)))) (aCons (mIx (mVar 1) (mBin pSub (mVar 2) (mC (.int 1)))) (aCons (mIx (mVar 1) (mVar 2)) aNil)))) (mC (.int 1))) s_look_hull_5 sNil)
def s_look_hull_7 : SM := (sFor (iRng1M (aCons (mVar 4) aNil)) (gNm 2)
  s_look_hull_6 [2])
def s_look_hull_8 : SM := (sIf (tBin cGe (mVar 4) (mC (.int 3))) s_look_hull_7 sNil)
def s_look_hull_9 : SM := (sRaiseN "BadPaper" "part" (mBin pAdd (mVar 4) (mC (.int 1))))
def s_look_hull_10 : SM := (sIf (tNotM (tVal (mCall 2 M_is_in (aCons (mVar 1) (aCons (mVar 5) aNil))))) s_look_hull_9 sNil)
def s_look_hull_11 : SM := (sFor (iSeq (mVar 0)) (gNm 5)
  s_look_hull_10 [5])
def B_look_hull : SM := (sSeq s_look_hull_3 (sSeq s_look_hull_4 (sSeq s_look_hull_8 s_look_hull_11)))
def M_look_hull : FM := fnM 6 B_look_hull
theorem cal_look_hull (h : Hy P K mg cs tg) (TB : ∀ p ∈ cs, TabB base mg p.1 p.2) : CalM P w K mg base (tbO cs tg) 7 "look_hull" 2 M_look_hull := by
  obtain ⟨f, fd, c, T, F⟩ := h.f_look_hull
  refine mk_cal (k := 6) (N := N_look_hull) F S_look_hull TB (fun _ _ _ _ _ _ us hl => match us, hl with | [_, _], _ => rfl) fun A outer s H E D => ?_
  have S := S_look_hull
  exact (b_cons (s_for (passes_of rfl) D.cm (i_enum rfl h.n_enumerate (a_consF (e_var 1) a_nil)) (g_tup D.cm (gs_cons (g_name (i := 2) S.nd rfl (by first | exact Or.inl rfl | exact Or.inr rfl)) (gs_cons (g_name (i := 3) S.nd rfl (by first | exact Or.inl rfl | exact Or.inr rfl)) gs_nil)))
  (b_one (s_if (t_cmp (opv_notin (u65_of D.hr)) (e_toR (e_var 3)) (e_toR (e_var 0)) rfl) (b_one (s_raiseN h.p_BadPaper (D.hr.mono (by decide)) D.cm D.tk rfl (e_var 2))) b_nil)) [2, 3])
  (b_cons (s_set (i := 4) S.nd rfl (by first | exact Or.inl rfl | exact Or.inr rfl) (e_callB (x := "len") cv_len (by rfl) h.n_len boot_len (a_consR (e_toR (e_var 1)) a_nil)))
  (b_cons (s_if (t_cmp (opv_ge (u64_of D.hr)) (e_toR (e_var 4)) (e_toR e_int) rfl) (b_one (s_for (passes_of rfl) D.cm (i_range1 rfl h.n_range (a_consR (e_toR (e_var 4)) a_nil)) (g_name (i := 2) S.nd rfl (by first | exact Or.inl rfl | exact Or.inr rfl))
  (b_one (s_if (t_cmp (opv_ne (u64_of D.hr)) (e_toR (e_call (cal_turn h TB) D.hr (by decide) rfl D.tk (a_consF (e_ix (e_toR (e_var 1)) (e_toR (e_bin opv_sub (e_toR (e_var 2)) (e_toR e_int))) (fun _ _ => rfl)) (a_consF (e_ix (e_toR (e_var 1)) (e_toR (e_bin opv_sub (e_toR (e_var 2)) (e_toR e_int))) (fun _ _ => rfl)) (a_consF (e_ix (e_toR (e_var 1)) (e_toR (e_var 2)) (fun _ _ => rfl)) a_nil))))) (e_toR e_int) rfl) (b_one (s_raiseN h.p_BadPaper (D.hr.mono (by decide)) D.cm D.tk rfl (e_var 4))) b_nil)) [2])) b_nil)
  (b_one (s_for (passes_of rfl) D.cm (i_seq (e_var 0)) (g_name (i := 5) S.nd rfl (by first | exact Or.inl rfl | exact Or.inr rfl))
  (b_one (s_if (t_not (t_val (e_toR (e_call (cal_is_in h TB) D.hr (by decide) rfl D.tk (a_consF (e_var 1) (a_consF (e_var 5) a_nil)))))) (b_one (s_raiseN h.p_BadPaper (D.hr.mono (by decide)) D.cm D.tk rfl (e_bin opv_add (e_toR (e_var 4)) (e_toR e_int)))) b_nil)) [5])))))
def N_check_roads : List Str := ["many", "roads", "one", "other", "length"]
theorem S_check_roads : FnScope N_check_roads ["many", "roads"] (defScope (top 60)) := sc_ok (by kernel_rfl)
def s_check_roads_1 : SM := (sRaise "BadNumber")
def s_check_roads_2 : SM := (sIf (tOrM (tNotM (tVal (mCall 3 M_is_whole (aCons (mVar 2) (aCons (mC (.int 0)) (aCons (mBin pSub (mVar 0) (mC (.int 1))) aNil)))))) (tOrM (tNotM (tVal (mCall 3 M_is_whole (aCons (mVar 3) (aCons (mC (.int 0)) (aCons (mBin pSub (mVar 0) (mC (.int 1))) aNil)))))) (tNotM (tVal (mCall 3 M_is_whole (aCons (mVar 4) (aCons (mC (.int 1)) (aCons (mBin pPow (mC (.int 10)) (mC (.int 9))) aNil)))))))) s_check_roads_1 sNil)
def s_check_roads_3 : SM := (sFor (iSeq (mVar 1)) (gTp 3 (gConsM (gNm 2) (gConsM (gNm 3) (gConsM (gNm 4) gNilM))))
  s_check_roads_2 [2, 3, 4])
def B_check_roads : SM := s_check_roads_3
def M_check_roads : FM := fnM 5 B_check_roads
theorem cal_check_roads (h : Hy P K mg cs tg) (TB : ∀ p ∈ cs, TabB base mg p.1 p.2) : CalM P w K mg base (tbO cs tg) 2 "check_roads" 2 M_check_roads := by
  obtain ⟨f, fd, c, T, F⟩ := h.f_check_roads
  refine mk_cal (k := 1) (N := N_check_roads) F S_check_roads TB (fun _ _ _ _ _ _ us hl => match us, hl with | [_, _], _ => rfl) fun A outer s H E D => ?_
  have S := S_check_roads
  exact (b_one (s_for (passes_of rfl) D.cm (i_seq (e_var 1)) (g_tup D.cm (gs_cons (g_name (i := 2) S.nd rfl (by first | exact Or.inl rfl | exact Or.inr rfl)) (gs_cons (g_name (i := 3) S.nd rfl (by first | exact Or.inl rfl | exact Or.inr rfl)) (gs_cons (g_name (i := 4) S.nd rfl (by first | exact Or.inl rfl | exact Or.inr rfl)) gs_nil))))
  (b_one (s_if (t_w (w_or (t_not (t_val (e_toR (e_call (cal_is_whole h TB) D.hr (by decide) rfl D.tk (a_consF (e_var 2) (a_consF e_int (a_consF (e_bin opv_sub (e_toR (e_var 0)) (e_toR e_int)) a_nil))))))) (w_or (t_not (t_val (e_toR (e_call (cal_is_whole h TB) D.hr (by decide) rfl D.tk (a_consF (e_var 3) (a_consF e_int (a_consF (e_bin opv_sub (e_toR (e_var 0)) (e_toR e_int)) a_nil))))))) (w_or1 (t_not (t_val (e_toR (e_call (cal_is_whole h TB) D.hr (by decide) rfl D.tk (a_consF (e_var 4) (a_consF e_int (a_consF (e_bin opv_pow (e_toR e_int) (e_toR e_int)) a_nil))))))))))) (b_one (s_raise h.r_BadNumber D.cm D.tk rfl)) b_nil)) [2, 3, 4]))
def N_lengths_from : List Str := ["many", "roads", "start", "best", "done", "open_towns", "here", "one", "other", "length", "near", "far", "k"]
theorem S_lengths_from : FnScope N_lengths_from ["many", "roads", "start"] (defScope (top 61)) := sc_ok (by kernel_rfl)
def s_lengths_from_1 : SM := (sExpr (mCall 2 M_check_roads (aCons (mVar 0) (aCons (mVar 1) aNil))))
def s_lengths_from_2 : SM := (sPar [3, 4] (vN (mRep (mLst (aCons (mC .non) aNil)) (mVar 0)) (vN (mLst aNil) vNil)))
def s_lengths_from_3 : SM := (sSetIx 3 (mVar 2) (mC (.int 0)))
def s_lengths_from_4 : SM := (sSet 5 (mComp (iRng1M (aCons (mVar 0) aNil)) (gNm 12) (tAndM (tBin cNotN (mIx (mOwn 3) (mVar 12)) (mC .non)) (tBin cNotIn (mVar 12) (mOwn 4))) (mVar 12) [12]))
def s_lengths_from_5 : SM := (sRet (mCallB bTuple (aCons (mOwn 3) aNil)))
def s_lengths_from_6 : SM := (sIf (tBin cEq0 (mVar 5) (mLst aNil)) s_lengths_from_5 sNil)
def s_lengths_from_7 : SM := (sSet 6 (mMinK (mVar 5) 12 (mTup (aCons (mIx (mOwn 3) (mVar 12)) (aCons (mVar 12) aNil)))))
def s_lengths_from_8 : SM := (sAppend 4 (mVar 6))
def s_lengths_from_9 : SM := (sSetIx 3 (mVar 11) (mBin pAdd (mIx (mOwn 3) (mVar 6)) (mVar 9)))
def s_lengths_from_10 : SM := (sIf (tAndM (tBin cEq (mVar 10) (mVar 6)) (tOrM (tBin cIsN (mIx (mOwn 3) (mVar 11)) (mC .non)) (tBin cLt (mBin pAdd (mIx (mOwn 3) (mVar 6)) (mVar 9)) (mIx (mOwn 3) (mVar 11))))) s_lengths_from_9 sNil)
def s_lengths_from_11 : SM := (sFor (iSeq (mTup (aCons (mTup (aCons (mVar 7) (aCons (mVar 8) aNil))) (aCons (mTup (aCons (mVar 8) (aCons (mVar 7) aNil))) aNil)))) (gTp 2 (gConsM (gNm 10) (gConsM (gNm 11) gNilM)))
  s_lengths_from_10 [10, 11])
def s_lengths_from_12 : SM := (sFor (iSeq (mVar 1)) (gTp 3 (gConsM (gNm 7) (gConsM (gNm 8) (gConsM (gNm 9) gNilM))))
  s_lengths_from_11 [7, 8, 9, 10, 11])
def s_lengths_from_13 : SM := (sWhile 1000 (tVal (mC (.bl true)))
  (sSeq s_lengths_from_4 (sSeq s_lengths_from_6 (sSeq s_lengths_from_7 (sSeq s_lengths_from_8 s_lengths_from_12)))) [5, 6, 7, 8, 9, 10, 11])
def B_lengths_from : SM := (sSeq s_lengths_from_1 (sSeq s_lengths_from_2 (sSeq s_lengths_from_3 s_lengths_from_13)))
def M_lengths_from : FM := fnM 13 B_lengths_from
theorem cal_lengths_from (h : Hy P K mg cs tg) (TB : ∀ p ∈ cs, TabB base mg p.1 p.2) : CalM P w K mg base (tbO cs tg) 4 "lengths_from" 3 M_lengths_from := by
  obtain ⟨f, fd, c, T, F⟩ := h.f_lengths_from
  refine mk_cal (k := 3) (N := N_lengths_from) F S_lengths_from TB (fun _ _ _ _ _ _ us hl => match us, hl with | [_, _, _], _ => rfl) fun A outer s H E D => ?_
  have S := S_lengths_from
  exact (b_cons (s_expr (e_call (cal_check_roads h TB) D.hr (by decide) rfl D.tk (a_consF (e_var 0) (a_consF (e_var 1) a_nil))))
  (b_cons (s_parT2 (ps_asg (pe_tup (v_N (e_rep (e_lst (a_consF e_non a_nil)) (e_toR (e_var 0))) (v_N (e_lst a_nil) v_nil))) (pg_tup D.cm (pgs_cons (pg_name (i := 3) S.nd rfl (by first | exact Or.inl rfl | exact Or.inr rfl)) (pgs_cons (pg_name (i := 4) S.nd rfl (by first | exact Or.inl rfl | exact Or.inr rfl)) pgs_nil)))))
  (b_cons (s_setIx (ps_asg e_int (pg_sub (pv 3) (e_toR (e_var 2)) set_list (fun _ => rfl))))
  (b_one (s_while 1000 (passes_of rfl) (t_val (e_toR e_bl))
  (b_cons (s_setOf (asg_toF (p_setLc (own := [("k", 12)]) (i := 5) D.cm S.nd rfl rfl (sw_true rfl rfl rfl rfl) (i_range1 rfl h.n_range (a_consR (e_toR (e_var 0)) a_nil)) (blk_ok (by kernel_rfl)) (by exact fun _ _ _ _ _ => (g_name (i := 12) S.nd rfl (by first | exact Or.inl rfl | exact Or.inr rfl))) (by exact fun _ _ _ _ _ => (ts_one (t_w (w_and (t_cmp opv_isnot (e_toR (e_ix (e_own 3) (e_toR (e_var 12)) (fun _ _ => rfl))) (e_toR e_non) rfl) (w_and1 (t_cmp (opv_notin (u65_of D.hr)) (e_toR (e_var 12)) (e_own 4) rfl)))))) (by exact fun _ _ _ _ _ => (e_var 12)))))
  (b_cons (s_if (t_cmp (opv_eq0 (u64_of D.hr)) (e_toR (e_var 5)) (e_toR (e_toF (e_lst a_nil))) rfl) (b_one (s_ret (e_callT (x := "tuple") cv_tuple (by rfl) h.n_tuple boot_tuple (a_consR (e_own 3) a_nil)))) b_nil)
  (b_cons (s_set (i := 6) S.nd rfl (by first | exact Or.inl rfl | exact Or.inr rfl) (e_minKey (k := 1) (e_toR (e_var 5)) ⟨lamS1_by (by kernel_rfl), S.nd, D.cm, D.hr.mono (by decide), fun _ _ _ _ _ _ => rfl, by exact fun A outer s H E f c2 hr2 => (e_tup (a_consF (e_ix (e_own 3) (e_toR (e_var 12)) (fun _ _ => rfl)) (a_consF (e_var 12) a_nil)))⟩ rfl h.n_min D.tab D.cd D.mem rfl))
  (b_cons (s_append (ps_expr (pe_bm PySem.F.plainAttrs_list PySem.F.slot_list_append PySem.F.type_list_append mt_append (pv 4) (pa_cons (e_var 6) pa_nil))))
  (b_one (s_for (passes_of rfl) D.cm (i_seq (e_var 1)) (g_tup D.cm (gs_cons (g_name (i := 7) S.nd rfl (by first | exact Or.inl rfl | exact Or.inr rfl)) (gs_cons (g_name (i := 8) S.nd rfl (by first | exact Or.inl rfl | exact Or.inr rfl)) (gs_cons (g_name (i := 9) S.nd rfl (by first | exact Or.inl rfl | exact Or.inr rfl)) gs_nil))))
  (b_one (s_for (passes_of rfl) D.cm (i_seq (e_tup (a_consF (e_tup (a_consF (e_var 7) (a_consF (e_var 8) a_nil))) (a_consF (e_tup (a_consF (e_var 8) (a_consF (e_var 7) a_nil))) a_nil)))) (g_tup D.cm (gs_cons (g_name (i := 10) S.nd rfl (by first | exact Or.inl rfl | exact Or.inr rfl)) (gs_cons (g_name (i := 11) S.nd rfl (by first | exact Or.inl rfl | exact Or.inr rfl)) gs_nil)))
  (b_one (s_if (t_w (w_and (t_cmp (opv_eq (u64_of D.hr)) (e_toR (e_var 10)) (e_toR (e_var 6)) rfl) (w_and1 (t_w (w_or (t_cmp opv_is (e_toR (e_ix (e_own 3) (e_toR (e_var 11)) (fun _ _ => rfl))) (e_toR e_non) rfl) (w_or1 (t_cmp (opv_lt (u64_of D.hr)) (e_toR (e_bin opv_add (e_toR (e_ix (e_own 3) (e_toR (e_var 6)) (fun _ _ => rfl))) (e_toR (e_var 9)))) (e_toR (e_ix (e_own 3) (e_toR (e_var 11)) (fun _ _ => rfl))) rfl))))))) (b_one (s_setIx (ps_asg (e_bin opv_add (e_toR (e_ix (e_own 3) (e_toR (e_var 6)) (fun _ _ => rfl))) (e_toR (e_var 9))) (pg_sub (pv 3) (e_toR (e_var 11)) set_list (fun _ => rfl))))) b_nil)) [10, 11])) [7, 8, 9, 10, 11])))))) [5, 6, 7, 8, 9, 10, 11])))))
def N_shortest : List Str := ["many", "roads", "start", "goal", "best", "way", "here", "before", "one", "other", "length", "near", "far"]
theorem S_shortest : FnScope N_shortest ["many", "roads", "start", "goal"] (defScope (top 62)) := sc_ok (by kernel_rfl)
def s_shortest_1 : SM := (sSet 4 (mCall 3 M_lengths_from (aCons (mVar 0) (aCons (mVar 1) (aCons (mVar 2) aNil)))))
def s_shortest_2 : SM := (sRaise "NoWay")
def s_shortest_3 : SM := (sIf (tBin cIsN (mIx (mVar 4) (mVar 3)) (mC .non)) s_shortest_2 sNil)
def s_shortest_4 : SM := (sSetO 5 (mLst (aCons (mVar 3) aNil)))
def s_shortest_5 : SM := (sPar [6, 7] (vF (mIx (mOwn 5) (mUn pNeg (mC (.int 1)))) (vN (mLst aNil) vNil)))
def s_shortest_6 : SM := (sAppend 7 (mVar 11))
def s_shortest_7 : SM := (sIf (tAndM (tBin cEq (mVar 12) (mVar 6)) (tAndM (tBin cNotN (mIx (mVar 4) (mVar 11)) (mC .non)) (tAndM (tBin cEq (mBin pAdd (mIx (mVar 4) (mVar 11)) (mVar 10)) (mIx (mVar 4) (mVar 6))) (tBin cNotIn (mVar 11) (mOwn 5))))) s_shortest_6 sNil)
def s_shortest_8 : SM := (sFor (iSeq (mTup (aCons (mTup (aCons (mVar 8) (aCons (mVar 9) aNil))) (aCons (mTup (aCons (mVar 9) (aCons (mVar 8) aNil))) aNil)))) (gTp 2 (gConsM (gNm 11) (gConsM (gNm 12) gNilM)))
  s_shortest_7 [11, 12])
def s_shortest_9 : SM := (sFor (iSeq (mVar 1)) (gTp 3 (gConsM (gNm 8) (gConsM (gNm 9) (gConsM (gNm 10) gNilM))))
  s_shortest_8 [8, 9, 10, 11, 12])
def s_shortest_10 : SM := (sAppend 5 (mCallB bMinD (aCons (mOwn 7) aNil)))
def s_shortest_11 : SM := (sWhile 1000 (tBin cNe (mIx (mOwn 5) (mUn pNeg (mC (.int 1)))) (mVar 2))
  (sSeq s_shortest_5 (sSeq s_shortest_9 s_shortest_10)) [6, 7, 8, 9, 10, 11, 12])
def s_shortest_12 : SM := (sRet (mTup (aCons (mIx (mVar 4) (mVar 3)) (aCons (mTupRev (mOwn 5)) aNil))))
def B_shortest : SM := (sSeq s_shortest_1 (sSeq s_shortest_3 (sSeq s_shortest_4 (sSeq s_shortest_11 s_shortest_12))))
def M_shortest : FM := fnM 13 B_shortest
theorem cal_shortest (h : Hy P K mg cs tg) (TB : ∀ p ∈ cs, TabB base mg p.1 p.2) : CalM P w K mg base (tbO cs tg) 5 "shortest" 4 M_shortest := by
  obtain ⟨f, fd, c, T, F⟩ := h.f_shortest
  refine mk_cal (k := 4) (N := N_shortest) F S_shortest TB (fun _ _ _ _ _ _ us hl => match us, hl with | [_, _, _, _], _ => rfl) fun A outer s H E D => ?_
  have S := S_shortest
  exact (b_cons (s_set (i := 4) S.nd rfl (by first | exact Or.inl rfl | exact Or.inr rfl) (e_call (cal_lengths_from h TB) D.hr (by decide) rfl D.tk (a_consF (e_var 0) (a_consF (e_var 1) (a_consF (e_var 2) a_nil)))))
  (b_cons (s_if (t_cmp opv_is (e_toR (e_ix (e_toR (e_var 4)) (e_toR (e_var 3)) (fun _ _ => rfl))) (e_toR e_non) rfl) (b_one (s_raise h.r_NoWay D.cm D.tk rfl)) b_nil)
  (b_cons (s_setO (i := 5) S.nd rfl (by first | exact Or.inl rfl | exact Or.inr rfl) (e_lst (a_consF (e_var 3) a_nil)))
  (b_cons (s_while 1000 (passes_of rfl) (t_cmp (opv_ne (u64_of D.hr)) (e_toR (e_ix (e_own 5) (e_toR (e_neg (e_toR e_int))) (fun _ _ => rfl))) (e_toR (e_var 2)) rfl)
  (b_cons (s_par2 (ps_par (i := 6) (j := 7) D.cm S.nd rfl rfl (by decide) rfl rfl (v_F (e_ix (e_own 5) (e_toR (e_neg (e_toR e_int))) (fun _ _ => rfl)) (v_N (e_lst a_nil) v_nil)) (by rfl)))
  (b_cons (s_for (passes_of rfl) D.cm (i_seq (e_var 1)) (g_tup D.cm (gs_cons (g_name (i := 8) S.nd rfl (by first | exact Or.inl rfl | exact Or.inr rfl)) (gs_cons (g_name (i := 9) S.nd rfl (by first | exact Or.inl rfl | exact Or.inr rfl)) (gs_cons (g_name (i := 10) S.nd rfl (by first | exact Or.inl rfl | exact Or.inr rfl)) gs_nil))))
  (b_one (s_for (passes_of rfl) D.cm (i_seq (e_tup (a_consF (e_tup (a_consF (e_var 8) (a_consF (e_var 9) a_nil))) (a_consF (e_tup (a_consF (e_var 9) (a_consF (e_var 8) a_nil))) a_nil)))) (g_tup D.cm (gs_cons (g_name (i := 11) S.nd rfl (by first | exact Or.inl rfl | exact Or.inr rfl)) (gs_cons (g_name (i := 12) S.nd rfl (by first | exact Or.inl rfl | exact Or.inr rfl)) gs_nil)))
  (b_one (s_if (t_w (w_and (t_cmp (opv_eq (u64_of D.hr)) (e_toR (e_var 12)) (e_toR (e_var 6)) rfl) (w_and (t_cmp opv_isnot (e_toR (e_ix (e_toR (e_var 4)) (e_toR (e_var 11)) (fun _ _ => rfl))) (e_toR e_non) rfl) (w_and (t_cmp (opv_eq (u64_of D.hr)) (e_toR (e_bin opv_add (e_toR (e_ix (e_toR (e_var 4)) (e_toR (e_var 11)) (fun _ _ => rfl))) (e_toR (e_var 10)))) (e_toR (e_ix (e_toR (e_var 4)) (e_toR (e_var 6)) (fun _ _ => rfl))) rfl) (w_and1 (t_cmp (opv_notin (u65_of D.hr)) (e_toR (e_var 11)) (e_own 5) rfl)))))) (b_one (s_append (ps_expr (pe_bm PySem.F.plainAttrs_list PySem.F.slot_list_append PySem.F.type_list_append mt_append (pv 7) (pa_cons (e_var 11) pa_nil))))) b_nil)) [11, 12])) [8, 9, 10, 11, 12])
  (b_one (s_append (ps_expr (pe_bm PySem.F.plainAttrs_list PySem.F.slot_list_append PySem.F.type_list_append mt_append (pv 5) (pa_cons (e_callB (x := "min") (cv_minD D.cm (u100_of D.hr)) (by rfl) h.n_min boot_min (a_consR (e_own 7) a_nil)) pa_nil))))))) [6, 7, 8, 9, 10, 11, 12])
  (b_one (s_ret (e_tup (a_consF (e_ix (e_toR (e_var 4)) (e_toR (e_var 3)) (fun _ _ => rfl)) (a_consF (e_tupRev D.cm rfl h.n_tuple rfl h.n_reversed (e_own 5)) a_nil)))))))))
def N_best_round : List Str := ["points", "many", "marks", "town", "table", "turn", "after", "seen", "last", "length", "order", "key", "here"]
theorem S_best_round : FnScope N_best_round ["points"] (defScope (top 64)) := sc_ok (by kernel_rfl)
def s_best_round_1 : SM := (sExpr (mCall 1 M_check_points (aCons (mVar 0) aNil)))
def s_best_round_2 : SM := (sSet 1 (mCallB bLen (aCons (mVar 0) aNil)))
def s_best_round_3 : SM := (sRaise "TooLarge")
def s_best_round_4 : SM := (sIf (tBin cGt (mVar 1) (mC (.int 9))) s_best_round_3 sNil)
def s_best_round_5 : SM := (sRaise "NoWay")
def s_best_round_6 : SM := (sIf (tBin cEq (mVar 1) (mC (.int 0))) s_best_round_5 sNil)
def s_best_round_7 : SM := (sSetO 2 (mLst (aCons (mC (.int 1)) aNil)))
def s_best_round_8 : SM := (sAppend 2 (mBin pMul (mC (.int 2)) (mIx (mOwn 2) (mUn pNeg (mC (.int 1))))))
def s_best_round_9 : SM := (sFor (iRng1M (aCons (mVar 1) aNil)) (gNm 3)
  s_best_round_8 [3])
def B_best_round : SM := (sSeq s_best_round_1 (sSeq s_best_round_2 (sSeq s_best_round_4 (sSeq s_best_round_6 (sSeq s_best_round_7 (sSeq s_best_round_9 sBadM))))))
def M_best_round : FM := fnM 13 B_best_round
theorem cal_best_round (h : Hy P K mg cs tg) (TB : ∀ p ∈ cs, TabB base mg p.1 p.2) : CalM P w K mg base (tbO cs tg) 7 "best_round" 1 M_best_round := by
  obtain ⟨f, fd, c, T, F⟩ := h.f_best_round
  refine mk_cal (k := 6) (N := N_best_round) F S_best_round TB (fun _ _ _ _ _ _ us hl => match us, hl with | [_], _ => rfl) fun A outer s H E D => ?_
  have S := S_best_round
  exact (b_cons (s_expr (e_call (cal_check_points h TB) D.hr (by decide) rfl D.tk (a_consF (e_var 0) a_nil)))
  (b_cons (s_set (i := 1) S.nd rfl (by first | exact Or.inl rfl | exact Or.inr rfl) (e_callB (x := "len") cv_len (by rfl) h.n_len boot_len (a_consR (e_toR (e_var 0)) a_nil)))
  (b_cons (s_if (t_cmp (opv_gt (u64_of D.hr)) (e_toR (e_var 1)) (e_toR e_int) rfl) (b_one (s_raise h.r_TooLarge D.cm D.tk rfl)) b_nil)
  (b_cons (s_if (t_cmp (opv_eq (u64_of D.hr)) (e_toR (e_var 1)) (e_toR e_int) rfl) (b_one (s_raise h.r_NoWay D.cm D.tk rfl)) b_nil)
  (b_cons (s_setO (i := 2) S.nd rfl (by first | exact Or.inl rfl | exact Or.inr rfl) (e_lst (a_consF e_int a_nil)))
  (b_cons (s_for (passes_of rfl) D.cm (i_range1 rfl h.n_range (a_consR (e_toR (e_var 1)) a_nil)) (g_name (i := 3) S.nd rfl (by first | exact Or.inl rfl | exact Or.inr rfl))
  (b_one (s_append (ps_expr (pe_bm PySem.F.plainAttrs_list PySem.F.slot_list_append PySem.F.type_list_append mt_append (pv 2) (pa_cons (e_bin opv_mul (e_toR e_int) (e_toR (e_ix (e_own 2) (e_toR (e_neg (e_toR e_int))) (fun _ _ => rfl)))) pa_nil))))) [3])
  b_bad))))))
def N_Desk_undo : List Str := ["self", "deed"]
theorem S_Desk_undo : FnScope N_Desk_undo ["self"] (defScope (mt 43 6)) := sc_ok (by kernel_rfl)
def s_Desk_undo_1 : SM := (sRaise "BadDeed")
def s_Desk_undo_2 : SM := (sIf (tEqS (mFld "Desk" "deeds" (mVar 0)) (mLst aNil)) s_Desk_undo_1 sNil)
def B_Desk_undo : SM := (sSeq s_Desk_undo_2 sBadM)
def M_Desk_undo : FM := fnM 2 B_Desk_undo
theorem cal_Desk_undo (h : Hy P K mg cs tg) (TB : ∀ p ∈ cs, TabB base mg p.1 p.2) : CalC P w K mg base (tbO cs tg) 1 "Desk" "undo" 1 M_Desk_undo := by
  obtain ⟨fd, c, T, F⟩ := h.f_Desk_undo
  refine mk_calC F h.k_Desk.cls h.m_Desk_undo (k := 0) (N := N_Desk_undo) S_Desk_undo TB (fun _ _ _ _ _ _ us hl => match us, hl with | [_], _ => rfl) fun A outer s H E D => ?_
  have S := S_Desk_undo
  exact (b_cons (s_if (t_eqS (u64_of D.hr) (e_fld h.k_Desk (by simp) (e_toR (e_var 0))) (e_toR (e_toF (e_lst a_nil))) rfl) (b_one (s_raise h.r_BadDeed D.cm D.tk rfl)) b_nil)
  b_bad)
def N_law : List Str := ["script", "dice", "many", "desk", "whats", "k", "j"]
theorem S_law : FnScope N_law ["script"] (defScope (top 70)) := sc_ok (by kernel_rfl)
def s_law_1 : SM := (sAsg (gTp 2 (gConsM (gNm 2) (gConsM (gNm 3) gNilM))) (mTup (aCons (mBin pAdd (mC (.int 1)) (mCall 2 M_law_roll (aCons (mVar 1) (aCons (mC (.int 900)) aNil)))) (aCons (mNew "Desk" 1 M_Desk_init aNil) aNil))))
def s_law_2 : SM := (sWhats rowHs 4 5 [(mCall 3 M_check_whole (aCons (mVar 2) (aCons (mC (.int 0)) (aCons (mBin pSub (mVar 2) (mC (.int 1))) aNil)))), (mCall 1 M_check_points (aCons (mTup (aCons (mTup (aCons (mBin pAdd (mC (.int 10000)) (mVar 2)) (aCons (mC (.int 0)) aNil))) aNil)) aNil)), (mCall 1 M_check_shape (aCons (mTup (aCons (mTup (aCons (mC (.int 0)) (aCons (mC (.int 0)) aNil))) (aCons (mTup (aCons (mVar 2) (aCons (mC (.int 0)) aNil))) aNil))) aNil)), (mCall 1 M_check_blocks (aCons (mTup (aCons (mTup (aCons (mVar 2) (aCons (mC (.int 0)) (aCons (mVar 2) (aCons (mC (.int 1)) aNil))))) aNil)) aNil)), (mCall 1 M_check_map (aCons (mTup (aCons (mTup (aCons (mTup (aCons (mC (.int 0)) (aCons (mC (.int 0)) aNil))) aNil)) (aCons (mTup (aCons (mTup (aCons (mC (.int 0)) (aCons (mVar 2) aNil))) aNil)) aNil))) aNil)), (mCall 1 M_read (aCons (mBin pAdd (mBin pAdd (mC (.str (Str.ofString "POINT a ("))) (mCallB bStr (aCons (mVar 2) aNil))) (mC (.str (Str.ofString ")\n")))) aNil)), (mCall 2 M_look_hull (aCons (mTup (aCons (mTup (aCons (mC (.int 0)) (aCons (mC (.int 0)) aNil))) aNil)) (aCons (mTup (aCons (mTup (aCons (mVar 2) (aCons (mC (.int 0)) aNil))) aNil)) aNil))), (mCall 4 M_shortest (aCons (mC (.int 2)) (aCons (mTup aNil) (aCons (mC (.int 0)) (aCons (mC (.int 1)) aNil))))), (mCall 1 M_best_round (aCons (mRepU (mTup (aCons (mTup (aCons (mVar 2) (aCons (mC (.int 0)) aNil))) aNil)) (mC (.int 10))) aNil)), (mMeth "Desk" "undo" 1 M_Desk_undo (mVar 3) aNil)] (mBin pAdd (mComp (iRng1M (aCons (mC (.int 10)) aNil)) (gNm 6) tYesM (mBin cEq (mVar 6) (mVar 5)) [6]) (mLst (aCons (mC (.bl true)) aNil))))
def s_law_3 : SM := (sFor (iSeq (mCall 2 M_law_rounds (aCons (mVar 0) (aCons (mC (.int 3)) aNil)))) (gNm 1)
  (sSeq s_law_1 (sSeq s_law_2 sNil)) [1, 2, 3, 4, 5])
def s_law_4 : SM := (sRet (mC (.bl true)))
def B_law : SM := (sSeq s_law_3 s_law_4)
def M_law : FM := fnM 7 B_law
theorem ok_law {f : Addr} {fd : FuncData} {c T : Addr} (h : Hy P K mg cs tg) (TB : ∀ p ∈ cs, TabB base mg p.1 p.2) (F : FnAt K mg cs tg (some "law.<locals>.<lambda>") "law" (top 70) f fd c T) : FnOk P w K mg base (L2.CX P w) 15 f fd ["script"] (spM K mg (tbO cs tg) 1 M_law) := by
  refine mk_fn (k := 14) (N := N_law) (ps := ["script"]) F S_law TB fun A outer s H E D => ?_
  have S := S_law
  exact (b_cons (s_for (passes_of rfl) D.cm (i_seq (e_call (cal_law_rounds h TB) D.hr (by decide) rfl D.tk (a_consF (e_var 0) (a_consF e_int a_nil)))) (g_name (i := 1) S.nd rfl (by first | exact Or.inl rfl | exact Or.inr rfl))
  (b_cons (s_asg (e_tup (a_consF (e_bin opv_add (e_toR e_int) (e_toR (e_call (cal_law_roll h TB) D.hr (by decide) rfl D.tk (a_consF (e_var 1) (a_consF e_int a_nil))))) (a_consF (e_new0 (cal_Desk_init h TB) D.hr (by decide) rfl D.tk) a_nil))) (g_tup D.cm (gs_cons (g_name (i := 2) S.nd rfl (by first | exact Or.inl rfl | exact Or.inr rfl)) (gs_cons (g_name (i := 3) S.nd rfl (by first | exact Or.inl rfl | exact Or.inr rfl)) gs_nil))))
  (s_whats (k := 12) (wi := 4) (ki := 5) (js := [{ params := _, body := _, scope := _, pos := _, m := (mCall 3 M_check_whole (aCons (mVar 2) (aCons (mC (.int 0)) (aCons (mBin pSub (mVar 2) (mC (.int 1))) aNil)))), L := by exact (LamX.lamS_by (by kernel_rfl)), hdef := by rfl, hbind := (by exact fun _ _ _ _ _ => rfl), hb := (by exact fun A outer s H E f c2 hr2 tk2 => (e_call (cal_check_whole h TB) hr2 (by decide) rfl tk2 (a_consF (e_var 2) (a_consF e_int (a_consF (e_bin opv_sub (e_toR (e_var 2)) (e_toR e_int)) a_nil))))) },
    { params := _, body := _, scope := _, pos := _, m := (mCall 1 M_check_points (aCons (mTup (aCons (mTup (aCons (mBin pAdd (mC (.int 10000)) (mVar 2)) (aCons (mC (.int 0)) aNil))) aNil)) aNil)), L := by exact (LamX.lamS_by (by kernel_rfl)), hdef := by rfl, hbind := (by exact fun _ _ _ _ _ => rfl), hb := (by exact fun A outer s H E f c2 hr2 tk2 => (e_call (cal_check_points h TB) hr2 (by decide) rfl tk2 (a_consF (e_tup (a_consF (e_tup (a_consF (e_bin opv_add (e_toR e_int) (e_toR (e_var 2))) (a_consF e_int a_nil))) a_nil)) a_nil))) },
    { params := _, body := _, scope := _, pos := _, m := (mCall 1 M_check_shape (aCons (mTup (aCons (mTup (aCons (mC (.int 0)) (aCons (mC (.int 0)) aNil))) (aCons (mTup (aCons (mVar 2) (aCons (mC (.int 0)) aNil))) aNil))) aNil)), L := by exact (LamX.lamS_by (by kernel_rfl)), hdef := by rfl, hbind := (by exact fun _ _ _ _ _ => rfl), hb := (by exact fun A outer s H E f c2 hr2 tk2 => (e_call (cal_check_shape h TB) hr2 (by decide) rfl tk2 (a_consF (e_tup (a_consF (e_tup (a_consF e_int (a_consF e_int a_nil))) (a_consF (e_tup (a_consF (e_var 2) (a_consF e_int a_nil))) a_nil))) a_nil))) },
    { params := _, body := _, scope := _, pos := _, m := (mCall 1 M_check_blocks (aCons (mTup (aCons (mTup (aCons (mVar 2) (aCons (mC (.int 0)) (aCons (mVar 2) (aCons (mC (.int 1)) aNil))))) aNil)) aNil)), L := by exact (LamX.lamS_by (by kernel_rfl)), hdef := by rfl, hbind := (by exact fun _ _ _ _ _ => rfl), hb := (by exact fun A outer s H E f c2 hr2 tk2 => (e_call (cal_check_blocks h TB) hr2 (by decide) rfl tk2 (a_consF (e_tup (a_consF (e_tup (a_consF (e_var 2) (a_consF e_int (a_consF (e_var 2) (a_consF e_int a_nil))))) a_nil)) a_nil))) },
    { params := _, body := _, scope := _, pos := _, m := (mCall 1 M_check_map (aCons (mTup (aCons (mTup (aCons (mTup (aCons (mC (.int 0)) (aCons (mC (.int 0)) aNil))) aNil)) (aCons (mTup (aCons (mTup (aCons (mC (.int 0)) (aCons (mVar 2) aNil))) aNil)) aNil))) aNil)), L := by exact (LamX.lamS_by (by kernel_rfl)), hdef := by rfl, hbind := (by exact fun _ _ _ _ _ => rfl), hb := (by exact fun A outer s H E f c2 hr2 tk2 => (e_call (cal_check_map h TB) hr2 (by decide) rfl tk2 (a_consF (e_tup (a_consF (e_tup (a_consF (e_tup (a_consF e_int (a_consF e_int a_nil))) a_nil)) (a_consF (e_tup (a_consF (e_tup (a_consF e_int (a_consF (e_var 2) a_nil))) a_nil)) a_nil))) a_nil))) },
    { params := _, body := _, scope := _, pos := _, m := (mCall 1 M_read (aCons (mBin pAdd (mBin pAdd (mC (.str (Str.ofString "POINT a ("))) (mCallB bStr (aCons (mVar 2) aNil))) (mC (.str (Str.ofString ")\n")))) aNil)), L := by exact (LamX.lamS_by (by kernel_rfl)), hdef := by rfl, hbind := (by exact fun _ _ _ _ _ => rfl), hb := (by exact fun A outer s H E f c2 hr2 tk2 => (e_call (cal_read h TB) hr2 (by decide) rfl tk2 (a_consF (e_bin opv_add (e_toR (e_bin opv_add (e_toR e_str) (e_toR (e_callT (x := "str") cv_str (by rfl) h.n_str PyProof.Rows.boot_str (a_consR (e_toR (e_var 2)) a_nil))))) (e_toR e_str)) a_nil))) },
    { params := _, body := _, scope := _, pos := _, m := (mCall 2 M_look_hull (aCons (mTup (aCons (mTup (aCons (mC (.int 0)) (aCons (mC (.int 0)) aNil))) aNil)) (aCons (mTup (aCons (mTup (aCons (mVar 2) (aCons (mC (.int 0)) aNil))) aNil)) aNil))), L := by exact (LamX.lamS_by (by kernel_rfl)), hdef := by rfl, hbind := (by exact fun _ _ _ _ _ => rfl), hb := (by exact fun A outer s H E f c2 hr2 tk2 => (e_call (cal_look_hull h TB) hr2 (by decide) rfl tk2 (a_consF (e_tup (a_consF (e_tup (a_consF e_int (a_consF e_int a_nil))) a_nil)) (a_consF (e_tup (a_consF (e_tup (a_consF (e_var 2) (a_consF e_int a_nil))) a_nil)) a_nil)))) },
    { params := _, body := _, scope := _, pos := _, m := (mCall 4 M_shortest (aCons (mC (.int 2)) (aCons (mTup aNil) (aCons (mC (.int 0)) (aCons (mC (.int 1)) aNil))))), L := by exact (LamX.lamS_by (by kernel_rfl)), hdef := by rfl, hbind := (by exact fun _ _ _ _ _ => rfl), hb := (by exact fun A outer s H E f c2 hr2 tk2 => (e_call (cal_shortest h TB) hr2 (by decide) rfl tk2 (a_consF e_int (a_consF (e_tup a_nil) (a_consF e_int (a_consF e_int a_nil)))))) },
    { params := _, body := _, scope := _, pos := _, m := (mCall 1 M_best_round (aCons (mRepU (mTup (aCons (mTup (aCons (mVar 2) (aCons (mC (.int 0)) aNil))) aNil)) (mC (.int 10))) aNil)), L := by exact (LamX.lamS_by (by kernel_rfl)), hdef := by rfl, hbind := (by exact fun _ _ _ _ _ => rfl), hb := (by exact fun A outer s H E f c2 hr2 tk2 => (e_call (cal_best_round h TB) hr2 (by decide) rfl tk2 (a_consF (e_repU (e_toR (e_tup (a_consF (e_tup (a_consF (e_var 2) (a_consF e_int a_nil))) a_nil))) (e_toR e_int)) a_nil))) },
    { params := _, body := _, scope := _, pos := _, m := (mMeth "Desk" "undo" 1 M_Desk_undo (mVar 3) aNil), L := by exact (LamX.lamS_by (by kernel_rfl)), hdef := by rfl, hbind := (by exact fun _ _ _ _ _ => rfl), hb := (by exact fun A outer s H E f c2 hr2 tk2 => (e_meth0 (cal_Desk_undo h TB) hr2 (by decide) tk2 (e_toR (e_var 3)))) }]) (passes_of rfl) D.cm S.nd D.tab D.cd D.mem (tell_law_told h _ rfl rfl) rfl rfl (by first | exact Or.inl rfl | exact Or.inr rfl) (by first | exact Or.inl rfl | exact Or.inr rfl) rfl (by first | exact Or.inl rfl | exact Or.inr rfl) (by first | exact Or.inl rfl | exact Or.inr rfl) (by decide) (D.hr.mono (by decide)) (by simp) rfl h.n_range rfl h.n_len (e_toR (e_bin opv_add (e_toR (e_toF (e_lc (own := [("j", 6)]) D.cm S.nd (i_range1 rfl h.n_range (a_consR (e_toR e_int) a_nil)) (blk_ok (by kernel_rfl)) (by exact fun _ _ _ _ _ => (g_name (i := 6) S.nd rfl (by first | exact Or.inl rfl | exact Or.inr rfl))) (by exact fun _ _ _ _ _ => ts_nil) (by exact fun _ _ _ _ _ => (e_cmp (opv_eq (u64_of D.hr)) (e_toR (e_var 6)) (e_toR (e_var 5)) rfl))))) (e_toR (e_toF (e_lst (a_consF e_bl a_nil)))))) (s_ret e_bl) b_nil (u64_of D.hr) (by rfl) (by rfl))) [1, 2, 3, 4, 5])
  (b_one (s_ret e_bl)))
def d_law_dice : He.DefD := ⟨("_law_dice", none), "_law_dice", "_law_dice", defArgs (top 66), defBody (top 66), defScope (top 66), [], []⟩
def d_law_rounds : He.DefD := ⟨("_law_rounds", none), "_law_rounds", "_law_rounds", defArgs (top 68), defBody (top 68), defScope (top 68), [], []⟩
def d_Desk_init : He.DefD := ⟨("Desk", some "__init__"), "__init__", "Desk.__init__", defArgs (mt 43 0), defBody (mt 43 0), defScope (mt 43 0), [], []⟩
def d_law_roll : He.DefD := ⟨("_law_roll", none), "_law_roll", "_law_roll", defArgs (top 67), defBody (top 67), defScope (top 67), [], []⟩
def d_law_told : He.DefD := ⟨("_law_told", none), "_law_told", "_law_told", defArgs (top 69), defBody (top 69), defScope (top 69), [], []⟩
def d_is_whole : He.DefD := ⟨("is_whole", none), "is_whole", "is_whole", defArgs (top 14), defBody (top 14), defScope (top 14), [], []⟩
def d_check_whole : He.DefD := ⟨("check_whole", none), "check_whole", "check_whole", defArgs (top 15), defBody (top 15), defScope (top 15), [], []⟩
def d_is_point : He.DefD := ⟨("is_point", none), "is_point", "is_point", defArgs (top 18), defBody (top 18), defScope (top 18), [], []⟩
def d_check_points : He.DefD := ⟨("check_points", none), "check_points", "check_points", defArgs (top 19), defBody (top 19), defScope (top 19), [], []⟩
def d_sides : He.DefD := ⟨("sides", none), "sides", "sides", defArgs (top 28), defBody (top 28), defScope (top 28), [], []⟩
def d_less : He.DefD := ⟨("less", none), "less", "less", defArgs (top 20), defBody (top 20), defScope (top 20), [], []⟩
def d_cross : He.DefD := ⟨("cross", none), "cross", "cross", defArgs (top 21), defBody (top 21), defScope (top 21), [], []⟩
def d_turn : He.DefD := ⟨("turn", none), "turn", "turn", defArgs (top 22), defBody (top 22), defScope (top 22), [], []⟩
def d_between : He.DefD := ⟨("between", none), "between", "between", defArgs (top 24), defBody (top 24), defScope (top 24), [], []⟩
def d_folds : He.DefD := ⟨("folds", none), "folds", "folds", defArgs (top 30), defBody (top 30), defScope (top 30), [], []⟩
def d_do_meet : He.DefD := ⟨("do_meet", none), "do_meet", "do_meet", defArgs (top 26), defBody (top 26), defScope (top 26), [], []⟩
def d_is_shape : He.DefD := ⟨("is_shape", none), "is_shape", "is_shape", defArgs (top 29), defBody (top 29), defScope (top 29), [], []⟩
def d_check_shape : He.DefD := ⟨("check_shape", none), "check_shape", "check_shape", defArgs (top 31), defBody (top 31), defScope (top 31), [], []⟩
def d_is_block : He.DefD := ⟨("is_block", none), "is_block", "is_block", defArgs (top 57), defBody (top 57), defScope (top 57), [], []⟩
def d_check_blocks : He.DefD := ⟨("check_blocks", none), "check_blocks", "check_blocks", defArgs (top 58), defBody (top 58), defScope (top 58), [], []⟩
def d_lies_on : He.DefD := ⟨("lies_on", none), "lies_on", "lies_on", defArgs (top 54), defBody (top 54), defScope (top 54), [], []⟩
def d_is_map : He.DefD := ⟨("is_map", none), "is_map", "is_map", defArgs (top 51), defBody (top 51), defScope (top 51), [], []⟩
def d_check_map : He.DefD := ⟨("check_map", none), "check_map", "check_map", defArgs (top 53), defBody (top 53), defScope (top 53), [], []⟩
def d_is_number : He.DefD := ⟨("is_number", none), "is_number", "is_number", defArgs (top 41), defBody (top 41), defScope (top 41), [], []⟩
def d_is_name : He.DefD := ⟨("is_name", none), "is_name", "is_name", defArgs (top 36), defBody (top 36), defScope (top 36), [], []⟩
def d_is_thing : He.DefD := ⟨("is_thing", none), "is_thing", "is_thing", defArgs (top 37), defBody (top 37), defScope (top 37), [], []⟩
def d_thing_of : He.DefD := ⟨("thing_of", none), "thing_of", "thing_of", defArgs (top 40), defBody (top 40), defScope (top 40), [], []⟩
def d_read : He.DefD := ⟨("read", none), "read", "read", defArgs (top 39), defBody (top 39), defScope (top 39), [], []⟩
def d_on_it : He.DefD := ⟨("on_it", none), "on_it", "on_it", defArgs (top 49), defBody (top 49), defScope (top 49), [], []⟩
def d_is_in : He.DefD := ⟨("is_in", none), "is_in", "is_in", defArgs (top 48), defBody (top 48), defScope (top 48), [], []⟩
def d_look_hull : He.DefD := ⟨("look_hull", none), "look_hull", "look_hull", defArgs (top 47), defBody (top 47), defScope (top 47), [], []⟩
def d_check_roads : He.DefD := ⟨("check_roads", none), "check_roads", "check_roads", defArgs (top 60), defBody (top 60), defScope (top 60), [], []⟩
def d_lengths_from : He.DefD := ⟨("lengths_from", none), "lengths_from", "lengths_from", defArgs (top 61), defBody (top 61), defScope (top 61), [], []⟩
def d_shortest : He.DefD := ⟨("shortest", none), "shortest", "shortest", defArgs (top 62), defBody (top 62), defScope (top 62), [], []⟩
def d_best_round : He.DefD := ⟨("best_round", none), "best_round", "best_round", defArgs (top 64), defBody (top 64), defScope (top 64), [], []⟩
def d_Desk_undo : He.DefD := ⟨("Desk", some "undo"), "undo", "Desk.undo", defArgs (mt 43 6), defBody (mt 43 6), defScope (mt 43 6), [], []⟩
def d_law : He.DefD := ⟨("law", none), "law", "law", defArgs (top 70), defBody (top 70), defScope (top 70), [], []⟩
def fn : List He.DefD := [d_law_dice, d_law_rounds, d_Desk_init, d_law_roll, d_law_told, d_is_whole, d_check_whole, d_is_point, d_check_points, d_sides, d_less, d_cross, d_turn, d_between, d_folds, d_do_meet, d_is_shape, d_check_shape, d_is_block, d_check_blocks, d_lies_on, d_is_map, d_check_map, d_is_number, d_is_name, d_is_thing, d_thing_of, d_read, d_on_it, d_is_in, d_look_hull, d_check_roads, d_lengths_from, d_shortest, d_best_round, d_Desk_undo, d_law]
def lts : List (Option Str) := [(none : Option Str), (none : Option Str), (none : Option Str), (none : Option Str), (none : Option Str), (none : Option Str), (none : Option Str), (none : Option Str), (none : Option Str), (none : Option Str), (none : Option Str), (none : Option Str), (none : Option Str), (none : Option Str), (none : Option Str), (none : Option Str), (none : Option Str), (none : Option Str), (none : Option Str), (none : Option Str), (none : Option Str), (none : Option Str), (none : Option Str), (none : Option Str), (none : Option Str), (none : Option Str), (none : Option Str), (none : Option Str), (none : Option Str), (none : Option Str), (none : Option Str), (none : Option Str), ((some "lengths_from.<locals>.<lambda>") : Option Str), (none : Option Str), (none : Option Str), (none : Option Str), ((some "law.<locals>.<lambda>") : Option Str)]
def fa : List He.Fa := [.glo "_law_dice", .glo "_law_rounds", .mkr "Desk", .glo "_law_roll", .glo "_law_told", .glo "is_whole", .glo "check_whole", .glo "is_point", .glo "check_points", .glo "sides", .glo "less", .glo "cross", .glo "turn", .glo "between", .glo "folds", .glo "do_meet", .glo "is_shape", .glo "check_shape", .glo "is_block", .glo "check_blocks", .glo "lies_on", .glo "is_map", .glo "check_map", .glo "is_number", .glo "is_name", .glo "is_thing", .glo "thing_of", .glo "read", .glo "on_it", .glo "is_in", .glo "look_hull", .glo "check_roads", .glo "lengths_from", .glo "shortest", .glo "best_round", .meth "Desk" "undo", .glo "law", .free "ValueError", .free "abs", .free "all", .free "any", .free "bool", .free "enumerate", .free "int", .free "isinstance", .free "len", .free "max", .free "min", .free "range", .free "reversed", .free "str", .free "super", .free "tuple", .glo "Desk", .cls "Desk", .noat "Desk" "things", .noat "Desk" "deeds", .noat "Desk" "undone"]
abbrev R : PySem.W.OpenRow := PySem.W.OpenLaw.row PySem.Challenge.rw_maproom_k52_refusals_apart
def cn : List (Str × PV) := [("FAR_points", (.int 10000)), ("FAR_regions", (.int 10000)), ("FIGURES", (.str (Str.ofString "0123456789"))), ("SMALL", (.str (Str.ofString "abcdefghijklmnopqrstuvwxyz")))]
def xr : List Str := ["BadDeed", "BadMap", "BadNumber", "BadPoint", "BadRegion", "BadShape", "NoWay", "TooLarge"]
def vf : List Str := []
def xa : List (Str × Str × String) := []
def xp : List (Str × Str) := [("BadPaper", "part"), ("BadText", "line")]
def xt : List (Str × Str) := []
def pb (K : PySem.W.Frag) : Bool := cn.all (cnB K) && (xr.all (xcB K) && ((XS.all fun x => XS.all fun y => xmB K (x, y)) && ((xa.all fun z => xaB K z.1 z.2.1 z.2.2) && (vf.all (fgB K) && ((xp.all fun z => papB R.prog.main.file K z.1 z.2) && ((xt.all fun z => xtB K z.1 z.2) && rowB K "MapError" "BadNumber" "BadPoint" "BadShape" "BadRegion" "BadMap" "BadText" "BadPaper" "NoWay" "TooLarge" "BadDeed" "ValueError" rowHs))))))
abbrev hk : PySem.W.Hook := hookP 4 fa fn pb
def ob (s : PySem.W.SharedT) : AlT := obsP 4 fa fn pb (HandSHeadRun.getT s)
theorem ob_eq (s : PySem.W.SharedT) : ob s = hk.obs s.abs := obsP_eq (HandSHeadRun.getT_eq s)
theorem map3 {A B C D : Type} {e : Option A} {f : A → B} {g : A → C} {h : A → D} {a : B} {b : C} {c : D} (p : e.map (fun s => (f s, g s)) = some (a, b)) (q : e.map h = some c) : e.map (fun s => (f s, g s, h s)) = some (a, b, c) := by
  cases e with
  | none => cases p
  | some s =>
    obtain ⟨p1, p2⟩ := Prod.mk.inj (Option.some.inj p)
    exact congrArg some (Prod.ext p1 (Prod.ext p2 (Option.some.inj q)))
def lsN : List PySem.Str := [("_wall" : Str), ("MapError" : Str), ("BadNumber" : Str), ("BadPoint" : Str), ("BadShape" : Str), ("BadRegion" : Str), ("BadMap" : Str), ("BadText" : Str), ("BadPaper" : Str), ("NoWay" : Str), ("TooLarge" : Str), ("BadDeed" : Str), ("is_whole" : Str), ("check_whole" : Str), ("FAR_points" : Str), ("is_point" : Str), ("check_points" : Str), ("less" : Str), ("cross" : Str), ("turn" : Str), ("steps" : Str), ("between" : Str), ("do_meet" : Str), ("sides" : Str), ("is_shape" : Str), ("folds" : Str), ("check_shape" : Str), ("lies" : Str), ("SMALL" : Str), ("FIGURES" : Str), ("is_name" : Str), ("is_thing" : Str), ("told" : Str), ("read" : Str), ("thing_of" : Str), ("is_number" : Str), ("Desk" : Str), ("lines_of" : Str), ("covers" : Str), ("look_hull" : Str), ("is_in" : Str), ("on_it" : Str), ("is_map" : Str), ("clash" : Str), ("check_map" : Str), ("lies_on" : Str), ("FAR_regions" : Str), ("is_block" : Str), ("check_blocks" : Str), ("check_roads" : Str), ("lengths_from" : Str), ("shortest" : Str), ("best_round" : Str), ("_law_dice" : Str), ("_law_roll" : Str), ("_law_rounds" : Str), ("_law_told" : Str)]
open PySem.W HandSHeadRun in
theorem runA (w : World) (os : OsState) : (HandSHeadRun.endF (HandSHeadRun.stepQ (HandSHeadRun.denQ HandSHeadRun.tabQ) R.prog w) 5000 R.prog w os).map (fun s => (looksF R.prog (boot_heap w.params) s.abs, seenQ (PySem.W.view R.prog [70]) lsN (importedModules R.prog.main.body) (fun s => xlAt (PySem.W.view R.prog [70]) [] s && recOk R.toRowW.records s) s.abs)) = some (true, openGood (PySem.W.view R.prog [70]) lsN) := by
  kernel_rfl
open PySem.W HandSHeadRun in
theorem runB (w : World) (os : OsState) : (HandSHeadRun.endF (HandSHeadRun.stepQ (HandSHeadRun.denQ HandSHeadRun.tabQ) R.prog w) 5000 R.prog w os).map ob = some (hk.val w) := by
  kernel_rfl
theorem run0 (w : World) : HandSHeadRun.RunEq R (PySem.W.view R.prog [70]) hk ob 5000 lsN w := fun os => map3 (runA w os) (runB w os)
theorem run (w : World) : HandSHeadRun.RunEq R (PySem.W.view R.prog [70]) hk ob 5000 [("_wall" : Str), ("MapError" : Str), ("BadNumber" : Str), ("BadPoint" : Str), ("BadShape" : Str), ("BadRegion" : Str), ("BadMap" : Str), ("BadText" : Str), ("BadPaper" : Str), ("NoWay" : Str), ("TooLarge" : Str), ("BadDeed" : Str), ("is_whole" : Str), ("check_whole" : Str), ("FAR_points" : Str), ("is_point" : Str), ("check_points" : Str), ("less" : Str), ("cross" : Str), ("turn" : Str), ("steps" : Str), ("between" : Str), ("do_meet" : Str), ("sides" : Str), ("is_shape" : Str), ("folds" : Str), ("check_shape" : Str), ("lies" : Str), ("SMALL" : Str), ("FIGURES" : Str), ("is_name" : Str), ("is_thing" : Str), ("told" : Str), ("read" : Str), ("thing_of" : Str), ("is_number" : Str), ("Desk" : Str), ("lines_of" : Str), ("covers" : Str), ("look_hull" : Str), ("is_in" : Str), ("on_it" : Str), ("is_map" : Str), ("clash" : Str), ("check_map" : Str), ("lies_on" : Str), ("FAR_regions" : Str), ("is_block" : Str), ("check_blocks" : Str), ("check_roads" : Str), ("lengths_from" : Str), ("shortest" : Str), ("best_round" : Str), ("_law_dice" : Str), ("_law_roll" : Str), ("_law_rounds" : Str), ("_law_told" : Str)] w := run0 w
theorem hy {K : PySem.W.Frag} {h : Heap} {mg : Str → Option Value} {cs : List (Addr × Addr)} (G : h.Ns mainGlobals mg) (S : SaysP fa fn pb h K cs) : Hy R.prog K mg cs (tgOf cs lts) := by
  have X := S.kin
  have c := S.says
  obtain ⟨z1, z2⟩ := Bool.and_eq_true_iff.mp S.pb_
  obtain ⟨z2, z3⟩ := Bool.and_eq_true_iff.mp z2
  obtain ⟨z3, z4⟩ := Bool.and_eq_true_iff.mp z3
  obtain ⟨z4, z5⟩ := Bool.and_eq_true_iff.mp z4
  obtain ⟨z5, z6⟩ := Bool.and_eq_true_iff.mp z5
  obtain ⟨z6, z7⟩ := Bool.and_eq_true_iff.mp z6
  obtain ⟨z7, z8⟩ := Bool.and_eq_true_iff.mp z7
  have xm : ∀ y ∈ XS, ∀ z ∈ XS, XmF K mg y z := fun y hy z hz => xm_ok X G (List.all_eq_true.mp (List.all_eq_true.mp z3 y hy) z hz)
  exact {
    n_ValueError := He.free_ok X G (c.fact 37 (f := .free "ValueError") rfl)
    n_abs := He.free_ok X G (c.fact 38 (f := .free "abs") rfl)
    n_all := He.free_ok X G (c.fact 39 (f := .free "all") rfl)
    n_any := He.free_ok X G (c.fact 40 (f := .free "any") rfl)
    n_bool := He.free_ok X G (c.fact 41 (f := .free "bool") rfl)
    n_enumerate := He.free_ok X G (c.fact 42 (f := .free "enumerate") rfl)
    n_int := He.free_ok X G (c.fact 43 (f := .free "int") rfl)
    n_isinstance := He.free_ok X G (c.fact 44 (f := .free "isinstance") rfl)
    n_len := He.free_ok X G (c.fact 45 (f := .free "len") rfl)
    n_max := He.free_ok X G (c.fact 46 (f := .free "max") rfl)
    n_min := He.free_ok X G (c.fact 47 (f := .free "min") rfl)
    n_range := He.free_ok X G (c.fact 48 (f := .free "range") rfl)
    n_reversed := He.free_ok X G (c.fact 49 (f := .free "reversed") rfl)
    n_str := He.free_ok X G (c.fact 50 (f := .free "str") rfl)
    n_super := He.free_ok X G (c.fact 51 (f := .free "super") rfl)
    n_tuple := He.free_ok X G (c.fact 52 (f := .free "tuple") rfl)
    c_FAR_points := con_ok X G (List.all_eq_true.mp z1 ("FAR_points", (.int 10000)) (by simp [cn]))
    c_FAR_regions := con_ok X G (List.all_eq_true.mp z1 ("FAR_regions", (.int 10000)) (by simp [cn]))
    c_FIGURES := con_ok X G (List.all_eq_true.mp z1 ("FIGURES", (.str (Str.ofString "0123456789"))) (by simp [cn]))
    c_SMALL := con_ok X G (List.all_eq_true.mp z1 ("SMALL", (.str (Str.ofString "abcdefghijklmnopqrstuvwxyz"))) (by simp [cn]))
    r_BadDeed := xc_ok X G (List.all_eq_true.mp z2 "BadDeed" (by simp [xr]))
    r_BadMap := xc_ok X G (List.all_eq_true.mp z2 "BadMap" (by simp [xr]))
    r_BadNumber := xc_ok X G (List.all_eq_true.mp z2 "BadNumber" (by simp [xr]))
    r_BadPoint := xc_ok X G (List.all_eq_true.mp z2 "BadPoint" (by simp [xr]))
    r_BadRegion := xc_ok X G (List.all_eq_true.mp z2 "BadRegion" (by simp [xr]))
    r_BadShape := xc_ok X G (List.all_eq_true.mp z2 "BadShape" (by simp [xr]))
    r_NoWay := xc_ok X G (List.all_eq_true.mp z2 "NoWay" (by simp [xr]))
    r_TooLarge := xc_ok X G (List.all_eq_true.mp z2 "TooLarge" (by simp [xr]))
    p_BadPaper := pap_ok X G (He.free_ok X G (c.fact 51 (f := .free "super") rfl)) (by kernel_rfl) (List.all_eq_true.mp z6 ("BadPaper", "part") (by simp [xp]))
    p_BadText := pap_ok X G (He.free_ok X G (c.fact 51 (f := .free "super") rfl)) (by kernel_rfl) (List.all_eq_true.mp z6 ("BadText", "line") (by simp [xp]))
    g_BadNumber := (xm "BadNumber" (by simp [XS]) "BadNumber" (by simp [XS])).elim fun C hC => ⟨_, hC.choose_spec.1⟩
    g_BadPoint := (xm "BadPoint" (by simp [XS]) "BadPoint" (by simp [XS])).elim fun C hC => ⟨_, hC.choose_spec.1⟩
    g_BadShape := (xm "BadShape" (by simp [XS]) "BadShape" (by simp [XS])).elim fun C hC => ⟨_, hC.choose_spec.1⟩
    g_BadRegion := (xm "BadRegion" (by simp [XS]) "BadRegion" (by simp [XS])).elim fun C hC => ⟨_, hC.choose_spec.1⟩
    g_BadMap := (xm "BadMap" (by simp [XS]) "BadMap" (by simp [XS])).elim fun C hC => ⟨_, hC.choose_spec.1⟩
    g_BadText := (xm "BadText" (by simp [XS]) "BadText" (by simp [XS])).elim fun C hC => ⟨_, hC.choose_spec.1⟩
    g_BadPaper := (xm "BadPaper" (by simp [XS]) "BadPaper" (by simp [XS])).elim fun C hC => ⟨_, hC.choose_spec.1⟩
    g_NoWay := (xm "NoWay" (by simp [XS]) "NoWay" (by simp [XS])).elim fun C hC => ⟨_, hC.choose_spec.1⟩
    g_TooLarge := (xm "TooLarge" (by simp [XS]) "TooLarge" (by simp [XS])).elim fun C hC => ⟨_, hC.choose_spec.1⟩
    g_BadDeed := (xm "BadDeed" (by simp [XS]) "BadDeed" (by simp [XS])).elim fun C hC => ⟨_, hC.choose_spec.1⟩
    row_law_told := row_ok X G z8
    xm := xm
    k_Desk := ⟨He.cls_ok (c.fact 54 (f := .cls "Desk") rfl), He.glo_ok X G (c.fact 53 (f := .glo "Desk") rfl), by intro f hf; simp only [List.mem_cons, List.not_mem_nil, or_false] at hf; rcases hf with rfl | rfl | rfl; exact He.noat_ok (c.fact 55 (f := .noat "Desk" "things") rfl); exact He.noat_ok (c.fact 56 (f := .noat "Desk" "deeds") rfl); exact He.noat_ok (c.fact 57 (f := .noat "Desk" "undone") rfl)⟩
    f_law_dice := fnAt_of (c.def_ 0 (d := d_law_dice) rfl) (S.at (lts := lts) 0 (d := d_law_dice) rfl rfl) (He.glo_ok X G (c.fact 0 (f := .glo "_law_dice") rfl))
    f_law_rounds := fnAt_of (c.def_ 1 (d := d_law_rounds) rfl) (S.at (lts := lts) 1 (d := d_law_rounds) rfl rfl) (He.glo_ok X G (c.fact 1 (f := .glo "_law_rounds") rfl))
    m_Desk_init := He.mkr_ok (c.fact 2 (f := .mkr "Desk") rfl)
    f_Desk_init := mtAt_of (c.def_ 2 (d := d_Desk_init) rfl) (S.at (lts := lts) 2 (d := d_Desk_init) rfl rfl)
    f_law_roll := fnAt_of (c.def_ 3 (d := d_law_roll) rfl) (S.at (lts := lts) 3 (d := d_law_roll) rfl rfl) (He.glo_ok X G (c.fact 3 (f := .glo "_law_roll") rfl))
    f_law_told := fnAt_of (c.def_ 4 (d := d_law_told) rfl) (S.at (lts := lts) 4 (d := d_law_told) rfl rfl) (He.glo_ok X G (c.fact 4 (f := .glo "_law_told") rfl))
    f_is_whole := fnAt_of (c.def_ 5 (d := d_is_whole) rfl) (S.at (lts := lts) 5 (d := d_is_whole) rfl rfl) (He.glo_ok X G (c.fact 5 (f := .glo "is_whole") rfl))
    f_check_whole := fnAt_of (c.def_ 6 (d := d_check_whole) rfl) (S.at (lts := lts) 6 (d := d_check_whole) rfl rfl) (He.glo_ok X G (c.fact 6 (f := .glo "check_whole") rfl))
    f_is_point := fnAt_of (c.def_ 7 (d := d_is_point) rfl) (S.at (lts := lts) 7 (d := d_is_point) rfl rfl) (He.glo_ok X G (c.fact 7 (f := .glo "is_point") rfl))
    f_check_points := fnAt_of (c.def_ 8 (d := d_check_points) rfl) (S.at (lts := lts) 8 (d := d_check_points) rfl rfl) (He.glo_ok X G (c.fact 8 (f := .glo "check_points") rfl))
    f_sides := fnAt_of (c.def_ 9 (d := d_sides) rfl) (S.at (lts := lts) 9 (d := d_sides) rfl rfl) (He.glo_ok X G (c.fact 9 (f := .glo "sides") rfl))
    f_less := fnAt_of (c.def_ 10 (d := d_less) rfl) (S.at (lts := lts) 10 (d := d_less) rfl rfl) (He.glo_ok X G (c.fact 10 (f := .glo "less") rfl))
    f_cross := fnAt_of (c.def_ 11 (d := d_cross) rfl) (S.at (lts := lts) 11 (d := d_cross) rfl rfl) (He.glo_ok X G (c.fact 11 (f := .glo "cross") rfl))
    f_turn := fnAt_of (c.def_ 12 (d := d_turn) rfl) (S.at (lts := lts) 12 (d := d_turn) rfl rfl) (He.glo_ok X G (c.fact 12 (f := .glo "turn") rfl))
    f_between := fnAt_of (c.def_ 13 (d := d_between) rfl) (S.at (lts := lts) 13 (d := d_between) rfl rfl) (He.glo_ok X G (c.fact 13 (f := .glo "between") rfl))
    f_folds := fnAt_of (c.def_ 14 (d := d_folds) rfl) (S.at (lts := lts) 14 (d := d_folds) rfl rfl) (He.glo_ok X G (c.fact 14 (f := .glo "folds") rfl))
    f_do_meet := fnAt_of (c.def_ 15 (d := d_do_meet) rfl) (S.at (lts := lts) 15 (d := d_do_meet) rfl rfl) (He.glo_ok X G (c.fact 15 (f := .glo "do_meet") rfl))
    f_is_shape := fnAt_of (c.def_ 16 (d := d_is_shape) rfl) (S.at (lts := lts) 16 (d := d_is_shape) rfl rfl) (He.glo_ok X G (c.fact 16 (f := .glo "is_shape") rfl))
    f_check_shape := fnAt_of (c.def_ 17 (d := d_check_shape) rfl) (S.at (lts := lts) 17 (d := d_check_shape) rfl rfl) (He.glo_ok X G (c.fact 17 (f := .glo "check_shape") rfl))
    f_is_block := fnAt_of (c.def_ 18 (d := d_is_block) rfl) (S.at (lts := lts) 18 (d := d_is_block) rfl rfl) (He.glo_ok X G (c.fact 18 (f := .glo "is_block") rfl))
    f_check_blocks := fnAt_of (c.def_ 19 (d := d_check_blocks) rfl) (S.at (lts := lts) 19 (d := d_check_blocks) rfl rfl) (He.glo_ok X G (c.fact 19 (f := .glo "check_blocks") rfl))
    f_lies_on := fnAt_of (c.def_ 20 (d := d_lies_on) rfl) (S.at (lts := lts) 20 (d := d_lies_on) rfl rfl) (He.glo_ok X G (c.fact 20 (f := .glo "lies_on") rfl))
    f_is_map := fnAt_of (c.def_ 21 (d := d_is_map) rfl) (S.at (lts := lts) 21 (d := d_is_map) rfl rfl) (He.glo_ok X G (c.fact 21 (f := .glo "is_map") rfl))
    f_check_map := fnAt_of (c.def_ 22 (d := d_check_map) rfl) (S.at (lts := lts) 22 (d := d_check_map) rfl rfl) (He.glo_ok X G (c.fact 22 (f := .glo "check_map") rfl))
    f_is_number := fnAt_of (c.def_ 23 (d := d_is_number) rfl) (S.at (lts := lts) 23 (d := d_is_number) rfl rfl) (He.glo_ok X G (c.fact 23 (f := .glo "is_number") rfl))
    f_is_name := fnAt_of (c.def_ 24 (d := d_is_name) rfl) (S.at (lts := lts) 24 (d := d_is_name) rfl rfl) (He.glo_ok X G (c.fact 24 (f := .glo "is_name") rfl))
    f_is_thing := fnAt_of (c.def_ 25 (d := d_is_thing) rfl) (S.at (lts := lts) 25 (d := d_is_thing) rfl rfl) (He.glo_ok X G (c.fact 25 (f := .glo "is_thing") rfl))
    f_thing_of := fnAt_of (c.def_ 26 (d := d_thing_of) rfl) (S.at (lts := lts) 26 (d := d_thing_of) rfl rfl) (He.glo_ok X G (c.fact 26 (f := .glo "thing_of") rfl))
    f_read := fnAt_of (c.def_ 27 (d := d_read) rfl) (S.at (lts := lts) 27 (d := d_read) rfl rfl) (He.glo_ok X G (c.fact 27 (f := .glo "read") rfl))
    f_on_it := fnAt_of (c.def_ 28 (d := d_on_it) rfl) (S.at (lts := lts) 28 (d := d_on_it) rfl rfl) (He.glo_ok X G (c.fact 28 (f := .glo "on_it") rfl))
    f_is_in := fnAt_of (c.def_ 29 (d := d_is_in) rfl) (S.at (lts := lts) 29 (d := d_is_in) rfl rfl) (He.glo_ok X G (c.fact 29 (f := .glo "is_in") rfl))
    f_look_hull := fnAt_of (c.def_ 30 (d := d_look_hull) rfl) (S.at (lts := lts) 30 (d := d_look_hull) rfl rfl) (He.glo_ok X G (c.fact 30 (f := .glo "look_hull") rfl))
    f_check_roads := fnAt_of (c.def_ 31 (d := d_check_roads) rfl) (S.at (lts := lts) 31 (d := d_check_roads) rfl rfl) (He.glo_ok X G (c.fact 31 (f := .glo "check_roads") rfl))
    f_lengths_from := fnAt_of (c.def_ 32 (d := d_lengths_from) rfl) (S.at (lts := lts) 32 (d := d_lengths_from) rfl rfl) (He.glo_ok X G (c.fact 32 (f := .glo "lengths_from") rfl))
    f_shortest := fnAt_of (c.def_ 33 (d := d_shortest) rfl) (S.at (lts := lts) 33 (d := d_shortest) rfl rfl) (He.glo_ok X G (c.fact 33 (f := .glo "shortest") rfl))
    f_best_round := fnAt_of (c.def_ 34 (d := d_best_round) rfl) (S.at (lts := lts) 34 (d := d_best_round) rfl rfl) (He.glo_ok X G (c.fact 34 (f := .glo "best_round") rfl))
    m_Desk_undo := He.meth_ok (c.fact 35 (f := .meth "Desk" "undo") rfl)
    f_Desk_undo := mtAt_of (c.def_ 35 (d := d_Desk_undo) rfl) (S.at (lts := lts) 35 (d := d_Desk_undo) rfl rfl)
    f_law := fnAt_of (c.def_ 36 (d := d_law) rfl) (S.at (lts := lts) 36 (d := d_law) rfl rfl) (He.glo_ok X G (c.fact 36 (f := .glo "law") rfl))
  }
end K52
open PySem PySem.W PySem.Calls PyProof.Rows in
theorem K52.holds_of (hlaw : ∀ ns : List Int, ns.length ≤ 63 → (∀ z ∈ ns, Builtin.Int.intBits z ≤ 1048576) → ∃ s', K52.M_law [Mp.pInts ns] [] = .ok (.bl true) s') : PySem.Challenge.rw_maproom_k52_refusals_apart.Holds := by
  w_on; o_law
  refine HandSHeadRun.head_any (r := OpenLaw.row PySem.Challenge.rw_maproom_k52_refusals_apart) (q := view (OpenLaw.row PySem.Challenge.rw_maproom_k52_refusals_apart).prog [70]) (H := K52.hk) (ob := K52.ob) (M := 5000) (loose := [("_wall" : Str), ("MapError" : Str), ("BadNumber" : Str), ("BadPoint" : Str), ("BadShape" : Str), ("BadRegion" : Str), ("BadMap" : Str), ("BadText" : Str), ("BadPaper" : Str), ("NoWay" : Str), ("TooLarge" : Str), ("BadDeed" : Str), ("is_whole" : Str), ("check_whole" : Str), ("FAR_points" : Str), ("is_point" : Str), ("check_points" : Str), ("less" : Str), ("cross" : Str), ("turn" : Str), ("steps" : Str), ("between" : Str), ("do_meet" : Str), ("sides" : Str), ("is_shape" : Str), ("folds" : Str), ("check_shape" : Str), ("lies" : Str), ("SMALL" : Str), ("FIGURES" : Str), ("is_name" : Str), ("is_thing" : Str), ("told" : Str), ("read" : Str), ("thing_of" : Str), ("is_number" : Str), ("Desk" : Str), ("lines_of" : Str), ("covers" : Str), ("look_hull" : Str), ("is_in" : Str), ("on_it" : Str), ("is_map" : Str), ("clash" : Str), ("check_map" : Str), ("lies_on" : Str), ("FAR_regions" : Str), ("is_block" : Str), ("check_blocks" : Str), ("check_roads" : Str), ("lengths_from" : Str), ("shortest" : Str), ("best_round" : Str), ("_law_dice" : Str), ("_law_roll" : Str), ("_law_rounds" : Str), ("_law_told" : Str)]) (d := HandSHeadRun.topDef (OpenLaw.row PySem.Challenge.rw_maproom_k52_refusals_apart).prog 70) (kwd := []) K52.ob_eq
    (by kernel_rfl) (fun s => by kernel_rfl) K52.run (by kernel_rfl) (by kernel_rfl) (by kernel_rfl) (by rfl) (by first | assumption | decide +kernel) (by decide +kernel) ⟨rfl, rfl, rfl, rfl, rfl, by decide +kernel⟩ ?hw ?hc
  case hw => w_witness2
  case hc =>
    refine Mp.law_endP (l := PySem.Challenge.rw_maproom_k52_refusals_apart) (n := 63) (k := 15) (x := "law") (pn := "script") (M := K52.M_law) (lts := K52.lts) rfl (by decide) (by kernel_rfl) ⟨rfl, by decide, by decide⟩ (by kernel_rfl) ?F hlaw
    intro w K mg h cs G S
    obtain ⟨f, fd, c0, T, F⟩ := (K52.hy G S).f_law
    refine ⟨f, fd, F.glo, fun s u => L2.FunD.bindsA (ps := ["script"]) F.fun_ (fun _ _ _ _ _ _ us hl => match us, hl with | [_], _ => rfl) s [u] rfl, fun base b1 b2 TB => ?_⟩
    exact K52.ok_law (K52.hy G S) TB F
end
section
set_option maxRecDepth 100000
set_option maxHeartbeats 1000000
namespace Mp
open PySem L2
mutual
def ish : PV → Bool
  | .int _ => true
  | .tup xs => ishs xs
  | .lst xs => ishs xs
  | _ => false
def ishs : List PV → Bool
  | [] => true
  | x :: xs => ish x && ishs xs
end
mutual
def shp : PV → PV
  | .int _ => .int 0
  | .tup xs => .tup (shps xs)
  | .lst xs => .lst (shps xs)
  | _ => .non
def shps : List PV → List PV
  | [] => []
  | x :: xs => shp x :: shps xs
end
mutual
def flat : PV → List Int
  | .int i => [i]
  | .tup xs => flats xs
  | .lst xs => flats xs
  | _ => []
def flats : List PV → List Int
  | [] => []
  | x :: xs => flat x ++ flats xs
end
def Sm (a b : PV) : Prop := ish a = true ∧ ish b = true ∧ shp a = shp b
def Sms (a b : List PV) : Prop := ishs a = true ∧ ishs b = true ∧ shps a = shps b
theorem Sms.cons {x y : PV} {xs ys : List PV} (h : Sms (x :: xs) (y :: ys)) : Sm x y ∧ Sms xs ys := by
  obtain ⟨h1, h2, h3⟩ := h
  simp only [ishs, Bool.and_eq_true] at h1 h2
  simp only [shps, List.cons.injEq] at h3
  exact ⟨⟨h1.1, h2.1, h3.1⟩, ⟨h1.2, h2.2, h3.2⟩⟩
theorem Sm.symm {a b : PV} (h : Sm a b) : Sm b a := ⟨h.2.1, h.1, h.2.2.symm⟩
theorem Sm.trans {a b c : PV} (h : Sm a b) (g : Sm b c) : Sm a c := ⟨h.1, g.2.1, h.2.2.trans g.2.2⟩
theorem Sm.tup {xs : List PV} {b : PV} (h : Sm (.tup xs) b) : ∃ ys, b = .tup ys ∧ Sms xs ys := by
  obtain ⟨h1, h2, h3⟩ := h
  cases b <;> simp only [shp, reduceCtorEq, PV.tup.injEq] at h3
  rename_i ys
  simp only [ish] at h1 h2
  exact ⟨ys, rfl, h1, h2, h3⟩
theorem Sm.lst {xs : List PV} {b : PV} (h : Sm (.lst xs) b) : ∃ ys, b = .lst ys ∧ Sms xs ys := by
  obtain ⟨h1, h2, h3⟩ := h
  cases b <;> simp only [shp, reduceCtorEq, PV.lst.injEq] at h3
  rename_i ys
  simp only [ish] at h1 h2
  exact ⟨ys, rfl, h1, h2, h3⟩
theorem Sm.int {i : Int} {b : PV} (h : Sm (.int i) b) : ∃ j, b = .int j := by
  obtain ⟨h1, h2, h3⟩ := h
  cases b <;> simp only [shp, reduceCtorEq] at h3
  exact ⟨_, rfl⟩
def AllSm (p : PV) (xs : List PV) : Prop := ∀ x ∈ xs, Sm x p
theorem AllSm.two {p a b : PV} (ha : Sm a p) (hb : Sm b p) : Sm a b := ha.trans hb.symm
end Mp
end
section
set_option maxRecDepth 100000
set_option maxHeartbeats 1000000
namespace Pl
open PySem L2 Mp
def M_law_roll : FM := fnM 3 rollB
def s_law_plot_6 : SM := (sSet 5 (mComp (iRng1M (aCons (mCallB bLen (aCons (mOwn 2) aNil)) aNil)) (gNm 3) tYesM (mTup (aCons (mIx (mOwn 2) (mBin pSub (mVar 3) (mC (.int 1)))) (aCons (mIx (mOwn 2) (mVar 3)) aNil))) [3]))
end Pl
end
section
set_option maxRecDepth 100000
set_option maxHeartbeats 1000000
namespace Mp
open PySem L2
theorem atI_of {α : Type} {l : List α} {k : Nat} {v : α} (h : l[k]? = some v) : atI l (k : Int) = some v := by
  have hk : k < l.length := (List.getElem?_eq_some_iff.mp h).1
  unfold atI ixN
  rw [if_pos (by omega), if_pos (by omega)]
  simpa using h
theorem atI_prev {α : Type} {l : List α} {k : Nat} (hk : k < l.length) : atI l ((k : Int) - 1) = l[(k + l.length - 1) % l.length]? := by
  cases k with
  | zero =>
    rw [Nat.zero_add, Nat.mod_eq_of_lt (by omega)]
    unfold atI ixN
    rw [if_neg (by omega), if_pos (by omega)]
    have : (((0 : Nat) : Int) - 1 + (l.length : Int)).toNat = l.length - 1 := by omega
    rw [this]; rfl
  | succ k =>
    rw [show k + 1 + l.length - 1 = k + l.length by omega, Nat.add_mod_right, Nat.mod_eq_of_lt (by omega)]
    unfold atI ixN
    rw [if_pos (by omega), if_pos (by omega)]
    have : (((k + 1 : Nat) : Int) - 1).toNat = k := by omega
    rw [this]; rfl
theorem range_pv (n : Nat) : rangeL 0 n = (List.range n).map fun (k : Nat) => PV.int (k : Int) := by unfold rangeL; simp
end Mp
namespace Pl
open PySem L2 Mp
def sgn (z : Int) : Int := if z > 0 then 1 else if z < 0 then -1 else 0
def crs (a b c : Pt) : Int := (b.1 - a.1) * (c.2 - a.2) - (b.2 - a.2) * (c.1 - a.1)
def Bd (m : Int) (p : Pt) : Prop := -m ≤ p.1 ∧ p.1 ≤ m ∧ -m ≤ p.2 ∧ p.2 ≤ m
section
variable {st : Sto}
theorem ix0 (p : Pt) (s : Sto) : ixV s (tp p) (.int 0) = some (.int p.1) := rfl
theorem ix1 (p : Pt) (s : Sto) : ixV s (tp p) (.int 1) = some (.int p.2) := rfl
end
end Pl
end
section
set_option maxRecDepth 100000
set_option maxHeartbeats 1000000
namespace Pl
open PySem L2 Mp
def tp2 (q : Pt × Pt) : PV := .tup [tp q.1, tp q.2]
def sdl (c : List Pt) : List (Pt × Pt) := (List.range c.length).map fun k => (c.getD ((k + c.length - 1) % c.length) (0, 0), c.getD k (0, 0))
section
variable {n k0 : Nat} {m : Int} {st : Sto}
theorem sides_ev {c : List Pt} (hl : c.length ≤ 1000) : s_law_plot_6 [.pv (.ref n), .pv (.int m), .own (.lst (c.map tp)), .un, .un, .un, .un, .un, .un, .un, .un, .un, .un, .un] st = .nx [.pv (.ref n), .pv (.int m), .own (.lst (c.map tp)), .un, .un, .pv (.lst ((sdl c).map tp2)), .un, .un, .un, .un, .un, .un, .un, .un] st := by
  have cm := compL_map (st := st) (env := [.pv (.ref n), .pv (.int m), .own (.lst (c.map tp)), .un, .un, .un, .un, .un, .un, .un, .un, .un, .un, .un]) (gt := gNm 3) (tc := tYesM) (me := mTup (aCons (mIx (mOwn 2) (mBin pSub (mVar 3) (mC (.int 1)))) (aCons (mIx (mOwn 2) (mVar 3)) aNil))) (fun (k : Nat) => PV.int (k : Int)) (fun _ => true) (fun k => tp2 (c.getD ((k + c.length - 1) % c.length) (0, 0), c.getD k (0, 0))) (List.range c.length) (fun k hk => by
    have hk := List.mem_range.mp hk
    have hj : (k + c.length - 1) % c.length < c.length := Nat.mod_lt _ (by omega)
    refine ⟨_, rfl, rfl, fun _ => ?_⟩
    have a1 : ixV st (.lst (c.map tp)) (.int ((k : Int) - 1)) = some (tp (c.getD ((k + c.length - 1) % c.length) (0, 0))) := by
      show atI (c.map tp) ((k : Int) - 1) = _
      rw [atI_prev (by simpa using hk), List.length_map, List.getElem?_map, List.getElem?_eq_getElem hj, List.getD_eq_getElem?_getD, List.getElem?_eq_getElem hj]; rfl
    have a2 : ixV st (.lst (c.map tp)) (.int (k : Int)) = some (tp (c.getD k (0, 0))) := by
      show atI (c.map tp) (k : Int) = _
      refine atI_of ?_
      rw [List.getElem?_map, List.getElem?_eq_getElem hk, List.getD_eq_getElem?_getD, List.getElem?_eq_getElem hk]; rfl
    simp -implicitDefEqProofs only [ev_tup, ev_aCons, ev_aNil, ev_ix, mOwn, mVar, ev_bin, ev_C, List.getElem?_cons_zero, List.getElem?_cons_succ, List.set_cons_succ, List.set_cons_zero, ev_bindR, pSub_int, ev_optR, a1, a2, List.length_cons, List.length_nil, Nat.reduceAdd, Nat.reduceLeDiff, if_true]
    rfl)
  rw [List.filter_eq_self.mpr (fun _ _ => rfl)] at cm
  have bl : bLen st [.lst (c.map tp)] = some (.int (c.length : Int)) := by simp [bLen, seqOf]
  have ro : rgOk (c.length : Int) = true := by unfold rgOk; simp; omega
  have hl2 : c.length ≤ 1000000 := by omega
  simp -implicitDefEqProofs only [s_law_plot_6, ev_set, mComp, ev_rng1, ev_aCons, ev_aNil, ev_callB, mOwn, List.getElem?_cons_zero, List.getElem?_cons_succ, ev_bindR, bl, ev_optR, ro, if_true, Int.toNat_natCast, range_pv, noOwn, List.all_cons, List.all_nil, Bool.and_self, List.length_map, List.length_range, hl2, decide_true]
  rw [show killE [3] [.pv (.ref n), .pv (.int m), .own (.lst (c.map tp)), .un, .un, .un, .un, .un, .un, .un, .un, .un, .un, .un] = [.pv (.ref n), .pv (.int m), .own (.lst (c.map tp)), .un, .un, .un, .un, .un, .un, .un, .un, .un, .un, .un] from rfl, cm]
  simp -implicitDefEqProofs only [ev_bindX, ev_bindF, List.set_cons_succ, List.set_cons_zero, sdl, List.map_map]
  rfl
end
end Pl
end
section
set_option maxRecDepth 100000
set_option maxHeartbeats 1000000
namespace Mp
open PySem L2
theorem forL_find {α : Type} {gt : PV → MEnv → Option MEnv} {body : SM} {ks : List Nat} {env : MEnv} {st : Sto} (f : α → PV) (p : α → Bool) (v : α → PV) : ∀ xs : List α,
    (∀ a ∈ xs, ∃ e1, gt (f a) env = some e1 ∧ (p a = false → ∃ e, body e1 st = .nx e st ∧ killE ks e = env) ∧ (p a = true → body e1 st = .rt (v a) st)) → forL gt body ks (xs.map f) env st = match xs.find? p with | some a => .rt (v a) st | none => .nx env st
  | [], _ => rfl
  | a :: xs, h => by
    obtain ⟨e1, h1, h2, h3⟩ := h a List.mem_cons_self
    have ih := forL_find (gt := gt) (body := body) (ks := ks) (env := env) (st := st) f p v xs fun b hb => h b (List.mem_cons_of_mem _ hb)
    rw [List.map_cons]
    unfold forL
    rw [h1]
    dsimp only
    cases q : p a with
    | true =>
      rw [h3 q]
      dsimp only
      rw [List.find?_cons, q]
    | false =>
      obtain ⟨e, k1, k2⟩ := h2 q
      rw [k1]
      dsimp only
      rw [k2, ih, List.find?_cons, q]
theorem allL_all {α : Type} {gt : PV → MEnv → Option MEnv} {me : EM} {env : MEnv} {st : Sto} (f : α → PV) (p : α → Bool) : ∀ xs : List α, (∀ a ∈ xs, ∃ e1, gt (f a) env = some e1 ∧ me e1 st = .ok (.bl (p a)) st) → allL gt tYesM me (xs.map f) env st = .ok (xs.all p) st
  | [], _ => rfl
  | a :: xs, h => by
    obtain ⟨e1, h1, h2⟩ := h a List.mem_cons_self
    have ih := allL_all (gt := gt) (me := me) (env := env) (st := st) f p xs fun b hb => h b (List.mem_cons_of_mem _ hb)
    rw [List.map_cons, List.all_cons]
    unfold allL
    simp only [h1, tYesM, ev_bindX, if_true, h2]
    cases q : p a with
    | true => simp only [ih, Bool.true_and]
    | false => simp only [Bool.false_and]
theorem allG_ev {α : Type} {mi : AM} {gt : PV → MEnv → Option MEnv} {me : EM} {vs : List Nat} {env : MEnv} {st : Sto} (f : α → PV) (p : α → Bool) (xs : List α) (hi : mi env st = .ok (xs.map f) st) (hn : noOwn vs env = true) (h : ∀ a ∈ xs, ∃ e1, gt (f a) (killE vs env) = some e1 ∧ me e1 st = .ok (.bl (p a)) st) :
    mAllG mi gt tYesM me vs env st = .ok (.bl (xs.all p)) st := by
  unfold mAllG
  rw [hi, ev_bindR, hn, if_pos rfl, allL_all f p xs h, ev_bindX]
theorem mv_ok {i : Nat} {env : MEnv} {v : PV} {st : Sto} (h : env[i]? = some (.pv v)) : mVar i env st = .ok v st := by unfold mVar; rw [h]
end Mp
end
section
set_option maxHeartbeats 1000000
namespace RG
open Mp
abbrev Spn := Int × Int
def stepJ (b : List Spn) (p : Spn) : List Spn := match b.getLast? with
  | none => [p]
  | some q => if p.1 ≤ q.2 then b.dropLast ++ [(q.1, if p.2 > q.2 then p.2 else q.2)] else b ++ [p]
def Bd (p : Spn) : Prop := p.1 < p.2 ∧ -100 ≤ p.1 ∧ p.2 ≤ 100
structure Good (b : List Spn) : Prop where
  sep : b.Pairwise fun p q => p.2 < q.1
  bd : ∀ p ∈ b, Bd p
def joined (xs : List Spn) : List Spn := (srt xs).foldl stepJ []
end RG
end
section
set_option maxHeartbeats 1000000
namespace RG
open Mp
abbrev Row := Int × Int × List Spn
abbrev Blk := Int × Int × Int × Int
def pairs (es : List Int) : List (Int × Int) := es.zip es.tail
def addRow (f : List Row) (lo hi : Int) (sp : List Spn) : List Row := if sp = [] then f else match f.getLast? with
  | none => [(lo, hi, sp)]
  | some q => if q.2.1 = lo ∧ q.2.2 = sp then f.dropLast ++ [(q.1, hi, sp)] else f ++ [(lo, hi, sp)]
structure WR (R : List Row) : Prop where
  up : R.Pairwise fun p q => p.2.1 ≤ q.1
  row : ∀ r ∈ R, r.1 < r.2.1 ∧ r.2.2 ≠ [] ∧ Good r.2.2
def build (ps : List (Int × Int)) (F : Int → Int → List Spn) (f : List Row) : List Row := ps.foldl (fun f p => addRow f p.1 p.2 (F p.1 p.2)) f
theorem WR.nil : WR [] := ⟨by simp, by simp⟩
end RG
end
section
set_option maxHeartbeats 1000000
namespace RG
open Mp
def cv (s : List Spn) (x : Int) : Bool := s.any fun p => decide (p.1 ≤ x) && decide (x < p.2)
abbrev Keep := Bool × Bool × Bool
def tr (p q : Bool) (k : Keep) : Bool := (p && !q && k.1) || ((q && !p && k.2.1) || (p && q && k.2.2))
def ends (s : List Spn) : List Int := s.flatMap fun p => [p.1, p.2]
def spf (s t : List Spn) (k : Keep) : List Spn := (pairs (iSort (ends (s ++ t)))).filter fun p => tr (cv s p.1) (cv t p.1) k
def spansPut (s t : List Spn) (k : Keep) : List Spn := joined (spf s t k)
def spansAt : List Row → Int → List Spn
  | [], _ => []
  | r :: R, h => if r.1 ≤ h ∧ h < r.2.1 then r.2.2 else spansAt R h
theorem WR.tail {r : Row} {R : List Row} (h : WR (r :: R)) : WR R := ⟨(List.pairwise_cons.mp h.up).2, fun q hq => h.row q (List.mem_cons_of_mem _ hq)⟩
def hts (R : List Row) : List Int := R.flatMap fun r => [r.1, r.2.1]
def put (a b : List Row) (k : Keep) : List Row := build (pairs (iSort (hts (a ++ b)))) (fun lo _ => spansPut (spansAt a lo) (spansAt b lo) k) []
end RG
end
section
set_option maxHeartbeats 1000000
namespace RG
open Mp
def bhts (bl : List Blk) : List Int := bl.flatMap fun b => [b.2.1, b.2.2.2]
def bsp (bl : List Blk) (lo hi : Int) : List Spn := (bl.filter fun b => decide (b.2.1 ≤ lo) && decide (hi ≤ b.2.2.2)).map fun b => (b.1, b.2.2.1)
def region (bl : List Blk) : List Row := build (pairs (iSort (bhts bl))) (fun lo hi => joined (bsp bl lo hi)) []
def near (m x y u v : Int) : Prop := x - m ≤ u ∧ u ≤ x + m ∧ y - m ≤ v ∧ v ≤ y + m
def less (a b : List Row) : List Row := put a b (true, false, false)
def outside (R : List Row) (b : Blk) : List Row := less (region [b]) R
def un (f : List Pt) (ls : List (List Pt)) : List Pt := ls.foldl (fun f c => f ++ c.filter fun p => !decide (p ∈ f)) f
end RG
end
section
set_option maxHeartbeats 1000000
namespace RG
open Mp Ge
def hgt (bl : List Blk) (x : Int) : Int := mxL (0 :: (bl.filter fun b => decide (b.1 ≤ x) && decide (x < b.2.2.1)).map fun b => b.2.2.2)
def skyE (bl : List Blk) : List Int := iSort (bl.flatMap fun b => [b.1, b.2.2.1])
def skyStep (bl : List Blk) (f : List Pt) (x : Int) : List Pt := match f.getLast? with
  | none => f ++ [(x, hgt bl x)]
  | some q => if q.2 = hgt bl x then f else f ++ [(x, hgt bl x)]
def sky (bl : List Blk) : List Pt := (skyE bl).foldl (skyStep bl) []
section
variable {L m : Int} {bl : List Blk}
end
end RG
end
section
set_option maxRecDepth 100000
set_option maxHeartbeats 1000000
namespace Mp
open PySem L2
theorem anyL_all {α : Type} {gt : PV → MEnv → Option MEnv} {me : EM} {env : MEnv} {st : Sto} (f : α → PV) (p : α → Bool) : ∀ xs : List α, (∀ a ∈ xs, ∃ e1, gt (f a) env = some e1 ∧ me e1 st = .ok (.bl (p a)) st) → anyL gt tYesM me (xs.map f) env st = .ok (xs.any p) st
  | [], _ => rfl
  | a :: xs, h => by
    obtain ⟨e1, h1, h2⟩ := h a List.mem_cons_self
    have ih := anyL_all f p xs fun b hb => h b (List.mem_cons_of_mem _ hb)
    rw [List.map_cons]
    unfold anyL
    rw [h1]
    dsimp only
    show bindX (MRes.ok true st) _ = _
    rw [ev_bindX, if_pos rfl, h2, ev_bindX]
    cases q : p a with
    | true => simp [q]
    | false => simp [q, ih]
theorem anyG_ev {α : Type} {mi : AM} {gt : PV → MEnv → Option MEnv} {me : EM} {vs : List Nat} {env : MEnv} {st : Sto} (f : α → PV) (p : α → Bool) (xs : List α) (hi : mi env st = .ok (xs.map f) st) (hn : noOwn vs env = true) (h : ∀ a ∈ xs, ∃ e1, gt (f a) (killE vs env) = some e1 ∧ me e1 st = .ok (.bl (p a)) st) :
    mAnyG mi gt tYesM me vs env st = .ok (.bl (xs.any p)) st := by
  unfold mAnyG
  rw [hi, ev_bindR, if_pos hn, anyL_all f p xs h, ev_bindX]
theorem call_ok {n : Nat} {M : FM} {ms : AM} {env : MEnv} {st s : Sto} {args : List PV} {r : MRes PV} (h : ms env st = .ok args s) (hm : M args s = r) (hl : args.length = n := by rfl) : mCall n M ms env st = r := by
  rw [ev_call, h, ev_bindR, if_pos hl, hm]
theorem a1_ok {m : EM} {env : MEnv} {st s : Sto} {v : PV} (h : m env st = .ok v s) : aCons m aNil env st = .ok [v] s := by rw [ev_aCons, h]; rfl
theorem set_ok {i : Nat} {m : EM} {env : MEnv} {st s : Sto} {v : PV} (h : m env st = .ok v s) : sSet i m env st = .nx (env.set i (.pv v)) s := by rw [ev_set, h]; rfl
theorem ret_ok {m : EM} {env : MEnv} {st s : Sto} {v : PV} (h : m env st = .ok v s) : sRet m env st = .rt v s := by rw [ev_ret, h]; rfl
theorem expr_ok {m : EM} {env : MEnv} {st s : Sto} {v : PV} (h : m env st = .ok v s) : sExpr m env st = .nx env s := by rw [ev_expr, h]; rfl
theorem callB_ok {g : Sto → List PV → Option PV} {ms : AM} {env : MEnv} {st s : Sto} {args : List PV} {v : PV} (h : ms env st = .ok args s) (hg : g s args = some v) : mCallB g ms env st = .ok v s := by rw [ev_callB, h, ev_bindR, hg]; rfl
theorem a2_ok {m : EM} {ms : AM} {env : MEnv} {st s s2 : Sto} {v : PV} {vs : List PV} (h : m env st = .ok v s) (h2 : ms env s = .ok vs s2) : aCons m ms env st = .ok (v :: vs) s2 := by rw [ev_aCons, h, ev_bindR, h2]; rfl
end Mp
end
section
set_option maxRecDepth 100000
set_option maxHeartbeats 1000000
namespace Mp
open PySem L2
theorem tor_ok {a b : TM} {env : MEnv} {s s1 s2 : Sto} (ha : a env s = .ok false s1) (hb : b env s1 = .ok false s2) : tOrM a b env s = .ok false s2 := by
  rw [ev_or, ha, ev_bindR]; exact hb
theorem tnot_ok {a : TM} {env : MEnv} {s s1 : Sto} (ha : a env s = .ok true s1) : tNotM a env s = .ok false s1 := by
  rw [ev_not, ha]; rfl
theorem tval_ok {a : EM} {c : Bool} {env : MEnv} {s s1 : Sto} (ha : a env s = .ok (.bl c) s1) : tVal a env s = .ok c s1 := by
  rw [ev_val, ha]; rfl
theorem ifF_ok {t : TM} {a : SM} {env : MEnv} {s s1 : Sto} (h : t env s = .ok false s1) : sIf t a sNil env s = .nx env s1 := by rw [ev_if, h]; rfl
theorem ifT_ok {t : TM} {a b : SM} {env : MEnv} {s s1 : Sto} (h : t env s = .ok true s1) : sIf t a b env s = a env s1 := by rw [ev_if, h]; rfl
theorem ifE_ok {t : TM} {a b : SM} {env : MEnv} {s s1 : Sto} (h : t env s = .ok false s1) : sIf t a b env s = b env s1 := by rw [ev_if, h]; rfl
theorem bin_ok {g : PV → PV → Option PV} {a b : EM} {env : MEnv} {s s1 s2 : Sto} {x y z : PV} (ha : a env s = .ok x s1) (hb : b env s1 = .ok y s2) (h : g x y = some z) : mBin g a b env s = .ok z s2 := by
  rw [ev_bin, ha, ev_bindR, hb, ev_bindR, h]; rfl
theorem ix_ok {a b : EM} {env : MEnv} {s s1 s2 : Sto} {x y z : PV} (ha : a env s = .ok x s1) (hb : b env s1 = .ok y s2) (h : ixV s2 x y = some z) : mIx a b env s = .ok z s2 := by
  rw [ev_ix, ha, ev_bindR, hb, ev_bindR, h]; rfl
theorem tbin_ok {g : PV → PV → Option PV} {a b : EM} {env : MEnv} {s s1 s2 : Sto} {x y : PV} {c : Bool} (ha : a env s = .ok x s1) (hb : b env s1 = .ok y s2) (h : g x y = some (.bl c)) : tBin g a b env s = .ok c s2 := by
  rw [ev_tbin, ha, ev_bindR, hb, ev_bindR, h]
theorem tup_ok {ms : AM} {env : MEnv} {s s1 : Sto} {vs : List PV} (h : ms env s = .ok vs s1) (hl : vs.length ≤ 1000 := by simp) : mTup ms env s = .ok (.tup vs) s1 := by
  rw [ev_tup, h, ev_bindR, if_pos hl]
theorem asg_ok {gt : PV → MEnv → Option MEnv} {m : EM} {env e : MEnv} {s s1 : Sto} {v : PV} (h : m env s = .ok v s1) (hg : gt v env = some e) : sAsg gt m env s = .nx e s1 := by
  rw [ev_asg, h, ev_bindF, hg]
theorem eIf_ok {t : TM} {a b : EM} {env : MEnv} {s s1 : Sto} {c : Bool} (h : t env s = .ok c s1) : eIf t a b env s = if c then a env s1 else b env s1 := by
  rw [ev_eif, h, ev_bindR]
theorem mo_ok {i : Nat} {env : MEnv} {xs : List PV} {st : Sto} (h : env[i]? = some (.own (.lst xs))) : mOwn i env st = .ok (.lst xs) st := by unfold mOwn; rw [h]
theorem app_ok {i : Nat} {m : EM} {env : MEnv} {s s1 : Sto} {v : PV} {xs : List PV} (g : env[i]? = some (.own (.lst xs))) (h : m env s = .ok v s1) (hl : xs.length < 1000000) : sAppend i m env s = .nx (env.set i (.own (.lst (xs ++ [v])))) s1 := by
  unfold sAppend; simp only [g, h, ev_bindF, if_pos (show xs.length < big from hl)]
section
variable {k : Nat} {st js : Sto}
def Gk (k : Nat) (st : Sto) : Prop := Gs k st ∧ st.all okO = true
theorem Gs.app' (g : Gs k st) : Gs k (st ++ js) := fun i hi => by
  obtain ⟨a, b, c, h⟩ := g i hi
  exact ⟨a, b, c, by rw [List.getElem?_append_left (List.getElem?_eq_some_iff.mp h).1]; exact h⟩
theorem Gk.of {k : Nat} {st : Sto} (g : Ga k st) : Gk k st := ⟨g.2, g.ok⟩
end
end Mp
end
section
set_option maxRecDepth 100000
set_option maxHeartbeats 1000000
namespace Sp
open PySem L2 Mp Ge
def sdp (c : List Pt) : List (Pt × Pt) := (List.range c.length).map fun k => (c.getD k (0, 0), c.getD ((k + 1) % c.length) (0, 0))
def endsB (a b c d : Pt) : List Pt := [a, b].filter fun p => decide (p ∈ [c, d])
def fldB (a b c d : Pt) : Bool :=
  if (endsB a b c d).length ≠ 1 then true else
  let s := (endsB a b c d).headD (0, 0)
  onS s (if b = s then a else b) (if d = s then c else d) || onS s (if d = s then c else d) (if b = s then a else b)
def isPt (p : Pt) : Bool := (decide (-10000 ≤ p.1) && decide (p.1 ≤ 10000)) && (decide (-10000 ≤ p.2) && decide (p.2 ≤ 10000))
def gq (c : List Pt) (k : Nat) : Pt × Pt := (sdp c).getD k ((0, 0), (0, 0))
def badB (c : List Pt) (k j : Nat) : Bool := if j + 1 = k ∨ (j = 0 ∧ k + 1 = c.length) then fldB (gq c j).1 (gq c j).2 (gq c k).1 (gq c k).2 else meetB (gq c j).1 (gq c j).2 (gq c k).1 (gq c k).2
def shapeB (c : List Pt) : Bool := (decide (3 ≤ c.length) && decide (c.length ≤ 60)) && (c.all isPt && (!((sdp c).any fun s => decide (s.1 = s.2)) && (List.range c.length).all fun k => (List.range k).all fun j => !badB c k j))
theorem sdp_len (c : List Pt) : (sdp c).length = c.length := by simp [sdp]
theorem gq_eq {c : List Pt} {k : Nat} (h : k < c.length) : gq c k = (c.getD k (0, 0), c.getD ((k + 1) % c.length) (0, 0)) := by
  unfold gq sdp
  rw [List.getD_eq_getElem?_getD, List.getElem?_map, List.getElem?_range h]
  rfl
theorem bd_isPt {p : Pt} (h : Bd 10000 p) : isPt p = true := by obtain ⟨h1, h2, h3, h4⟩ := h; unfold isPt; simp [h1, h2, h3, h4]
end Sp
end
section
set_option maxRecDepth 100000
set_option maxHeartbeats 1000000
namespace K52
open PySem L2 Mp Ge Sp
section
variable {a b c d p : Pt} {st : Sto}
theorem less_ev : M_less [tp a, tp b] st = .ok (tp (ls a b)) st := by
  refine fnM_rt ?_
  show B_less [.pv (tp a), .pv (tp b)] st = _
  simp -implicitDefEqProofs [B_less, s_less_1, mVar, tp_mk, ls]
theorem cross_ev (h : Bd 100000 b) : M_cross [tp a, tp b] st = .ok (.int (crs a b)) st := by
  obtain ⟨h1, h2, h3, h4⟩ := h
  have m1 : pMul (.int a.1) (.int b.2) = some (.int (a.1 * b.2)) := mul_small (by omega)
  have m2 : pMul (.int a.2) (.int b.1) = some (.int (a.2 * b.1)) := mul_small (by omega)
  refine fnM_rt ?_
  show B_cross [.pv (tp a), .pv (tp b)] st = _
  simp -implicitDefEqProofs [B_cross, s_cross_1, mVar, m1, m2, crs]
theorem turn_ev (h : Bd 10000 a) (k : Bd 10000 c) : M_turn [tp a, tp b, tp c] st = .ok (.int (sg (tr a b c))) st := by
  refine fnM_rt ?_
  show B_turn [.pv (tp a), .pv (tp b), .pv (tp c), .un] st = _
  simp -implicitDefEqProofs [B_turn, s_turn_1, s_turn_2, mVar, less_ev, cross_ev ((k.ls h).le (by decide)), sub_bl, sg, tr]
  rfl
theorem between_ev (h : Bd 10000 a) (k : Bd 10000 p) : M_between [tp a, tp b, tp p] st = .ok (.bl (onS a b p)) st := by
  refine fnM_rt ?_
  show B_between [.pv (tp a), .pv (tp b), .pv (tp p), .un, .un] st = _
  by_cases z : tr a b p = 0
  · have z' : sg (tr a b p) = 0 := (sg0 _).mpr z
    have e1 : s_between_2 [.pv (tp a), .pv (tp b), .pv (tp p), .un, .un] st = .nx [.pv (tp a), .pv (tp b), .pv (tp p), .un, .un] st := by
      simp -implicitDefEqProofs [s_between_2, mVar, turn_ev h k, z']
    have e2 : s_between_3 [.pv (tp a), .pv (tp b), .pv (tp p), .un, .un] st = .nx [.pv (tp a), .pv (tp b), .pv (tp p), .pv (tp (mnP a b)), .pv (tp (mxP a b))] st := by
      simp -implicitDefEqProofs [s_between_3, vF, vNil, mVar, minD_tp, maxD_tp, setsE]
    have e3 : eChain cLe cLe (mIx (mVar 3) (mC (.int 0))) (mIx (mVar 2) (mC (.int 0))) (mIx (mVar 4) (mC (.int 0))) [.pv (tp a), .pv (tp b), .pv (tp p), .pv (tp (mnP a b)), .pv (tp (mxP a b))] st = .ok (.bl (decide (mn a.1 b.1 ≤ p.1) && decide (p.1 ≤ mx a.1 b.1))) st :=
      eChain_ev (x := .int (mn a.1 b.1)) (y := .int p.1) (z := .int (mx a.1 b.1)) (by simp [mVar, mnP_fst]) (by simp [mVar]) (by simp [mVar, mxP_fst]) cLe_int cLe_int
    have e4 : eChain cLe cLe (mCallB bMinD (aCons (mIx (mVar 0) (mC (.int 1))) (aCons (mIx (mVar 1) (mC (.int 1))) aNil))) (mIx (mVar 2) (mC (.int 1))) (mCallB bMaxD (aCons (mIx (mVar 0) (mC (.int 1))) (aCons (mIx (mVar 1) (mC (.int 1))) aNil))) [.pv (tp a), .pv (tp b), .pv (tp p), .pv (tp (mnP a b)), .pv (tp (mxP a b))] st = .ok (.bl (decide (mn a.2 b.2 ≤ p.2) && decide (p.2 ≤ mx a.2 b.2))) st :=
      eChain_ev (x := .int (mn a.2 b.2)) (y := .int p.2) (z := .int (mx a.2 b.2)) (by simp [mVar, minD_int]) (by simp [mVar]) (by simp [mVar, maxD_int]) cLe_int cLe_int
    rw [B_between, seq_nx e1, seq_nx e2]
    unfold s_between_4
    rw [ev_ret, ev_eAnd, e3]
    unfold onS inB
    rw [decide_eq_true z]
    cases q : (decide (mn a.1 b.1 ≤ p.1) && decide (p.1 ≤ mx a.1 b.1)) with
    | true => simp [e4]
    | false => simp
  · have z' : ¬ sg (tr a b p) = 0 := fun y => z ((sg0 _).mp y)
    simp -implicitDefEqProofs [B_between, s_between_1, s_between_2, mVar, turn_ev h k, z', onS, z]
theorem whole_ev {i lo hi : Int} : M_is_whole [.int i, .int lo, .int hi] st = .ok (.bl (decide (lo ≤ i) && decide (i ≤ hi))) st := by
  have b2 : isiB "int" (.int i) = true := rfl
  have b3 : isiB "bool" (.int i) = false := rfl
  have e := eChain_ev (env := [.pv (.int i), .pv (.int lo), .pv (.int hi)]) (g := cLe) (g' := cLe) (ma := mVar 1) (mb := mVar 0) (mc := mVar 2) (s := st) (x := .int lo) (y := .int i) (z := .int hi) (by simp [mVar]) (by simp [mVar]) (by simp [mVar]) cLe_int cLe_int
  refine fnM_rt ?_
  show B_is_whole [.pv (.int i), .pv (.int lo), .pv (.int hi)] st = _
  have m0 : mVar 0 [.pv (.int i), .pv (.int lo), .pv (.int hi)] st = .ok (.int i) st := rfl
  simp -implicitDefEqProofs [B_is_whole, s_is_whole_1, m0, b2, b3, e]
theorem or_ev {env : MEnv} {ma mb : EM} {s : Sto} {x y : Bool} (h1 : ma env s = .ok (.bl x) s) (h2 : mb env s = .ok (.bl y) s) : eOr ma mb env s = .ok (.bl (x || y)) s := by
  rw [ev_eOr, h1]
  cases x with
  | true => simp
  | false => simp [h2]
theorem and_ev {env : MEnv} {ma mb : EM} {s : Sto} {x y : Bool} (h1 : ma env s = .ok (.bl x) s) (h2 : mb env s = .ok (.bl y) s) : eAnd ma mb env s = .ok (.bl (x && y)) s := by
  rw [ev_eAnd, h1]
  cases x with
  | true => simp [h2]
  | false => simp
theorem sg_small (i : Int) : -2 < sg i ∧ sg i < 2 := by
  unfold sg Mp.bi
  by_cases h1 : 0 < i <;> by_cases h2 : i < 0 <;> simp [h1, h2] <;> omega
theorem mul_sg (i j : Int) : pMul (.int (sg i)) (.int (sg j)) = some (.int (sg i * sg j)) := mul_small (by have := sg_small j; omega)
def sv (a b : Pt) : PV := .tup [tp a, tp b]
theorem meet_ev (ha : Bd 10000 a) (hb : Bd 10000 b) (hc : Bd 10000 c) (hd : Bd 10000 d) : M_do_meet [sv a b, sv c d] st = .ok (.bl (meetB a b c d)) st := by
  refine fnM_rt ?_
  show B_do_meet [.pv (sv a b), .pv (sv c d), .un, .un, .un, .un, .un, .un, .un, .un] st = _
  have e1 : s_do_meet_1 [.pv (sv a b), .pv (sv c d), .un, .un, .un, .un, .un, .un, .un, .un] st = .nx [.pv (sv a b), .pv (sv c d), .pv (tp a), .pv (tp b), .pv (tp c), .pv (tp d), .un, .un, .un, .un] st := rfl
  have e2 : s_do_meet_2 [.pv (sv a b), .pv (sv c d), .pv (tp a), .pv (tp b), .pv (tp c), .pv (tp d), .un, .un, .un, .un] st = .nx [.pv (sv a b), .pv (sv c d), .pv (tp a), .pv (tp b), .pv (tp c), .pv (tp d), .pv (.int (sg (tr a b c))), .pv (.int (sg (tr a b d))), .pv (.int (sg (tr c d a))), .pv (.int (sg (tr c d b)))] st := by
    simp -implicitDefEqProofs [s_do_meet_2, mVar, turn_ev ha hc, turn_ev ha hd, turn_ev hc ha, turn_ev hc hb, gTp, gConsM, gNilM]
  rw [B_do_meet, seq_nx e1, seq_nx e2]
  unfold meetB xB
  by_cases z : sg (tr a b c) * sg (tr a b d) < 0 ∧ sg (tr c d a) * sg (tr c d b) < 0
  · simp -implicitDefEqProofs [s_do_meet_4, s_do_meet_3, mVar, mul_sg, z.1, z.2]
  · have e4 : s_do_meet_4 [.pv (sv a b), .pv (sv c d), .pv (tp a), .pv (tp b), .pv (tp c), .pv (tp d), .pv (.int (sg (tr a b c))), .pv (.int (sg (tr a b d))), .pv (.int (sg (tr c d a))), .pv (.int (sg (tr c d b)))] st = .nx [.pv (sv a b), .pv (sv c d), .pv (tp a), .pv (tp b), .pv (tp c), .pv (tp d), .pv (.int (sg (tr a b c))), .pv (.int (sg (tr a b d))), .pv (.int (sg (tr c d a))), .pv (.int (sg (tr c d b)))] st := by
      refine if_skip ?_
      by_cases y : sg (tr a b c) * sg (tr a b d) < 0
      · have : ¬ sg (tr c d a) * sg (tr c d b) < 0 := fun w => z ⟨y, w⟩
        simp -implicitDefEqProofs [mVar, mul_sg, y, this]
      · simp -implicitDefEqProofs [mVar, mul_sg, y]
    rw [seq_nx e4]
    have zb : (decide (sg (tr a b c) * sg (tr a b d) < 0) && decide (sg (tr c d a) * sg (tr c d b) < 0)) = false := by
      rw [Bool.and_eq_false_iff]
      by_cases y : sg (tr a b c) * sg (tr a b d) < 0
      · right; simpa using fun w => z ⟨y, w⟩
      · left; simpa using y
    rw [zb, Bool.false_or]
    unfold s_do_meet_5
    rw [ev_ret, or_ev (x := onS a b c) (y := onS a b d || (onS c d a || onS c d b)) (by simp -implicitDefEqProofs [mVar, between_ev ha hc]) (or_ev (by simp -implicitDefEqProofs [mVar, between_ev ha hd]) (or_ev (by simp -implicitDefEqProofs [mVar, between_ev hc ha]) (by simp -implicitDefEqProofs [mVar, between_ev hc hb])))]
    rfl
theorem pt_ev : M_is_point [tp p] st = .ok (.bl (isPt p)) st := by
  have b1 : isiO "tuple" (tp p) = some (.bl true) := rfl
  have b4 : ∀ s, bLen s [tp p] = some (.int 2) := fun _ => rfl
  have b5 : ∀ s, iSeq (mVar 0) [.pv (tp p), .un] s = .ok [.int p.1, .int p.2] s := fun _ => rfl
  refine fnM_rt ?_
  show B_is_point [.pv (tp p), .un] st = _
  have A := allG_ev (mi := iSeq (mVar 0)) (gt := gNm 1) (me := mCall 3 M_is_whole (aCons (mVar 1) (aCons (mUn pNeg (mC (.int 10000))) (aCons (mC (.int 10000)) aNil)))) (vs := [1]) (env := [.pv (tp p), .un]) (st := st) PV.int (fun i => decide (-10000 ≤ i) && decide (i ≤ 10000)) [p.1, p.2] (b5 _) rfl fun i _ => ⟨_, rfl, call_ok (a2_ok rfl (a2_ok rfl (a1_ok rfl))) whole_ev⟩
  have e : isPt p = [p.1, p.2].all (fun i => decide (-10000 ≤ i) && decide (i ≤ 10000)) := by unfold isPt; simp
  rw [e]
  simp -implicitDefEqProofs only [B_is_point, s_is_point_1]
  rw [ev_ret, ev_eAnd]
  simp -implicitDefEqProofs [mVar, b1, b4, A]
theorem sides_ev {c : List Pt} (hl : c.length ≤ 1000) : M_sides [.tup (c.map tp)] st = .ok (.tup ((sdp c).map fun s => sv s.1 s.2)) st := by
  refine fnM_rt ?_
  show B_sides [.pv (.tup (c.map tp)), .un] st = _
  have L : ∀ s, bLen s [.tup (c.map tp)] = some (.int (c.length : Int)) := fun s => by rw [lenT, List.length_map]
  have C := mComp_all (mi := iRng1M (aCons (mCallB bLen (aCons (mVar 0) aNil)) aNil)) (gt := gNm 1) (me := mTup (aCons (mIx (mVar 0) (mVar 1)) (aCons (mIx (mVar 0) (mBin pMod (mBin pAdd (mVar 1) (mC (.int 1))) (mCallB bLen (aCons (mVar 0) aNil)))) aNil))) (vs := [1]) (env := [.pv (.tup (c.map tp)), .un]) (st := st)
    (fun (k : Nat) => .int (k : Int)) (fun k => sv (c.getD k (0, 0)) (c.getD ((k + 1) % c.length) (0, 0))) (List.range c.length) (rng1_ev (a1_ok (callB_ok (a1_ok rfl) (L _))) (by omega)) rfl (by simp; omega) (fun k hk => by
      have hk := List.mem_range.mp hk
      refine ⟨_, rfl, ?_⟩
      have hm : (k + 1) % c.length < c.length := Nat.mod_lt _ (by omega)
      have at_ : ∀ i, i < c.length → ∀ s, ixV s (.tup (c.map tp)) (.int (i : Int)) = some (tp (c.getD i (0, 0))) := fun i hi s => ixT (by rw [List.getElem?_map, List.getD_eq_getElem?_getD, List.getElem?_eq_getElem hi]; rfl)
      exact tup_ok (a2_ok (ix_ok rfl rfl (at_ k hk _)) (a1_ok (ix_ok (y := .int ((k + 1) % c.length : Nat)) rfl (bin_ok (bin_ok rfl rfl rfl) (callB_ok (a1_ok rfl) (L _)) (by
        refine (pMod_int (by omega)).trans ?_
        rw [Int.fmod_eq_emod_of_nonneg _ (by omega), show ((k : Int) + 1) = ((k + 1 : Nat) : Int) by omega]
        rfl)) (at_ _ hm _)))))
  rw [B_sides, s_sides_1, ret_ok (callB_ok (a1_ok C) rfl)]
  unfold sdp
  rw [List.map_map]
  rfl
end
end K52
end
section
set_option maxRecDepth 100000
set_option maxHeartbeats 1000000
namespace K52
open PySem L2 Mp Ge Sp
section
variable {a b c d p : Pt} {st : Sto}
theorem folds_ev (ha : Bd 10000 a) (hb : Bd 10000 b) (hc : Bd 10000 c) (hd : Bd 10000 d) : M_folds [sv a b, sv c d] st = .ok (.bl (fldB a b c d)) st := by
  refine fnM_rt ?_
  show B_folds [.pv (sv a b), .pv (sv c d), .un, .un, .un, .un, .un] st = _
  have e1 : s_folds_1 [.pv (sv a b), .pv (sv c d), .un, .un, .un, .un, .un] st = .nx [.pv (sv a b), .pv (sv c d), .pv (.lst ((endsB a b c d).map tp)), .un, .un, .un, .un] st := by
    have C := mComp_map (mi := iSeq (mVar 0)) (gt := gNm 6) (tc := tBin cIn (mVar 6) (mVar 1)) (me := mVar 6) (vs := [6]) (env := [.pv (sv a b), .pv (sv c d), .un, .un, .un, .un, .un]) (st := st) tp (fun p => decide (p ∈ [c, d])) tp [a, b] (seqT_ev rfl) rfl (by simp) fun p _ => ⟨_, rfl, tbin_ok (x := tp p) (y := .tup ([c, d].map tp)) rfl rfl (cIn_ttps p [c, d]), fun _ => rfl⟩
    exact set_ok C
  rw [B_folds, seq_nx e1]
  have L : ∀ s, bLen s [.lst ((endsB a b c d).map tp)] = some (.int ((endsB a b c d).length : Int)) := fun s => by rw [lenL, List.length_map]
  unfold fldB
  by_cases z : (endsB a b c d).length ≠ 1
  · rw [if_pos z]
    have z' : ¬ ((endsB a b c d).length : Int) = 1 := by omega
    simp -implicitDefEqProofs [s_folds_3, s_folds_2, mVar, L, z']
  · rw [if_neg z]
    have z' : ((endsB a b c d).length : Int) = 1 := by omega
    obtain ⟨s, hs⟩ : ∃ s, endsB a b c d = [s] := List.length_eq_one_iff.mp (by omega)
    have hm : s ∈ [a, b] := (List.mem_filter.mp (show s ∈ endsB a b c d by rw [hs]; simp)).1
    have bs : Bd 10000 s := by
      simp at hm
      rcases hm with rfl | rfl
      · exact ha
      · exact hb
    have e3 : s_folds_3 [.pv (sv a b), .pv (sv c d), .pv (.lst ((endsB a b c d).map tp)), .un, .un, .un, .un] st = .nx [.pv (sv a b), .pv (sv c d), .pv (.lst ((endsB a b c d).map tp)), .un, .un, .un, .un] st := by
      refine if_skip ?_
      simp -implicitDefEqProofs [mVar, L, z']
    rw [seq_nx e3, hs]
    dsimp only [List.headD_cons]
    have i0 : ∀ (x y : Pt) (s : Sto), ixV s (sv x y) (.int 0) = some (tp x) := fun _ _ _ => rfl
    have i1 : ∀ (x y : Pt) (s : Sto), ixV s (sv x y) (.int 1) = some (tp y) := fun _ _ _ => rfl
    have e4 : s_folds_4 [.pv (sv a b), .pv (sv c d), .pv (.lst ([s].map tp)), .un, .un, .un, .un] st = .nx [.pv (sv a b), .pv (sv c d), .pv (.lst ([s].map tp)), .pv (tp s), .un, .un, .un] st := rfl
    have e5 : s_folds_5 [.pv (sv a b), .pv (sv c d), .pv (.lst ([s].map tp)), .pv (tp s), .un, .un, .un] st = .nx [.pv (sv a b), .pv (sv c d), .pv (.lst ([s].map tp)), .pv (tp s), .pv (tp (if b = s then a else b)), .un, .un] st := by
      refine set_ok ?_
      rw [eIf_ok (c := decide (b = s)) (tbin_ok (ix_ok rfl rfl (i1 a b _)) rfl (cEq_tp b s))]
      by_cases h : b = s
      · rw [if_pos h]; simp only [h, decide_true, if_true]; exact ix_ok rfl rfl (i0 a s _)
      · rw [if_neg h]; simp only [h, decide_false]; exact ix_ok rfl rfl (i1 a b _)
    have e6 : s_folds_6 [.pv (sv a b), .pv (sv c d), .pv (.lst ([s].map tp)), .pv (tp s), .pv (tp (if b = s then a else b)), .un, .un] st = .nx [.pv (sv a b), .pv (sv c d), .pv (.lst ([s].map tp)), .pv (tp s), .pv (tp (if b = s then a else b)), .pv (tp (if d = s then c else d)), .un] st := by
      refine set_ok ?_
      rw [eIf_ok (c := decide (d = s)) (tbin_ok (ix_ok rfl rfl (i1 c d _)) rfl (cEq_tp d s))]
      by_cases h : d = s
      · rw [if_pos h]; simp only [h, decide_true, if_true]; exact ix_ok rfl rfl (i0 c s _)
      · rw [if_neg h]; simp only [h, decide_false]; exact ix_ok rfl rfl (i1 c d _)
    rw [seq_nx e4, seq_nx e5, seq_nx e6]
    have b1 : Bd 10000 (if b = s then a else b) := by split <;> assumption
    have b2 : Bd 10000 (if d = s then c else d) := by split <;> assumption
    generalize (if b = s then a else b) = x at b1
    generalize (if d = s then c else d) = y at b2
    exact ret_ok (or_ev (call_ok (a2_ok rfl (a2_ok rfl (a1_ok rfl))) (between_ev bs b2)) (call_ok (a2_ok rfl (a2_ok rfl (a1_ok rfl))) (between_ev bs b1)))
theorem gq_bd {c : List Pt} (h : ∀ p ∈ c, Bd 10000 p) {k : Nat} : Bd 10000 (gq c k).1 ∧ Bd 10000 (gq c k).2 := by
  have z : Bd 10000 (0, 0) := ⟨by decide, by decide, by decide, by decide⟩
  have hg : ∀ i, Bd 10000 (c.getD i (0, 0)) := fun i => by
    rw [List.getD_eq_getElem?_getD]
    cases q : c[i]? with
    | none => exact z
    | some v => exact h v (List.mem_of_getElem? q)
  by_cases hk : k < c.length
  · rw [gq_eq hk]; exact ⟨hg _, hg _⟩
  · unfold gq
    rw [List.getD_eq_getElem?_getD, List.getElem?_eq_none (by rw [sdp_len]; omega)]
    exact ⟨z, z⟩
theorem gq_at {c : List Pt} {k : Nat} (hk : k < c.length) (s : Sto) : ixV s (.tup ((sdp c).map fun s => sv s.1 s.2)) (.int (k : Int)) = some (sv (gq c k).1 (gq c k).2) := by
  refine ixT ?_
  unfold gq
  rw [List.getElem?_map, List.getD_eq_getElem?_getD, List.getElem?_eq_getElem (by rw [sdp_len]; exact hk)]
  rfl
theorem shape_ev {c : List Pt} (hl : c.length ≤ 1000) : M_is_shape [.tup (c.map tp)] st = .ok (.bl (shapeB c)) st := by
  refine fnM_rt ?_
  show B_is_shape [.pv (.tup (c.map tp)), .un, .un, .un, .un, .un, .un] st = _
  have L : ∀ s, bLen s [.tup (c.map tp)] = some (.int (c.length : Int)) := fun s => by rw [lenT, List.length_map]
  have LS : ∀ s, bLen s [.tup ((sdp c).map fun s => sv s.1 s.2)] = some (.int (c.length : Int)) := fun s => by rw [lenT, List.length_map, sdp_len]
  have b1 : isiO "tuple" (.tup (c.map tp)) = some (.bl true) := rfl
  have A := allG_ev (mi := iSeq (mVar 0)) (gt := gNm 6) (me := mCall 1 M_is_point (aCons (mVar 6) aNil)) (vs := [6]) (env := [.pv (.tup (c.map tp)), .un, .un, .un, .un, .un, .un]) (st := st) tp isPt c (seqT_ev rfl) rfl fun p _ => ⟨_, rfl, call_ok (a1_ok rfl) pt_ev⟩
  unfold shapeB
  rw [B_is_shape]
  by_cases h1 : 3 ≤ c.length ∧ c.length ≤ 60
  case neg =>
    have z : (decide (3 ≤ c.length) && decide (c.length ≤ 60)) = false := by
      rw [Bool.and_eq_false_iff, decide_eq_false_iff_not, decide_eq_false_iff_not]; omega
    rw [z, Bool.false_and]
    have e2 : s_is_shape_2 [.pv (.tup (c.map tp)), .un, .un, .un, .un, .un, .un] st = .rt (.bl false) st := by
      by_cases h3 : 3 ≤ c.length
      · have k1 : (3 : Int) ≤ (c.length : Int) := by omega
        have k2 : ¬ (c.length : Int) ≤ 60 := by omega
        simp -implicitDefEqProofs [s_is_shape_2, s_is_shape_1, mVar, b1, L, k1, k2]
      · have k1 : ¬ (3 : Int) ≤ (c.length : Int) := by omega
        simp -implicitDefEqProofs [s_is_shape_2, s_is_shape_1, mVar, b1, L, k1]
    exact seq_rt e2
  case pos =>
  have z : (decide (3 ≤ c.length) && decide (c.length ≤ 60)) = true := by
    rw [Bool.and_eq_true, decide_eq_true_eq, decide_eq_true_eq]; exact h1
  rw [z, Bool.true_and]
  have k1 : (3 : Int) ≤ (c.length : Int) := by omega
  have k2 : (c.length : Int) ≤ 60 := by omega
  cases hp : c.all isPt with
  | false =>
    have e2 : s_is_shape_2 [.pv (.tup (c.map tp)), .un, .un, .un, .un, .un, .un] st = .rt (.bl false) st := by
      simp -implicitDefEqProofs [s_is_shape_2, s_is_shape_1, mVar, b1, L, k1, k2, A, hp]
    rw [Bool.false_and]
    exact seq_rt e2
  | true =>
    have e2 : s_is_shape_2 [.pv (.tup (c.map tp)), .un, .un, .un, .un, .un, .un] st = .nx [.pv (.tup (c.map tp)), .un, .un, .un, .un, .un, .un] st := by
      simp -implicitDefEqProofs [s_is_shape_2, s_is_shape_1, mVar, b1, L, k1, k2, A, hp]
    have bd : ∀ p ∈ c, Bd 10000 p := fun p hm => by
      have := List.all_eq_true.mp hp p hm
      unfold isPt at this
      simp at this
      exact ⟨this.1.1, this.1.2, this.2.1, this.2.2⟩
    let E : MEnv := [.pv (.tup (c.map tp)), .pv (.tup ((sdp c).map fun s => sv s.1 s.2)), .un, .un, .un, .un, .un]
    have e3 : s_is_shape_3 [.pv (.tup (c.map tp)), .un, .un, .un, .un, .un, .un] st = .nx E st := set_ok (call_ok (a1_ok rfl) (sides_ev hl))
    rw [seq_nx e2, seq_nx e3, Bool.true_and]
    have N := anyG_ev (mi := iSeq (mVar 1)) (gt := gTp 2 (gConsM (gNm 4) (gConsM (gNm 5) gNilM))) (me := mBin cEq (mVar 4) (mVar 5)) (vs := [4, 5]) (env := E) (st := st) (fun (s : Pt × Pt) => sv s.1 s.2) (fun s => decide (s.1 = s.2)) (sdp c) (seqT_ev rfl) rfl fun s _ => ⟨_, rfl, bin_ok rfl rfl (cEq_tp s.1 s.2)⟩
    cases hn : (sdp c).any fun s => decide (s.1 = s.2) with
    | true =>
      have e4 : s_is_shape_4 E st = .rt (.bl false) st := by
        rw [hn] at N
        exact (ifT_ok (tval_ok N)).trans rfl
      exact seq_rt e4
    | false =>
      have e4 : s_is_shape_4 E st = .nx E st := by
        rw [hn] at N
        exact ifF_ok (tval_ok N)
      rw [seq_nx e4]
      have inner : ∀ k, k < c.length → forL (gNm 3) s_is_shape_7 [3] ((List.range k).map fun (j : Nat) => PV.int (j : Int)) [.pv (.tup (c.map tp)), .pv (.tup ((sdp c).map fun s => sv s.1 s.2)), .pv (.int (k : Int)), .un, .un, .un, .un] st = match (List.range k).find? (badB c k) with | some a => .rt (.bl false) st | none => .nx [.pv (.tup (c.map tp)), .pv (.tup ((sdp c).map fun s => sv s.1 s.2)), .pv (.int (k : Int)), .un, .un, .un, .un] st := fun k hk =>
        (forL_find (gt := gNm 3) (body := s_is_shape_7) (ks := [3]) (env := [.pv (.tup (c.map tp)), .pv (.tup ((sdp c).map fun s => sv s.1 s.2)), .pv (.int (k : Int)), .un, .un, .un, .un]) (st := st) (fun (j : Nat) => PV.int (j : Int)) (badB c k) (fun _ => .bl false) (List.range k) fun j hj => by
          have hj := List.mem_range.mp hj
          let F : MEnv := [.pv (.tup (c.map tp)), .pv (.tup ((sdp c).map fun s => sv s.1 s.2)), .pv (.int (k : Int)), .pv (.int (j : Int)), .un, .un, .un]
          have body : s_is_shape_7 F st = if badB c k j then .rt (.bl false) st else .nx F st := by
            have q1 : mIx (mVar 1) (mVar 3) F st = .ok (sv (gq c j).1 (gq c j).2) st := ix_ok rfl rfl (gq_at (by omega) _)
            have q2 : mIx (mVar 1) (mVar 2) F st = .ok (sv (gq c k).1 (gq c k).2) st := ix_ok rfl rfl (gq_at hk _)
            have fl : mCall 2 M_folds (aCons (mIx (mVar 1) (mVar 3)) (aCons (mIx (mVar 1) (mVar 2)) aNil)) F st = .ok (.bl (fldB (gq c j).1 (gq c j).2 (gq c k).1 (gq c k).2)) st := call_ok (a2_ok q1 (a1_ok q2)) (folds_ev (gq_bd bd).1 (gq_bd bd).2 (gq_bd bd).1 (gq_bd bd).2)
            have mt : mCall 2 M_do_meet (aCons (mIx (mVar 1) (mVar 3)) (aCons (mIx (mVar 1) (mVar 2)) aNil)) F st = .ok (.bl (meetB (gq c j).1 (gq c j).2 (gq c k).1 (gq c k).2)) st := call_ok (a2_ok q1 (a1_ok q2)) (meet_ev (gq_bd bd).1 (gq_bd bd).2 (gq_bd bd).1 (gq_bd bd).2)
            have test : tOrM (tBin cEq (mVar 3) (mBin pSub (mVar 2) (mC (.int 1)))) (tAndM (tBin cEq (mVar 3) (mC (.int 0))) (tBin cEq (mVar 2) (mBin pSub (mCallB bLen (aCons (mVar 1) aNil)) (mC (.int 1))))) F st = .ok (decide (j + 1 = k ∨ (j = 0 ∧ k + 1 = c.length))) st := by
              by_cases w1 : j + 1 = k
              · have w1' : (j : Int) = (k : Int) - 1 := by omega
                simp -implicitDefEqProofs [F, mVar, LS, w1, w1']
              · have w1' : ¬ (j : Int) = (k : Int) - 1 := by omega
                by_cases w2 : j = 0
                · by_cases w3 : k + 1 = c.length
                  · have w3' : (k : Int) = (c.length : Int) - 1 := by omega
                    simp -implicitDefEqProofs [F, mVar, LS, w1', w2, w3, w3']
                  · have w3' : ¬ (k : Int) = (c.length : Int) - 1 := by omega
                    have w4 : ¬ 1 = k := by omega
                    have w5 : ¬ (0 : Int) = (k : Int) - 1 := by omega
                    simp -implicitDefEqProofs [F, mVar, LS, w2, w3, w3', w4, w5]
                · have w2' : ¬ (j : Int) = 0 := by omega
                  simp -implicitDefEqProofs [F, mVar, LS, w1, w1', w2, w2']
            unfold badB
            by_cases w : j + 1 = k ∨ (j = 0 ∧ k + 1 = c.length)
            · rw [if_pos w]
              rw [decide_eq_true w] at test
              refine (ifT_ok test).trans ?_
              cases q : fldB (gq c j).1 (gq c j).2 (gq c k).1 (gq c k).2 with
              | true => rw [q] at fl; exact (ifT_ok (tval_ok fl)).trans rfl
              | false => rw [q] at fl; exact ifF_ok (tval_ok fl)
            · rw [if_neg w]
              rw [decide_eq_false w] at test
              refine (ifE_ok test).trans ?_
              cases q : meetB (gq c j).1 (gq c j).2 (gq c k).1 (gq c k).2 with
              | true => rw [q] at mt; exact (ifT_ok (tval_ok mt)).trans rfl
              | false => rw [q] at mt; exact ifF_ok (tval_ok mt)
          exact ⟨F, rfl, fun q => ⟨F, by rw [body, q]; rfl, rfl⟩, fun q => by rw [body, q]; rfl⟩).trans (by cases (List.range k).find? (badB c k) <;> rfl)
      have outer : s_is_shape_9 E st = match (List.range c.length).find? (fun k => (List.range k).any (badB c k)) with | some a => .rt (.bl false) st | none => .nx E st := by
        refine (for_ev (rng1_ev (a1_ok (callB_ok (a1_ok rfl) (LS _))) (by omega))).trans ?_
        refine (forL_find (gt := gNm 2) (body := s_is_shape_8) (ks := [2, 3]) (env := E) (st := st) (fun (j : Nat) => PV.int (j : Int)) (fun k => (List.range k).any (badB c k)) (fun _ => .bl false) (List.range c.length) fun k hk => ?_).trans (by cases (List.range c.length).find? (fun k => (List.range k).any (badB c k)) <;> rfl)
        have hk := List.mem_range.mp hk
        let F : MEnv := [.pv (.tup (c.map tp)), .pv (.tup ((sdp c).map fun s => sv s.1 s.2)), .pv (.int (k : Int)), .un, .un, .un, .un]
        have body : s_is_shape_8 F st = match (List.range k).find? (badB c k) with | some a => .rt (.bl false) st | none => .nx F st := (for_ev (rng1_ev (a1_ok rfl) (by omega))).trans (inner k hk)
        refine ⟨F, rfl, fun q => ⟨F, ?_, rfl⟩, fun q => ?_⟩
        · have : (List.range k).find? (badB c k) = none := List.find?_eq_none.mpr fun j hj => by
            have := List.any_eq_false.mp q j hj
            simpa using this
          rw [body, this]
        · obtain ⟨j, hj, w⟩ := List.any_eq_true.mp q
          cases f : (List.range k).find? (badB c k) with
          | none => exact absurd w (List.find?_eq_none.mp f j hj)
          | some x => rw [body, f]
      have fin : ((List.range c.length).all fun k => (List.range k).all fun j => !badB c k j) = !((List.range c.length).any fun k => (List.range k).any (badB c k)) := by
        rw [List.not_any_eq_all_not]
        congr 1
        funext k
        rw [List.not_any_eq_all_not]
      rw [fin]
      cases f : (List.range c.length).find? (fun k => (List.range k).any (badB c k)) with
      | none =>
        have : ((List.range c.length).any fun k => (List.range k).any (badB c k)) = false := List.any_eq_false.mpr fun k hk => by
          have := List.find?_eq_none.mp f k hk
          simpa using this
        rw [f] at outer
        rw [seq_nx outer, this]
        rfl
      | some x =>
        have hx := List.find?_some f
        have hm := List.mem_of_find?_eq_some f
        have : ((List.range c.length).any fun k => (List.range k).any (badB c k)) = true := List.any_eq_true.mpr ⟨x, hm, hx⟩
        rw [f] at outer
        rw [seq_rt outer, this]
        rfl
end
end K52
end
section
set_option maxRecDepth 100000
set_option maxHeartbeats 1000000
namespace Tel
open PySem L2 TL NumText
def dig (c : Nat) : Bool := decide (48 ≤ c ∧ c ≤ 57)
def numT (i : Int) : List Nat := if i < 0 then 45 :: numL i.natAbs else numL i.natAbs
def bareT (t : List Nat) : List Nat := if t.take 1 = [45] then t.drop 1 else t
def valT (t : List Nat) : Int := if t.take 1 = [45] then -((digitsVal (t.drop 1) : Nat) : Int) else ((digitsVal t : Nat) : Int)
def isNumT (t : List Nat) : Bool :=
  decide (1 ≤ (bareT t).length ∧ (bareT t).length ≤ 5) && (bareT t).all dig && ((decide ((bareT t).head? ≠ some 48) || decide (bareT t = [48])) && decide (t ≠ [45, 48]))
theorem all_digits {l : List Nat} : l.all dig = true ↔ AllDigits l := by
  rw [List.all_eq_true]
  refine ⟨fun h c hc => ?_, fun h c hc => ?_⟩
  · have := h c hc; unfold dig at this; simpa using this
  · have := h c hc; unfold dig; simpa using this
theorem numL_head {n : Nat} : (numL n).head? ≠ some 48 ∨ numL n = [48] := by
  induction n using Nat.strongRecOn with
  | _ n ih =>
    by_cases h : n < 10
    · rw [numL_lt h]
      by_cases h0 : n = 0
      · subst h0; exact .inr rfl
      · left; simp; omega
    · rw [numL_step (by omega)]
      have hne := numL_ne (n / 10)
      have e : (numL (n / 10) ++ [48 + n % 10]).head? = (numL (n / 10)).head? := by
        cases q : numL (n / 10) with
        | nil => exact absurd q hne
        | cons a r => rfl
      rcases ih (n / 10) (by omega) with k | k
      · left; rw [e]; exact k
      · exfalso
        have z : n / 10 = 0 := numL_inj (k.trans (numL_lt (by decide : (0 : Nat) < 10)).symm)
        omega
theorem numL_no45 (n : Nat) : (numL n).take 1 ≠ [45] := by
  intro h
  have hm : 45 ∈ numL n := List.mem_of_mem_take (i := 1) (by rw [h]; simp)
  exact numL_free (by omega) hm
theorem num_isNum {i : Int} (h : -99999 ≤ i ∧ i ≤ 99999) : isNumT (numT i) = true ∧ valT (numT i) = i := by
  have hl : (numL i.natAbs).length ≤ 5 := numL_len (by decide) (by omega)
  have h1 : 1 ≤ (numL i.natAbs).length := by
    have := numL_ne i.natAbs
    cases q : numL i.natAbs with
    | nil => exact absurd q this
    | cons a r => simp
  have hd := all_digits.mpr (numL_digits i.natAbs)
  by_cases hi : i < 0
  · have e : numT i = 45 :: numL i.natAbs := if_pos hi
    have eb : bareT (numT i) = numL i.natAbs := by rw [e]; rfl
    constructor
    · unfold isNumT
      rw [eb, hd]
      simp only [Bool.and_eq_true, Bool.or_eq_true, decide_eq_true_eq]
      refine ⟨⟨⟨h1, hl⟩, trivial⟩, numL_head, ?_⟩
      rw [e]
      intro z
      have z : numL i.natAbs = [48] := by injection z
      have := numL_inj (z.trans (numL_lt (by decide : (0 : Nat) < 10)).symm)
      omega
    · rw [e]
      show -((digitsVal (numL i.natAbs) : Nat) : Int) = i
      rw [numL_val]; omega
  · have e : numT i = numL i.natAbs := if_neg hi
    have eb : bareT (numT i) = numL i.natAbs := by rw [e]; exact if_neg (numL_no45 _)
    constructor
    · unfold isNumT
      rw [eb, hd]
      simp only [Bool.and_eq_true, Bool.or_eq_true, decide_eq_true_eq]
      refine ⟨⟨⟨h1, hl⟩, trivial⟩, numL_head, ?_⟩
      rw [e]
      intro z
      exact numL_no45 i.natAbs (by rw [z]; rfl)
    · rw [e]
      unfold valT
      rw [if_neg (numL_no45 _), numL_val]; omega
theorem par_back (S : List Nat) : ∀ (l acc a b : List Nat), par S acc l = some (a, b) → acc ++ l = a ++ S ++ b
  | [], _, _, _, h => by cases h
  | c :: r, acc, a, b, h => by
    cases hp : pre S (c :: r) with
    | true =>
      rw [par_hit hp] at h
      have h := Option.some.inj h
      injection h with h1 h2
      subst h1; subst h2
      have e : (c :: r).take S.length = S := eq_of_beq hp
      conv => lhs; rw [← List.take_append_drop S.length (c :: r), e]
      rw [List.append_assoc]
    | false =>
      rw [par_miss hp] at h
      have := par_back S r _ _ _ h
      rw [← this]; simp
theorem joinL_cons (S a : List Nat) {r : List (List Nat)} (h : r ≠ []) : joinL S (a :: r) = a ++ S ++ joinL S r := by
  cases r with
  | nil => exact absurd rfl h
  | cons b r => show a ++ (S ++ joinL S (b :: r)) = _; rw [List.append_assoc]
theorem spl_ne (S : List Nat) : ∀ (l : List Nat) (k : Nat) (acc : List Nat), spl S k acc l ≠ []
  | [], k, acc => by rw [spl_nil]; simp
  | c :: r, 0, acc => by
    cases hp : pre S (c :: r) with
    | true => rw [spl_hit hp]; simp
    | false => rw [spl_miss hp]; exact spl_ne S r 0 _
  | c :: r, k + 1, acc => spl_ne S r k acc
theorem spl_back {S : List Nat} (hS : S ≠ []) : ∀ (n : Nat) (l acc : List Nat), l.length ≤ n → joinL S (spl S 0 acc l) = acc ++ l
  | _, [], acc, _ => by rw [spl_nil]; show acc = acc ++ []; simp
  | 0, c :: r, acc, h => absurd h (by simp)
  | n + 1, c :: r, acc, h => by
    cases hp : pre S (c :: r) with
    | true =>
      have e : (c :: r).take S.length = S := eq_of_beq hp
      have hl : 1 ≤ S.length := by
        cases S with
        | nil => exact absurd rfl hS
        | cons a S => simp
      rw [spl_hit hp, joinL_cons _ _ (spl_ne _ _ _ _), spl_pass, spl_back hS n _ _ (by simp at h ⊢; omega), List.nil_append]
      have ed : r.drop (S.length - 1) = (c :: r).drop S.length := by
        obtain ⟨k, hk⟩ : ∃ k, S.length = k + 1 := ⟨S.length - 1, by omega⟩
        rw [hk]; rfl
      rw [ed]
      conv => rhs; rw [← List.take_append_drop S.length (c :: r), e]
      rw [List.append_assoc]
    | false =>
      rw [spl_miss hp, spl_back hS n r _ (by simp at h; omega)]
      simp
abbrev Thing := List Nat × List Nat × List (Int × Int)
def partT (s : Nat) (t : List Nat) : List Nat × List Nat × List Nat := match par [s] [] t with
  | some (a, b) => (a, [s], b)
  | none => (t, [], [])
def pairP (t : List Nat) : Option (Int × Int) := if isNumT (partT 32 t).1 = true ∧ isNumT (partT 32 t).2.2 = true then some (valT (partT 32 t).1, valT (partT 32 t).2.2) else none
def inner (t : List Nat) : Option (List Nat) := if t.take 1 ≠ [40] ∨ t.drop (t.length - 1) ≠ [41] ∨ t.length < 2 then none else some ((t.drop 1).take (t.length - 2))
def ptsP (t : List Nat) : Option (List (Int × Int)) := (inner t).bind fun u => (spl [44, 32] 0 [] u).mapM pairP
def rawP (t : List Nat) : Option Thing := (ptsP (partT 32 (partT 32 t).2.2).2.2).map fun ps => ((partT 32 t).1, (partT 32 (partT 32 t).2.2).1, ps)
theorem partT_back {s : Nat} {t : List Nat} (h : (partT s t).2.2 ≠ []) : t = (partT s t).1 ++ [s] ++ (partT s t).2.2 := by
  unfold partT at h ⊢
  split at h
  · rename_i a b e
    exact par_back _ _ _ _ _ e
  · exact absurd rfl h
theorem lines_join : ∀ ls : List (List Nat), (ls.map fun l => l ++ [10]).flatten = joinL [10] (ls ++ [[]])
  | [] => rfl
  | l :: ls => by
    rw [List.map_cons, List.flatten_cons, lines_join ls, List.cons_append, joinL_cons _ _ (by simp)]
theorem lines_spl {ls : List (List Nat)} (h : ∀ l ∈ ls, 10 ∉ l) : spl [10] 0 [] (ls.map fun l => l ++ [10]).flatten = ls ++ [[]] := by
  rw [lines_join]
  refine spl_join (by simp) fun p hp => ?_
  rcases List.mem_append.mp hp with hp | hp
  · exact h p hp
  · rw [List.mem_singleton.mp hp]; simp
end Tel
end
section
set_option maxRecDepth 100000
set_option maxHeartbeats 1000000
namespace Mp
open PySem L2
def S (l : List Nat) : Str := ⟨l.toArray⟩
theorem S_len (l : List Nat) : (S l).length = l.length := by show l.toArray.size = _; simp
theorem S_app (a b : List Nat) : S a ++ S b = S (a ++ b) := TL.ext_tl (by rw [TL.tl_append]; rfl)
theorem S_inj {a b : List Nat} (h : S a = S b) : a = b := by
  have := congrArg TL.tl h
  exact this
theorem add_S {a b : List Nat} (h : a.length + b.length ≤ 100000) : pAdd (.str (S a)) (.str (S b)) = some (.str (S (a ++ b))) := by
  show (if (S a).length + (S b).length ≤ 100000 then some (PV.str (S a ++ S b)) else none) = _
  rw [S_len, S_len, if_pos h, S_app]
theorem len_S {s : Sto} {l : List Nat} (h : l.length ≤ 100000) : bLen s [.str (S l)] = some (.int l.length) := by
  show (if (S l).length ≤ 100000 then some (PV.int (S l).length) else none) = _
  rw [S_len, if_pos h]
theorem cut_S (l : List Nat) (lo hi : Option Int) : cutS (S l) lo hi = S (cutL l lo hi) := by
  unfold cutS cutL
  rw [S_len]
  rfl
end Mp
end
section
set_option maxRecDepth 100000
set_option maxHeartbeats 1000000
namespace K52
open PySem L2 Mp Ge Sp Tel
theorem ofS (s : String) : Str.ofString s = S (s.toList.map Char.toNat) := TL.ext_tl (TL.tl_ofString s)
def As (l : List Nat) : Prop := ∀ c ∈ l, c < 128
theorem isD_S {l : List Nat} (h : As l) : isD (.str (S l)) = true := by
  show PyData.canLay0 (.str (S l)) = true
  unfold PyData.canLay0
  show (S l).cps.all (· < 0x110000) = true
  rw [← Array.all_toList, List.all_eq_true]
  intro c hc
  have := h c hc
  simp; omega
theorem S_eq (a b : List Nat) : (S a == S b) = decide (a = b) := by
  by_cases h : a = b
  · subst h; simp
  · rw [decide_eq_false h, beq_eq_false_iff_ne]
    exact fun z => h (S_inj z)
theorem cEq_S {a b : List Nat} (ha : As a) (hb : As b) : cEq (.str (S a)) (.str (S b)) = some (.bl (decide (a = b))) := by
  unfold cEq
  rw [isD_S ha, isD_S hb]
  simp only [pvEq, S_eq]
  rfl
theorem cNe_S {a b : List Nat} (ha : As a) (hb : As b) : cNe (.str (S a)) (.str (S b)) = some (.bl (!decide (a = b))) := by
  unfold cNe
  rw [isD_S ha, isD_S hb]
  simp only [pvEq, S_eq]
  rfl
theorem As.take {l : List Nat} (h : As l) (n : Nat) : As (l.take n) := fun c hc => h c (List.mem_of_mem_take hc)
theorem As.drop {l : List Nat} (h : As l) (n : Nat) : As (l.drop n) := fun c hc => h c (List.mem_of_mem_drop hc)
theorem As.left {a b : List Nat} (h : As (a ++ b)) : As a := fun c hc => h c (List.mem_append_left _ hc)
theorem As.right {a b : List Nat} (h : As (a ++ b)) : As b := fun c hc => h c (List.mem_append_right _ hc)
section
variable {env : MEnv} {st s1 s2 s3 : Sto} {m ml mh : EM} {l : List Nat}
theorem slX {lo hi : PM} {o p : Option Int} (h : m env st = .ok (.str (S l)) s1) (h1 : lo env s1 = .ok o s2) (h2 : hi env s2 = .ok p s3) (hl : l.length ≤ 100000) : mSliceX m lo hi env st = .ok (.str (S (cutL l o p))) s3 := by
  unfold mSliceX
  rw [h, ev_bindR, h1, ev_bindR, h2, ev_bindR]
  simp only [S_len, hl, if_true, cut_S]
theorem pSi {i : Int} (h : m env st = .ok (.int i) s1) : pS m env st = .ok (some i) s1 := by unfold pS; rw [h]; rfl
theorem cut_last (l : List Nat) : cutL l (some (-1)) none = l.drop (l.length - 1) := by
  unfold cutL HT.sIx
  simp only [show (-1 : Int) < 0 by decide, if_true]
  rw [show ((-1 : Int) + (l.length : Int)).toNat = l.length - 1 by omega, List.take_of_length_le (by simp)]
theorem cut_initP (l : List PV) : cutL l none (some (-1)) = l.take (l.length - 1) := by
  unfold cutL HT.sIx
  simp only [show (-1 : Int) < 0 by decide, if_true, List.drop_zero]
  congr 1; omega
theorem cut_in {l : List Nat} (h : 2 ≤ l.length) : cutL l (some 1) (some (-1)) = (l.drop 1).take (l.length - 2) := by
  unfold cutL HT.sIx
  simp only [show (-1 : Int) < 0 by decide, show ¬ (1 : Int) < 0 by decide, if_true, if_false]
  rw [show min (1 : Int).toNat l.length = 1 by show min 1 l.length = 1; omega]
  congr 1; omega
theorem cut_t1 (l : List Nat) : cutL l none (some (1 : Int)) = l.take 1 := cut_take l 1
theorem cut_d1 (l : List Nat) : cutL l (some (1 : Int)) none = l.drop 1 := cut_drop l 1
end
section
variable {st : Sto}
theorem lenS {s : Sto} {l : List Nat} (h : l.length ≤ 100000) : bLen s [.str (S l)] = some (.int (l.length : Int)) := len_S h
theorem dig_in (c : Nat) : cInX (.str ⟨#[c]⟩) (.str (Str.ofString "0123456789")) = some (.bl (dig c)) := by
  show some (PV.bl (Txt.contains (Str.ofString "0123456789") ⟨#[c]⟩)) = _
  rw [contains_one, ofS]
  show some (PV.bl (decide (c ∈ [48, 49, 50, 51, 52, 53, 54, 55, 56, 57]))) = _
  congr 2
  unfold dig
  rw [decide_eq_decide]
  simp
  omega
def low (c : Nat) : Bool := decide (97 ≤ c ∧ c ≤ 122)
theorem low_in (c : Nat) : cInX (.str ⟨#[c]⟩) (.str (Str.ofString "abcdefghijklmnopqrstuvwxyz")) = some (.bl (low c)) := by
  show some (PV.bl (Txt.contains (Str.ofString "abcdefghijklmnopqrstuvwxyz") ⟨#[c]⟩)) = _
  rw [contains_one, ofS]
  show some (PV.bl (decide (c ∈ [97, 98, 99, 100, 101, 102, 103, 104, 105, 106, 107, 108, 109, 110, 111, 112, 113, 114, 115, 116, 117, 118, 119, 120, 121, 122]))) = _
  congr 2
  unfold low
  rw [decide_eq_decide]
  simp
  omega
theorem as1 (c : Nat) (h : c < 128 := by decide) : As [c] := fun x hx => by rw [List.mem_singleton.mp hx]; exact h
theorem number_ev {t : List Nat} (ha : As t) (hl : t.length ≤ 1000) : M_is_number [.str (S t)] st = .ok (.bl (isNumT t)) st := by
  refine fnM_rt ?_
  show B_is_number [.pv (.str (S t)), .un, .un] st = _
  have m1 : Str.ofString "-" = S [45] := ofS "-"
  have m2 : Str.ofString "0" = S [48] := ofS "0"
  have m3 : Str.ofString "-0" = S [45, 48] := ofS "-0"
  have eb : s_is_number_1 [.pv (.str (S t)), .un, .un] st = .nx [.pv (.str (S t)), .pv (.str (S (bareT t))), .un] st := by
    refine set_ok ?_
    have e1 : mSliceX (mVar 0) pN (pS (mC (.int 1))) [.pv (.str (S t)), .un, .un] st = .ok (.str (S (t.take 1))) st := by
      rw [slX (l := t) rfl rfl (pSi rfl) (by omega), cut_t1]
    have e2 : mSliceX (mVar 0) (pS (mC (.int 1))) pN [.pv (.str (S t)), .un, .un] st = .ok (.str (S (t.drop 1))) st := by
      rw [slX (l := t) rfl (pSi rfl) rfl (by omega), cut_d1]
    rw [eIf_ok (tbin_ok e1 (show mC (.str (Str.ofString "-")) _ st = .ok (.str (S [45])) st by rw [m1]; rfl) (cEq_S (ha.take 1) (as1 45)))]
    unfold bareT
    by_cases h : t.take 1 = [45]
    · rw [if_pos (by simpa using h), if_pos h]; exact e2
    · rw [if_neg (by simpa using h), if_neg h]; rfl
  rw [B_is_number, seq_nx eb]
  have ab : As (bareT t) := by unfold bareT; split; exact ha.drop 1; exact ha
  have lb : (bareT t).length ≤ 1000 := by unfold bareT; split; (rw [List.length_drop]; omega); exact hl
  have L : ∀ s, bLen s [.str (S (bareT t))] = some (.int ((bareT t).length : Int)) := fun s => lenS (by omega)
  have A := allG_ev (mi := iSeqS (mVar 1)) (gt := gNm 2) (me := mBin cInX (mVar 2) (mC (.str (Str.ofString "0123456789")))) (vs := [2]) (env := [.pv (.str (S t)), .pv (.str (S (bareT t))), .un]) (st := st) (fun c => PV.str ⟨#[c]⟩) dig (bareT t) rfl rfl fun c _ => ⟨_, rfl, bin_ok rfl rfl (dig_in c)⟩
  unfold isNumT
  by_cases h1 : 1 ≤ (bareT t).length ∧ (bareT t).length ≤ 5
  case neg =>
    rw [decide_eq_false h1, Bool.false_and, Bool.false_and]
    have e3 : s_is_number_3 [.pv (.str (S t)), .pv (.str (S (bareT t))), .un] st = .rt (.bl false) st := by
      by_cases h2 : 1 ≤ (bareT t).length
      · have k1 : (1 : Int) ≤ ((bareT t).length : Int) := by omega
        have k2 : ¬ ((bareT t).length : Int) ≤ 5 := by omega
        simp -implicitDefEqProofs [s_is_number_3, s_is_number_2, mVar, L, k1, k2]
      · have k1 : ¬ (1 : Int) ≤ ((bareT t).length : Int) := by omega
        simp -implicitDefEqProofs [s_is_number_3, s_is_number_2, mVar, L, k1]
    exact seq_rt e3
  case pos =>
  have k1 : (1 : Int) ≤ ((bareT t).length : Int) := by omega
  have k2 : ((bareT t).length : Int) ≤ 5 := by omega
  rw [decide_eq_true h1, Bool.true_and]
  cases hd : (bareT t).all dig with
  | false =>
    have e3 : s_is_number_3 [.pv (.str (S t)), .pv (.str (S (bareT t))), .un] st = .rt (.bl false) st := by
      simp -implicitDefEqProofs [s_is_number_3, s_is_number_2, mVar, L, k1, k2, A, hd]
    rw [Bool.false_and]
    exact seq_rt e3
  | true =>
    have e3 : s_is_number_3 [.pv (.str (S t)), .pv (.str (S (bareT t))), .un] st = .nx [.pv (.str (S t)), .pv (.str (S (bareT t))), .un] st := by
      simp -implicitDefEqProofs [s_is_number_3, s_is_number_2, mVar, L, k1, k2, A, hd]
    rw [seq_nx e3, Bool.true_and]
    obtain ⟨c, r, hb⟩ : ∃ c r, bareT t = c :: r := by
      cases q : bareT t with
      | nil => rw [q] at h1; simp at h1
      | cons c r => exact ⟨c, r, rfl⟩
    have x0 : ixV st (.str (S (bareT t))) (.int 0) = some (.str (S [c])) := by
      show (if (S (bareT t)).length ≤ 1000 then (atI (bareT t) 0).map fun c => PV.str ⟨#[c]⟩ else none) = _
      rw [S_len, if_pos lb, hb, show atI (c :: r) (0 : Int) = some c from atIn (k := 0) rfl]; rfl
    have hc : c < 128 := ab c (by rw [hb]; simp)
    have n1 : mBin cNe (mIx (mVar 1) (mC (.int 0))) (mC (.str (Str.ofString "0"))) [.pv (.str (S t)), .pv (.str (S (bareT t))), .un] st = .ok (.bl (decide ((bareT t).head? ≠ some 48))) st := by
      refine bin_ok (ix_ok rfl rfl x0) (show mC (.str (Str.ofString "0")) _ st = .ok (.str (S [48])) st by rw [m2]; rfl) ?_
      rw [cNe_S (as1 c hc) (as1 48), hb]
      simp
    have n2 : mBin cEq (mVar 1) (mC (.str (Str.ofString "0"))) [.pv (.str (S t)), .pv (.str (S (bareT t))), .un] st = .ok (.bl (decide (bareT t = [48]))) st :=
      bin_ok rfl (show mC (.str (Str.ofString "0")) _ st = .ok (.str (S [48])) st by rw [m2]; rfl) (cEq_S ab (as1 48))
    have n3 : mBin cNe (mVar 0) (mC (.str (Str.ofString "-0"))) [.pv (.str (S t)), .pv (.str (S (bareT t))), .un] st = .ok (.bl (decide (t ≠ [45, 48]))) st := by
      refine bin_ok rfl (show mC (.str (Str.ofString "-0")) _ st = .ok (.str (S [45, 48])) st by rw [m3]; rfl) ?_
      rw [cNe_S ha (by intro x hx; simp at hx; omega)]
      simp
    refine ret_ok ?_
    exact and_ev (or_ev n1 n2) n3
def nameB (t : List Nat) : Bool := (decide (1 ≤ t.length) && decide (t.length ≤ 20)) && t.all low
theorem name_ev {t : List Nat} (hl : t.length ≤ 1000) : M_is_name [.str (S t)] st = .ok (.bl (nameB t)) st := by
  refine fnM_rt ?_
  show B_is_name [.pv (.str (S t)), .un] st = _
  have L : ∀ s, bLen s [.str (S t)] = some (.int (t.length : Int)) := fun s => lenS (by omega)
  have A := allG_ev (mi := iSeqS (mVar 0)) (gt := gNm 1) (me := mBin cInX (mVar 1) (mC (.str (Str.ofString "abcdefghijklmnopqrstuvwxyz")))) (vs := [1]) (env := [.pv (.str (S t)), .un]) (st := st) (fun c => PV.str ⟨#[c]⟩) low t rfl rfl fun c _ => ⟨_, rfl, bin_ok rfl rfl (low_in c)⟩
  have b1 : isiO "str" (.str (S t)) = some (.bl true) := rfl
  have e := eChain_ev (env := [.pv (.str (S t)), .un]) (g := cLe) (g' := cLe) (ma := mC (.int 1)) (mb := mCallB bLen (aCons (mVar 0) aNil)) (mc := mC (.int 20)) (s := st) (x := .int 1) (y := .int t.length) (z := .int 20) rfl (callB_ok (a1_ok rfl) (L _)) rfl cLe_int cLe_int
  refine ret_ok ?_
  have e0 : mIsi "str" (mVar 0) [.pv (.str (S t)), .un] st = .ok (.bl true) st := rfl
  have := and_ev e0 (and_ev e A)
  rw [this]
  unfold nameB
  rw [Bool.true_and]
  have d1 : decide ((1 : Int) ≤ (t.length : Int)) = decide (1 ≤ t.length) := by rw [decide_eq_decide]; omega
  have d2 : decide ((t.length : Int) ≤ 20) = decide (t.length ≤ 20) := by rw [decide_eq_decide]; omega
  rw [d1, d2]
end
end K52
end
section
set_option maxRecDepth 100000
set_option maxHeartbeats 1000000
namespace K52
open PySem L2 Mp Ge Sp Tel
def kP : List Nat := [80, 79, 73, 78, 84]
def kL : List Nat := [76, 73, 78, 69]
def kS : List Nat := [83, 72, 65, 80, 69]
def thingB (t : Thing) : Bool := nameB t.2.1 && (t.2.2.all isPt && (if t.1 = kP then decide (t.2.2.length = 1) else if t.1 = kL then decide (2 ≤ t.2.2.length) && (List.range (t.2.2.length - 1)).all (fun k => !decide (t.2.2.getD k (0, 0) = t.2.2.getD (k + 1) (0, 0))) else decide (t.1 = kS) && shapeB t.2.2))
def thP (t : Thing) : PV := .tup [.str (S t.1), .str (S t.2.1), .tup (t.2.2.map tp)]
section
variable {st : Sto}
theorem asP : As kP := by intro c hc; simp [kP] at hc; omega
theorem asL : As kL := by intro c hc; simp [kL] at hc; omega
theorem asS : As kS := by intro c hc; simp [kS] at hc; omega
theorem torF {a b : TM} {env : MEnv} {s s1 : Sto} (ha : a env s = .ok false s1) : tOrM a b env s = b env s1 := by unfold tOrM; rw [ha]; rfl
theorem torT {a b : TM} {env : MEnv} {s s1 : Sto} (ha : a env s = .ok true s1) : tOrM a b env s = .ok true s1 := by unfold tOrM; rw [ha]; rfl
theorem tnotB {a : TM} {env : MEnv} {s s1 : Sto} {c : Bool} (ha : a env s = .ok c s1) : tNotM a env s = .ok (!c) s1 := by unfold tNotM; rw [ha]; rfl
theorem isi_ok {T : String} {m : EM} {env : MEnv} {s s1 : Sto} {v r : PV} (h : m env s = .ok v s1) (hr : isiO T v = some r) : mIsi T m env s = .ok r s1 := by unfold mIsi; rw [h, ev_bindR, hr]; rfl
theorem thing_ev {t : Thing} (h1 : As t.1) (h2 : t.2.1.length ≤ 1000) (h3 : t.2.2.length ≤ 1000) : M_is_thing [thP t] st = .ok (.bl (thingB t)) st := by
  refine fnM_rt ?_
  show B_is_thing [.pv (thP t), .un, .un] st = _
  have m1 : Str.ofString "POINT" = S kP := ofS "POINT"
  have m2 : Str.ofString "LINE" = S kL := ofS "LINE"
  have m3 : Str.ofString "SHAPE" = S kS := ofS "SHAPE"
  let E : MEnv := [.pv (thP t), .un, .un]
  have x0 : mIx (mVar 0) (mC (.int 0)) E st = .ok (.str (S t.1)) st := ix_ok rfl rfl rfl
  have x1 : mIx (mVar 0) (mC (.int 1)) E st = .ok (.str (S t.2.1)) st := ix_ok rfl rfl rfl
  have x2 : ∀ e1 e2, mIx (mVar 0) (mC (.int 2)) [.pv (thP t), e1, e2] st = .ok (.tup (t.2.2.map tp)) st := fun _ _ => ix_ok rfl rfl rfl
  have len2 : ∀ e1 e2, mCallB bLen (aCons (mIx (mVar 0) (mC (.int 2))) aNil) [.pv (thP t), e1, e2] st = .ok (.int (t.2.2.length : Int)) st := fun e1 e2 => callB_ok (a1_ok (x2 e1 e2)) (by rw [lenT, List.length_map])
  have nm : mCall 1 M_is_name (aCons (mIx (mVar 0) (mC (.int 1))) aNil) E st = .ok (.bl (nameB t.2.1)) st := call_ok (a1_ok x1) (name_ev h2)
  have t2 : tOrM (tNotM (tVal (mIsi "tuple" (mVar 0)))) (tOrM (tBin cNe (mCallB bLen (aCons (mVar 0) aNil)) (mC (.int 3))) (tOrM (tNotM (tVal (mCall 1 M_is_name (aCons (mIx (mVar 0) (mC (.int 1))) aNil)))) (tNotM (tVal (mIsi "tuple" (mIx (mVar 0) (mC (.int 2)))))))) E st = .ok (!nameB t.2.1) st := by
    rw [torF (tnotB (c := true) (tval_ok (isi_ok rfl rfl))), torF (tbin_ok (c := false) (callB_ok (a1_ok rfl) rfl) rfl rfl)]
    have k2 : tNotM (tVal (mIsi "tuple" (mIx (mVar 0) (mC (.int 2))))) E st = .ok false st := tnotB (c := true) (tval_ok (isi_ok (x2 _ _) rfl))
    cases q : nameB t.2.1 with
    | false => rw [q] at nm; exact torT (tnotB (tval_ok nm))
    | true => rw [q] at nm; rw [torF (tnotB (tval_ok nm))]; exact k2
  rw [B_is_thing]
  unfold thingB
  cases q : nameB t.2.1 with
  | false =>
    rw [q] at t2
    have e2 : s_is_thing_2 E st = .rt (.bl false) st := (ifT_ok t2).trans rfl
    rw [Bool.false_and]
    exact seq_rt e2
  | true =>
    rw [q] at t2
    have e2 : s_is_thing_2 E st = .nx E st := ifF_ok t2
    rw [seq_nx e2, Bool.true_and]
    have A := allG_ev (mi := iSeq (mIx (mVar 0) (mC (.int 2)))) (gt := gNm 1) (me := mCall 1 M_is_point (aCons (mVar 1) aNil)) (vs := [1]) (env := E) (st := st) tp isPt t.2.2 (seqT_ev (x2 _ _)) rfl fun p _ => ⟨_, rfl, call_ok (a1_ok rfl) pt_ev⟩
    cases hp : t.2.2.all isPt with
    | false =>
      rw [hp] at A
      have e3 : s_is_thing_3 E st = .rt (.bl false) st := by
        have : tNotM (tVal (mAllG (iSeq (mIx (mVar 0) (mC (.int 2)))) (gNm 1) tYesM (mCall 1 M_is_point (aCons (mVar 1) aNil)) [1])) E st = .ok true st := by
          exact tnotB (tval_ok A)
        exact (ifT_ok this).trans rfl
      rw [Bool.false_and]
      exact seq_rt e3
    | true =>
      rw [hp] at A
      have e3 : s_is_thing_3 E st = .nx E st := ifF_ok (tnot_ok (tval_ok A))
      rw [seq_nx e3, Bool.true_and]
      by_cases k1 : t.1 = kP
      · have c5 : tBin cEq (mIx (mVar 0) (mC (.int 0))) (mC (.str (Str.ofString "POINT"))) E st = .ok true st := tbin_ok x0 (show mC _ E st = .ok (.str (S kP)) st by rw [m1]; rfl) (by rw [cEq_S h1 asP, decide_eq_true k1])
        rw [if_pos k1]
        have e5 : s_is_thing_5 E st = .rt (.bl (decide (t.2.2.length = 1))) st := by
          refine (ifT_ok c5).trans (ret_ok (bin_ok (len2 _ _) rfl ?_))
          rw [cEq_int]
          congr 2
          rw [decide_eq_decide]; omega
        exact seq_rt e5
      · have c5 : tBin cEq (mIx (mVar 0) (mC (.int 0))) (mC (.str (Str.ofString "POINT"))) E st = .ok false st := tbin_ok x0 (show mC _ E st = .ok (.str (S kP)) st by rw [m1]; rfl) (by rw [cEq_S h1 asP, decide_eq_false k1])
        have e5 : s_is_thing_5 E st = .nx E st := ifF_ok c5
        rw [if_neg k1, seq_nx e5]
        by_cases k2 : t.1 = kL
        · have c7 : tBin cEq (mIx (mVar 0) (mC (.int 0))) (mC (.str (Str.ofString "LINE"))) E st = .ok true st := tbin_ok x0 (show mC _ E st = .ok (.str (S kL)) st by rw [m2]; rfl) (by rw [cEq_S h1 asL, decide_eq_true k2])
          rw [if_pos k2]
          have g1 : mBin cGe (mCallB bLen (aCons (mIx (mVar 0) (mC (.int 2))) aNil)) (mC (.int 2)) E st = .ok (.bl (decide (2 ≤ t.2.2.length))) st := by
            refine bin_ok (len2 _ _) rfl ?_
            rw [cGe_int]
            congr 2
            rw [decide_eq_decide]; omega
          have e7 : s_is_thing_7 E st = .rt (.bl (decide (2 ≤ t.2.2.length) && (List.range (t.2.2.length - 1)).all (fun k => !decide (t.2.2.getD k (0, 0) = t.2.2.getD (k + 1) (0, 0))))) st := by
            refine (ifT_ok c7).trans (ret_ok ?_)
            by_cases k3 : 2 ≤ t.2.2.length
            · refine and_ev g1 ?_
              have at_ : ∀ i, i < t.2.2.length → ∀ s, ixV s (.tup (t.2.2.map tp)) (.int (i : Int)) = some (tp (t.2.2.getD i (0, 0))) := fun i hi s => ixT (by rw [List.getElem?_map, List.getD_eq_getElem?_getD, List.getElem?_eq_getElem hi]; rfl)
              refine allG_ev (fun (k : Nat) => PV.int (k : Int)) (fun k => !decide (t.2.2.getD k (0, 0) = t.2.2.getD (k + 1) (0, 0))) (List.range (t.2.2.length - 1)) (rng1_ev (a1_ok (bin_ok (len2 _ _) rfl (by
                show some (PV.int ((t.2.2.length : Int) - 1)) = _
                rw [show (t.2.2.length : Int) - 1 = ((t.2.2.length - 1 : Nat) : Int) by omega]))) (by omega)) rfl fun k hk => ?_
              have hk := List.mem_range.mp hk
              refine ⟨[.pv (thP t), .un, .pv (.int (k : Int))], rfl, ?_⟩
              exact bin_ok (ix_ok (x2 _ _) rfl (at_ k (by omega) _)) (ix_ok (y := .int ((k + 1 : Nat) : Int)) (x2 _ _) (bin_ok rfl rfl rfl) (at_ (k + 1) (by omega) _)) (cNe_tp _ _)
            · rw [decide_eq_false k3] at g1 ⊢
              rw [ev_eAnd, g1]
              simp
          exact seq_rt e7
        · have c7 : tBin cEq (mIx (mVar 0) (mC (.int 0))) (mC (.str (Str.ofString "LINE"))) E st = .ok false st := tbin_ok x0 (show mC _ E st = .ok (.str (S kL)) st by rw [m2]; rfl) (by rw [cEq_S h1 asL, decide_eq_false k2])
          have e7 : s_is_thing_7 E st = .nx E st := ifF_ok c7
          rw [if_neg k2, seq_nx e7]
          refine ret_ok (and_ev (bin_ok x0 (show mC _ E st = .ok (.str (S kS)) st by rw [m3]; rfl) (cEq_S h1 asS)) (call_ok (a1_ok (x2 _ _)) (shape_ev h3)))
theorem int_ev {t : List Nat} (h : isNumT t = true) (hl : t.length ≤ 640) (s : Sto) : bIntS s [.str (S t)] = some (.int (valT t)) := by
  show (if (S t).length ≤ 640 then (PySem.intText? (S t)).map PV.int else none) = _
  rw [S_len, if_pos hl]
  have h0 := h
  unfold isNumT at h
  simp only [Bool.and_eq_true, Bool.or_eq_true, decide_eq_true_eq] at h
  obtain ⟨⟨g1, g2⟩, _, _⟩ := h
  have g2 := all_digits.mp g2
  unfold valT
  by_cases hm : t.take 1 = [45]
  · rw [if_pos hm]
    have eb : bareT t = t.drop 1 := if_pos hm
    rw [eb] at g1 g2
    have et : (S t).cps.toList = 45 :: t.drop 1 := by
      show t = _
      conv => lhs; rw [← List.take_append_drop 1 t, hm]
      rfl
    rw [intText_neg et g2 (by intro e; rw [e] at g1; simp at g1) (by rw [S_len]; omega)]
    rfl
  · rw [if_neg hm]
    have eb : bareT t = t := if_neg hm
    rw [eb] at g1 g2
    rw [intText_digits (x := S t) g2 (by intro e; have e : t = [] := e; rw [e] at g1; simp at g1) (by rw [S_len]; omega)]
    rfl
theorem part_S (s : Nat) (l : List Nat) : Txt.partition (S l) (S [s]) = (S (partT s l).1, S (partT s l).2.1, S (partT s l).2.2) := by
  rw [TL.partition_par (S l) (S [s]) (by show [s] ≠ []; simp)]
  show (match TL.par [s] [] l with | some (a, b) => ((⟨a.toArray⟩ : Str), S [s], (⟨b.toArray⟩ : Str)) | none => (S l, Str.empty, Str.empty)) = _
  unfold partT
  cases TL.par [s] [] l with
  | none => rfl
  | some p => obtain ⟨a, b⟩ := p; rfl
theorem part_ev {m : EM} {env : MEnv} {s s1 : Sto} {l : List Nat} (h : m env s = .ok (.str (S l)) s1) (hl : l.length ≤ 100000) : mPart m (mC (.str (Str.ofString " "))) env s = .ok (.tup [.str (S (partT 32 l).1), .str (S (partT 32 l).2.1), .str (S (partT 32 l).2.2)]) s1 := by
  have m1 : Str.ofString " " = S [32] := ofS " "
  unfold mPart
  rw [h, ev_bindR]
  dsimp only
  rw [show mC (.str (Str.ofString " ")) env s1 = .ok (.str (S [32])) s1 by rw [m1]; rfl, ev_bindR]
  dsimp only
  rw [if_pos ⟨by rw [S_len]; rfl, by rw [S_len]; exact hl⟩, part_S]
theorem split_S {x : Nat} {y l : List Nat} (hk : ((S (x :: y)).cps.all (· < 256)) = true) : Txt.split (S l) (S (x :: y)) = (TL.spl (x :: y) 0 [] l).map S := by
  refine TL.map_tl_inj ?_
  rw [TL.split_spl _ _ (by show x :: y ≠ []; simp) (TL.kind_ok hk), List.map_map]
  exact (List.map_id _).symm
theorem split_ev {m m2 : EM} {env : MEnv} {s s1 : Sto} {x : Nat} {y l : List Nat} (h : m env s = .ok (.str (S l)) s1) (h2 : m2 env s1 = .ok (.str (S (x :: y))) s1) (hk : ((S (x :: y)).cps.all (· < 256)) = true) (hl : l.length ≤ 100000) : mSplit m m2 env s = .ok (.lst ((TL.spl (x :: y) 0 [] l).map fun p => PV.str (S p))) s1 := by
  unfold mSplit
  rw [h, ev_bindR]
  dsimp only
  rw [h2, ev_bindR]
  dsimp only
  rw [if_pos ⟨by rw [S_len]; rfl, by rw [S_len]; exact hl⟩, split_S hk, List.map_map]
  rfl
end
end K52
end
section
set_option maxRecDepth 100000
set_option maxHeartbeats 1000000
namespace K52
open PySem L2 Mp Ge Sp Tel
def bt (n : Int) : MExc := ⟨"BadText", .tup [.str "line", .int n]⟩
def lineP (l : List Nat) : Option Thing := match rawP l with | some th => if thingB th then some th else none | none => none
section
variable {st : Sto}
theorem joinL_in {Sp : List Nat} {c : Nat} : ∀ {ps : List (List Nat)} {p : List Nat}, p ∈ ps → c ∈ p → c ∈ TL.joinL Sp ps
  | [], _, h, _ => by cases h
  | [q], p, h, hc => by rw [List.mem_singleton.mp h] at hc; exact hc
  | q :: q2 :: r, p, h, hc => by
    show c ∈ q ++ (Sp ++ TL.joinL Sp (q2 :: r))
    rcases List.mem_cons.mp h with h | h
    · rw [h] at hc; exact List.mem_append_left _ hc
    · exact List.mem_append_right _ (List.mem_append_right _ (joinL_in h hc))
theorem joinL_len {Sp : List Nat} : ∀ {ps : List (List Nat)} {p : List Nat}, p ∈ ps → p.length ≤ (TL.joinL Sp ps).length
  | [], _, h => by cases h
  | [q], p, h => by rw [List.mem_singleton.mp h]; exact Nat.le_refl _
  | q :: q2 :: r, p, h => by
    show p.length ≤ (q ++ (Sp ++ TL.joinL Sp (q2 :: r))).length
    rw [List.length_append, List.length_append]
    rcases List.mem_cons.mp h with h | h
    · rw [h]; omega
    · have := joinL_len (Sp := Sp) h; omega
theorem joinL_many {s : Nat} {S : List Nat} : ∀ {ps : List (List Nat)}, ps.length ≤ (TL.joinL (s :: S) ps).length + 1
  | [] => by simp
  | [q] => by simp
  | q :: q2 :: r => by
    show _ ≤ (q ++ (s :: S ++ TL.joinL (s :: S) (q2 :: r))).length + 1
    have := joinL_many (s := s) (S := S) (ps := q2 :: r)
    rw [List.length_append, List.length_append]
    simp only [List.length_cons] at *
    omega
theorem spl_as {s : Nat} {Sp l p : List Nat} (ha : As l) (h : p ∈ TL.spl (s :: Sp) 0 [] l) : As p := fun c hc => ha c (by
  have := joinL_in (Sp := s :: Sp) h hc
  rw [spl_back (by simp) _ l [] (Nat.le_refl _)] at this
  exact this)
theorem spl_len {s : Nat} {Sp l p : List Nat} (h : p ∈ TL.spl (s :: Sp) 0 [] l) : p.length ≤ l.length := by
  have := joinL_len (Sp := s :: Sp) h
  rw [spl_back (by simp) _ l [] (Nat.le_refl _)] at this
  exact this
theorem spl_many {s : Nat} {Sp l : List Nat} : (TL.spl (s :: Sp) 0 [] l).length ≤ l.length + 1 := by
  have := joinL_many (s := s) (S := Sp) (ps := TL.spl (s :: Sp) 0 [] l)
  rw [spl_back (by simp) _ l [] (Nat.le_refl _)] at this
  exact this
theorem partT_sub {s : Nat} {l : List Nat} : (∀ c ∈ (partT s l).1, c ∈ l) ∧ (∀ c ∈ (partT s l).2.2, c ∈ l) ∧ (partT s l).1.length ≤ l.length ∧ (partT s l).2.2.length ≤ l.length := by
  by_cases h : (partT s l).2.2 = []
  · refine ⟨?_, by rw [h]; simp, ?_, by rw [h]; simp⟩
    · intro c hc
      unfold partT at hc
      split at hc
      · rename_i a b e
        have := par_back _ _ _ _ _ e
        rw [List.nil_append] at this
        rw [this]; simp at hc ⊢; simp [hc]
      · exact hc
    · unfold partT
      split
      · rename_i a b e
        have := par_back _ _ _ _ _ e
        rw [List.nil_append] at this
        rw [this]; simp
      · exact Nat.le_refl _
  · have e := partT_back h
    generalize (partT s l).1 = a at *
    generalize (partT s l).2.2 = b at *
    subst e
    simp
    refine ⟨fun c hc => .inl hc, fun c hc => .inr (.inr hc), by omega⟩
theorem isNum_len {t : List Nat} (h : isNumT t = true) : t.length ≤ 6 := by
  unfold isNumT at h
  simp only [Bool.and_eq_true, decide_eq_true_eq] at h
  have h1 := h.1.1.2
  unfold bareT at h1
  split at h1
  · rw [List.length_drop] at h1; omega
  · omega
theorem pairs_ev (L K R N : EV) (n : Int) : ∀ (us : List (List Nat)) (acc : List Pt) (B : EV), (∀ u ∈ us, As u ∧ u.length ≤ 1000) → acc.length + us.length ≤ 2000 →
    (us.mapM pairP = none → forL (gNm 7) (sSeq s_thing_of_6 (sSeq s_thing_of_7 s_thing_of_8)) [3, 7, 8, 9] (us.map fun p => PV.str (S p)) [L, .pv (.int n), K, B, R, N, .own (.lst (acc.map tp)), .un, .un, .un, .un] st = .ex (bt n) st) ∧
    (∀ ps, us.mapM pairP = some ps → ∃ B', forL (gNm 7) (sSeq s_thing_of_6 (sSeq s_thing_of_7 s_thing_of_8)) [3, 7, 8, 9] (us.map fun p => PV.str (S p)) [L, .pv (.int n), K, B, R, N, .own (.lst (acc.map tp)), .un, .un, .un, .un] st = .nx [L, .pv (.int n), K, B', R, N, .own (.lst ((acc ++ ps).map tp)), .un, .un, .un, .un] st)
  | [], acc, B, _, _ => by
    refine ⟨fun h => (by simp at h), fun ps h => ?_⟩
    simp at h
    subst h
    exact ⟨B, by rw [List.append_nil]; rfl⟩
  | u :: us, acc, B, ha, hl => by
    obtain ⟨au, lu⟩ := ha u (by simp)
    have sub := @partT_sub 32 u
    have e6 : s_thing_of_6 [L, .pv (.int n), K, B, R, N, .own (.lst (acc.map tp)), .pv (.str (S u)), .un, .un, .un] st = .nx [L, .pv (.int n), K, .pv (.str (S (partT 32 u).2.1)), R, N, .own (.lst (acc.map tp)), .pv (.str (S u)), .pv (.str (S (partT 32 u).1)), .pv (.str (S (partT 32 u).2.2)), .un] st := asg_ok (part_ev (l := u) rfl (by omega)) rfl
    let E : MEnv := [L, .pv (.int n), K, .pv (.str (S (partT 32 u).2.1)), R, N, .own (.lst (acc.map tp)), .pv (.str (S u)), .pv (.str (S (partT 32 u).1)), .pv (.str (S (partT 32 u).2.2)), .un]
    have n1 : tNotM (tVal (mCall 1 M_is_number (aCons (mVar 8) aNil))) E st = .ok (!isNumT (partT 32 u).1) st := tnotB (tval_ok (call_ok (a1_ok rfl) (number_ev (fun c hc => au c (sub.1 c hc)) (by omega))))
    have n2 : tNotM (tVal (mCall 1 M_is_number (aCons (mVar 9) aNil))) E st = .ok (!isNumT (partT 32 u).2.2) st := tnotB (tval_ok (call_ok (a1_ok rfl) (number_ev (fun c hc => au c (sub.2.1 c hc)) (by omega))))
    have body : (sSeq s_thing_of_6 (sSeq s_thing_of_7 s_thing_of_8)) [L, .pv (.int n), K, B, R, N, .own (.lst (acc.map tp)), .pv (.str (S u)), .un, .un, .un] st = match pairP u with
        | none => .ex (bt n) st
        | some p => .nx [L, .pv (.int n), K, .pv (.str (S (partT 32 u).2.1)), R, N, .own (.lst ((acc ++ [p]).map tp)), .pv (.str (S u)), .pv (.str (S (partT 32 u).1)), .pv (.str (S (partT 32 u).2.2)), .un] st := by
      rw [seq_nx e6]
      unfold pairP
      by_cases q : isNumT (partT 32 u).1 = true ∧ isNumT (partT 32 u).2.2 = true
      · rw [if_pos q]
        rw [q.1] at n1; rw [q.2] at n2
        have e7 : s_thing_of_7 E st = .nx E st := ifF_ok (by rw [torF n1]; exact n2)
        rw [seq_nx e7]
        have := app_ok (i := 6) (env := E) (m := mTup (aCons (mCallB bIntS (aCons (mVar 8) aNil)) (aCons (mCallB bIntS (aCons (mVar 9) aNil)) aNil))) (s := st) (s1 := st) (v := tp (valT (partT 32 u).1, valT (partT 32 u).2.2)) (xs := acc.map tp) rfl (tup_ok (a2_ok (callB_ok (a1_ok rfl) (int_ev q.1 (by have := isNum_len q.1; omega) _)) (a1_ok (callB_ok (a1_ok rfl) (int_ev q.2 (by have := isNum_len q.2; omega) _))))) (by rw [List.length_map]; simp at hl; omega)
        dsimp only
        rw [List.map_append]
        exact this
      · rw [if_neg q]
        have e7 : s_thing_of_7 E st = .ex (bt n) st := by
          refine (ifT_ok ?_).trans rfl
          cases q1 : isNumT (partT 32 u).1 with
          | false => rw [q1] at n1; exact torT n1
          | true =>
            rw [q1] at n1
            cases q2 : isNumT (partT 32 u).2.2 with
            | false => rw [q2] at n2; rw [torF n1]; exact n2
            | true => exact absurd ⟨q1, q2⟩ q
        exact seq_ex e7
    have step : forL (gNm 7) (sSeq s_thing_of_6 (sSeq s_thing_of_7 s_thing_of_8)) [3, 7, 8, 9] ((u :: us).map fun p => PV.str (S p)) [L, .pv (.int n), K, B, R, N, .own (.lst (acc.map tp)), .un, .un, .un, .un] st = match pairP u with
        | none => .ex (bt n) st
        | some p => forL (gNm 7) (sSeq s_thing_of_6 (sSeq s_thing_of_7 s_thing_of_8)) [3, 7, 8, 9] (us.map fun p => PV.str (S p)) [L, .pv (.int n), K, .un, R, N, .own (.lst ((acc ++ [p]).map tp)), .un, .un, .un, .un] st := by
      rw [List.map_cons]
      conv => lhs; unfold forL
      rw [show gNm 7 (PV.str (S u)) [L, .pv (.int n), K, B, R, N, .own (.lst (acc.map tp)), .un, .un, .un, .un] = some [L, .pv (.int n), K, B, R, N, .own (.lst (acc.map tp)), .pv (.str (S u)), .un, .un, .un] from rfl]
      dsimp only
      rw [body]
      cases pairP u with
      | none => rfl
      | some p => rfl
    rw [step, List.mapM_cons]
    cases q : pairP u with
    | none => exact ⟨fun _ => rfl, fun ps h => by simp at h⟩
    | some p =>
      have ih := pairs_ev L K R N n us (acc ++ [p]) .un (fun v hv => ha v (by simp [hv])) (by simp at hl ⊢; omega)
      dsimp only
      constructor
      · intro h
        refine ih.1 ?_
        cases r : us.mapM pairP with
        | none => rfl
        | some zs => rw [r] at h; simp at h
      · intro ps h
        cases r : us.mapM pairP with
        | none => rw [r] at h; simp at h
        | some zs =>
          rw [r] at h
          simp at h
          subst h
          obtain ⟨B', e⟩ := ih.2 zs r
          exact ⟨B', by rw [e, List.append_assoc]; rfl⟩
theorem mapM_len {α β : Type} {f : α → Option β} : ∀ (xs : List α) (ys : List β), xs.mapM f = some ys → ys.length = xs.length
  | [], ys, h => by simp at h; subst h; rfl
  | x :: xs, ys, h => by
    rw [List.mapM_cons] at h
    cases q : f x with
    | none => rw [q] at h; cases h
    | some y =>
      rw [q] at h
      cases r : xs.mapM f with
      | none => rw [r] at h; cases h
      | some zs =>
        rw [r] at h
        cases h
        rw [List.length_cons, List.length_cons, mapM_len xs zs r]
theorem thing_of_ev {l : List Nat} {n : Int} (ha : As l) (hl : l.length ≤ 900) : M_thing_of [.str (S l), .int n] st = match lineP l with | some th => .ok (thP th) st | none => .exc (bt n) st := by
  have sub := @partT_sub 32 l
  have e1 : s_thing_of_1 [.pv (.str (S l)), .pv (.int n), .un, .un, .un, .un, .un, .un, .un, .un, .un] st = .nx [.pv (.str (S l)), .pv (.int n), .pv (.str (S (partT 32 l).1)), .pv (.str (S (partT 32 l).2.1)), .pv (.str (S (partT 32 l).2.2)), .un, .un, .un, .un, .un, .un] st := asg_ok (part_ev (l := l) rfl (by omega)) rfl
  have b0 : env0 11 [.str (S l), .int n] = [.pv (.str (S l)), .pv (.int n), .un, .un, .un, .un, .un, .un, .un, .un, .un] := rfl
  unfold lineP rawP
  generalize partT 32 l = p1 at *
  obtain ⟨kind, bl, rest⟩ := p1
  dsimp only at sub e1 ⊢
  have sub2 := @partT_sub 32 rest
  have e2 : s_thing_of_2 [.pv (.str (S l)), .pv (.int n), .pv (.str (S kind)), .pv (.str (S bl)), .pv (.str (S rest)), .un, .un, .un, .un, .un, .un] st = .nx [.pv (.str (S l)), .pv (.int n), .pv (.str (S kind)), .pv (.str (S (partT 32 rest).2.1)), .pv (.str (S (partT 32 rest).2.2)), .pv (.str (S (partT 32 rest).1)), .un, .un, .un, .un, .un] st := asg_ok (part_ev (l := rest) rfl (by omega)) rfl
  generalize partT 32 rest = p2 at *
  obtain ⟨name, bl2, tail⟩ := p2
  dsimp only at sub2 e2 ⊢
  have ak : As kind := fun c hc => ha c (sub.1 c hc)
  have at_ : As tail := fun c hc => ha c (sub.2.1 c (sub2.2.1 c hc))
  have lt : tail.length ≤ 900 := by omega
  let E : MEnv := [.pv (.str (S l)), .pv (.int n), .pv (.str (S kind)), .pv (.str (S bl2)), .pv (.str (S tail)), .pv (.str (S name)), .un, .un, .un, .un, .un]
  have m1 : Str.ofString "(" = S [40] := ofS "("
  have m2 : Str.ofString ")" = S [41] := ofS ")"
  have m3 : Str.ofString ", " = S [44, 32] := ofS ", "
  have c1 : tBin cNe (mSliceX (mVar 4) pN (pS (mC (.int 1)))) (mC (.str (Str.ofString "("))) E st = .ok (decide (tail.take 1 ≠ [40])) st := by
    refine tbin_ok (x := .str (S (tail.take 1))) (by rw [slX (l := tail) rfl rfl (pSi rfl) (by omega), cut_t1]) (show mC _ E st = .ok (.str (S [40])) st by rw [m1]; rfl) ?_
    rw [cNe_S (at_.take 1) (as1 40)]; simp
  have c2 : tBin cNe (mSliceX (mVar 4) (pS (mUn pNeg (mC (.int 1)))) pN) (mC (.str (Str.ofString ")"))) E st = .ok (decide (tail.drop (tail.length - 1) ≠ [41])) st := by
    refine tbin_ok (x := .str (S (tail.drop (tail.length - 1)))) (by rw [slX (l := tail) rfl (pSi (i := -1) rfl) rfl (by omega), cut_last]) (show mC _ E st = .ok (.str (S [41])) st by rw [m2]; rfl) ?_
    rw [cNe_S (at_.drop _) (as1 41)]; simp
  have c3 : tBin cLt (mCallB bLen (aCons (mVar 4) aNil)) (mC (.int 2)) E st = .ok (decide (tail.length < 2)) st := by
    refine tbin_ok (callB_ok (a1_ok rfl) (lenS (by omega))) rfl ?_
    rw [cLt_int]; congr 2; rw [decide_eq_decide]; omega
  have e4 : s_thing_of_4 E st = if tail.take 1 ≠ [40] ∨ tail.drop (tail.length - 1) ≠ [41] ∨ tail.length < 2 then .ex (bt n) st else .nx E st := by
    by_cases q1 : tail.take 1 ≠ [40]
    · rw [if_pos (.inl q1)]
      rw [decide_eq_true q1] at c1
      exact (ifT_ok (torT c1)).trans rfl
    · rw [decide_eq_false q1] at c1
      by_cases q2 : tail.drop (tail.length - 1) ≠ [41]
      · rw [if_pos (.inr (.inl q2))]
        rw [decide_eq_true q2] at c2
        exact (ifT_ok (by rw [torF c1]; exact torT c2)).trans rfl
      · rw [decide_eq_false q2] at c2
        by_cases q3 : tail.length < 2
        · rw [if_pos (.inr (.inr q3))]
          rw [decide_eq_true q3] at c3
          exact (ifT_ok (by rw [torF c1, torF c2]; exact c3)).trans rfl
        · rw [if_neg (by rintro (z | z | z); exact q1 z; exact q2 z; exact q3 z)]
          rw [decide_eq_false q3] at c3
          exact ifF_ok (by rw [torF c1, torF c2]; exact c3)
  unfold ptsP inner
  by_cases q : tail.take 1 ≠ [40] ∨ tail.drop (tail.length - 1) ≠ [41] ∨ tail.length < 2
  · rw [if_pos q] at e4 ⊢
    refine fnM_ex ?_
    rw [b0, B_thing_of, seq_nx e1, seq_nx e2]
    exact seq_ex e4
  · rw [if_neg q] at e4 ⊢
    have q3 : 2 ≤ tail.length := by
      have : ¬ tail.length < 2 := fun z => q (.inr (.inr z))
      omega
    dsimp only [Option.bind_some]
    let u := (tail.drop 1).take (tail.length - 2)
    have au : As u := (at_.drop 1).take _
    have lu : u.length ≤ 900 := by show ((tail.drop 1).take (tail.length - 2)).length ≤ 900; rw [List.length_take, List.length_drop]; omega
    have e5 : s_thing_of_5 E st = .nx [.pv (.str (S l)), .pv (.int n), .pv (.str (S kind)), .pv (.str (S bl2)), .pv (.str (S tail)), .pv (.str (S name)), .own (.lst (([] : List Pt).map tp)), .un, .un, .un, .un] st := rfl
    have PE := pairs_ev (st := st) (.pv (.str (S l))) (.pv (.str (S kind))) (.pv (.str (S tail))) (.pv (.str (S name))) n (TL.spl [44, 32] 0 [] u) [] (.pv (.str (S bl2))) (fun v hv => ⟨spl_as au hv, by have := spl_len hv; omega⟩) (by
      have := @spl_many 44 [32] u
      simp; omega)
    have ef : s_thing_of_9 [.pv (.str (S l)), .pv (.int n), .pv (.str (S kind)), .pv (.str (S bl2)), .pv (.str (S tail)), .pv (.str (S name)), .own (.lst (([] : List Pt).map tp)), .un, .un, .un, .un] st = forL (gNm 7) (sSeq s_thing_of_6 (sSeq s_thing_of_7 s_thing_of_8)) [3, 7, 8, 9] ((TL.spl [44, 32] 0 [] u).map fun p => PV.str (S p)) [.pv (.str (S l)), .pv (.int n), .pv (.str (S kind)), .pv (.str (S bl2)), .pv (.str (S tail)), .pv (.str (S name)), .own (.lst (([] : List Pt).map tp)), .un, .un, .un, .un] st := by
      refine for_ev (seq_ev (split_ev (x := 44) (y := [32]) (l := u) ?_ ?_ (by rw [← Array.all_toList]; rfl) (by omega)))
      · rw [slX (l := tail) rfl (pSi rfl) (pSi (i := -1) rfl) (by omega), cut_in q3]
      · rw [m3]; rfl
    cases r : (TL.spl [44, 32] 0 [] u).mapM pairP with
    | none =>
      refine fnM_ex ?_
      rw [b0, B_thing_of, seq_nx e1, seq_nx e2, seq_nx e4, seq_nx e5]
      exact seq_ex (ef.trans (PE.1 r))
    | some ps =>
      dsimp only [Option.map_some]
      obtain ⟨B', e9⟩ := PE.2 ps r
      rw [List.nil_append] at e9
      have lp : ps.length ≤ 1000 := by
        have h1 := mapM_len _ _ r
        have h2 := @spl_many 44 [32] u
        omega
      let F : MEnv := [.pv (.str (S l)), .pv (.int n), .pv (.str (S kind)), B', .pv (.str (S tail)), .pv (.str (S name)), .own (.lst (ps.map tp)), .un, .un, .un, .pv (thP (kind, name, ps))]
      have e10 : s_thing_of_10 [.pv (.str (S l)), .pv (.int n), .pv (.str (S kind)), B', .pv (.str (S tail)), .pv (.str (S name)), .own (.lst (ps.map tp)), .un, .un, .un, .un] st = .nx F st := set_ok (tup_ok (a2_ok rfl (a2_ok rfl (a1_ok (callB_ok (a1_ok (mo_ok rfl)) rfl)))))
      have nt : tNotM (tVal (mCall 1 M_is_thing (aCons (mVar 10) aNil))) F st = .ok (!thingB (kind, name, ps)) st := tnotB (tval_ok (call_ok (a1_ok rfl) (thing_ev ak (by show name.length ≤ 1000; omega) lp)))
      cases w : thingB (kind, name, ps) with
      | false =>
        rw [w] at nt
        have e11 : s_thing_of_11 F st = .ex (bt n) st := (ifT_ok nt).trans rfl
        refine fnM_ex ?_
        rw [b0, B_thing_of, seq_nx e1, seq_nx e2, seq_nx e4, seq_nx e5, seq_nx (ef.trans e9), seq_nx e10]
        exact seq_ex e11
      | true =>
        rw [w] at nt
        have e11 : s_thing_of_11 F st = .nx F st := ifF_ok nt
        refine fnM_rt ?_
        rw [b0, B_thing_of, seq_nx e1, seq_nx e2, seq_nx e4, seq_nx e5, seq_nx (ef.trans e9), seq_nx e10, seq_nx e11]
        rfl
end
end K52
end
section
set_option maxRecDepth 100000
set_option maxHeartbeats 1000000
namespace K52
open PySem L2 Mp Ge Sp Tel
def readL : Nat → List (List Nat) → Except Nat (List Thing)
  | _, [] => .ok []
  | k, l :: ls => match lineP l with
    | none => .error (k + 1)
    | some th => match readL (k + 1) ls with
      | .ok ths => .ok (th :: ths)
      | .error j => .error j
def flat (ls : List (List Nat)) : List Nat := (ls.map fun l => l ++ [10]).flatten
section
variable {st : Sto}
theorem lines_ev {env : MEnv} (he : env.length = 3) : ∀ (ls : List (List Nat)) (k : Nat), (∀ l ∈ ls, As l ∧ l.length ≤ 900) → compLX (gTp 2 (gConsM (gNm 1) (gConsM (gNm 2) gNilM))) tYesM (mCall 2 M_thing_of (aCons (mVar 2) (aCons (mBin pAdd (mVar 1) (mC (.int 1))) aNil))) ((ls.zipIdx k).map fun p => PV.tup [.int (p.2 : Nat), .str (S p.1)]) env st = match readL k ls with | .ok ths => .ok (ths.map thP) st | .error j => .exc (bt (j : Int)) st
  | [], k, _ => rfl
  | l :: ls, k, h => by
    obtain ⟨a, b, c, rfl⟩ : ∃ a b c, env = [a, b, c] := by
      match env, he with
      | [a, b, c], _ => exact ⟨a, b, c, rfl⟩
    obtain ⟨al, ll⟩ := h l (by simp)
    rw [List.zipIdx_cons, List.map_cons]
    unfold compLX readL
    rw [show gTp 2 (gConsM (gNm 1) (gConsM (gNm 2) gNilM)) (PV.tup [.int (k : Nat), .str (S l)]) [a, b, c] = some [a, .pv (.int (k : Nat)), .pv (.str (S l))] from rfl]
    dsimp only
    have et : mCall 2 M_thing_of (aCons (mVar 2) (aCons (mBin pAdd (mVar 1) (mC (.int 1))) aNil)) [a, .pv (.int (k : Nat)), .pv (.str (S l))] st = match lineP l with | some th => .ok (thP th) st | none => .exc (bt ((k + 1 : Nat) : Int)) st :=
      call_ok (a2_ok rfl (a1_ok (bin_ok rfl rfl rfl))) (thing_of_ev al ll)
    have ih := lines_ev (env := [a, b, c]) rfl ls (k + 1) fun x hx => h x (by simp [hx])
    show bindX (MRes.ok true st) _ = _
    rw [ev_bindX, if_pos rfl, et]
    cases q : lineP l with
    | none => rfl
    | some th =>
      dsimp only
      rw [ev_bindR, ih]
      cases r : readL (k + 1) ls with
      | error j => rfl
      | ok ths => rfl
theorem flat_len (ls : List (List Nat)) {l : List Nat} (h : l ∈ ls) : l.length < (flat ls).length := by
  unfold flat
  induction ls with
  | nil => cases h
  | cons a r ih =>
    rw [List.map_cons, List.flatten_cons, List.length_append, List.length_append]
    rcases List.mem_cons.mp h with h | h
    · subst h; simp; omega
    · have := ih h; omega
theorem flat_many (ls : List (List Nat)) : ls.length ≤ (flat ls).length := by
  unfold flat
  induction ls with
  | nil => simp
  | cons a r ih => rw [List.map_cons, List.flatten_cons, List.length_append, List.length_append]; simp only [List.length_cons, List.length_nil]; omega
theorem flat_as {ls : List (List Nat)} (h : ∀ l ∈ ls, As l) : As (flat ls) := by
  intro c hc
  unfold flat at hc
  rw [List.mem_flatten] at hc
  obtain ⟨x, hx, hc⟩ := hc
  obtain ⟨l, hl, rfl⟩ := List.mem_map.mp hx
  rcases List.mem_append.mp hc with hc | hc
  · exact h l hl c hc
  · rw [List.mem_singleton.mp hc]; decide
theorem flat_last {ls : List (List Nat)} (h : ls ≠ []) : (flat ls)[(flat ls).length - 1]? = some 10 := by
  obtain ⟨r, l, rfl⟩ : ∃ r l, ls = r ++ [l] := ⟨ls.dropLast, ls.getLast h, (List.dropLast_concat_getLast h).symm⟩
  have e : flat (r ++ [l]) = (flat r ++ l) ++ [10] := by unfold flat; simp
  rw [e, List.length_append, List.getElem?_append_right (by simp)]
  simp
theorem last_ev {t : List Nat} {c : Nat} (hl : t.length ≤ 1000) (h : t[t.length - 1]? = some c) (s : Sto) : ixV s (.str (S t)) (.int (-1)) = some (.str (S [c])) := by
  show (if (S t).length ≤ 1000 then (atI t (-1)).map fun c => PV.str ⟨#[c]⟩ else none) = _
  rw [S_len, if_pos hl, atIlast h]
  rfl
theorem read_ev {ls : List (List Nat)} (h : ∀ l ∈ ls, As l ∧ 10 ∉ l) (hz : (flat ls).length ≤ 900) : M_read [.str (S (flat ls))] st = match readL 0 ls with | .ok ths => .ok (.tup (ths.map thP)) st | .error j => .exc (bt (j : Int)) st := by
  have m1 : Str.ofString "\n" = S [10] := ofS "\n"
  have m0 : Str.ofString "" = S [] := ofS ""
  have hA : As (flat ls) := flat_as fun l hl => (h l hl).1
  let E : MEnv := [.pv (.str (S (flat ls))), .un, .un]
  have n1 : tNotM (tVal (mIsi "str" (mVar 0))) E st = .ok false st := tnotB (c := true) (tval_ok (isi_ok rfl rfl))
  have n2 : tAndM (tBin cNe (mVar 0) (mC (.str (Str.ofString "")))) (tBin cNe (mIx (mVar 0) (mUn pNeg (mC (.int 1)))) (mC (.str (Str.ofString "\n")))) E st = .ok false st := by
    by_cases hn : ls = []
    · subst hn
      have : tBin cNe (mVar 0) (mC (.str (Str.ofString ""))) E st = .ok false st := tbin_ok rfl (show mC _ E st = .ok (.str (S [])) st by rw [m0]; rfl) (by rw [cNe_S hA (by intro c hc; cases hc)]; rfl)
      unfold tAndM
      rw [this]; rfl
    · have t2 : tBin cNe (mIx (mVar 0) (mUn pNeg (mC (.int 1)))) (mC (.str (Str.ofString "\n"))) E st = .ok false st := tbin_ok (ix_ok (y := .int (-1)) rfl rfl (last_ev (by omega) (flat_last hn) _)) (show mC _ E st = .ok (.str (S [10])) st by rw [m1]; rfl) (by rw [cNe_S (as1 10) (as1 10)]; simp)
      have t1 : tBin cNe (mVar 0) (mC (.str (Str.ofString ""))) E st = .ok (!decide (flat ls = [])) st := tbin_ok rfl (show mC _ E st = .ok (.str (S [])) st by rw [m0]; rfl) (cNe_S hA (by intro c hc; cases hc))
      unfold tAndM
      rw [t1]
      cases (!decide (flat ls = [])) with
      | false => rfl
      | true => exact t2
  have e2 : s_read_2 E st = .nx E st := ifF_ok (by rw [torF n1]; exact n2)
  have sp := split_ev (m := mVar 0) (m2 := mC (.str (Str.ofString "\n"))) (env := E) (s := st) (s1 := st) (x := 10) (y := []) (l := flat ls) rfl (by rw [m1]; rfl) (by rw [← Array.all_toList]; rfl) (by omega)
  rw [show TL.spl [10] 0 [] (flat ls) = ls ++ [[]] from lines_spl fun l hl => (h l hl).2] at sp
  have sl : mSlice (mSplit (mVar 0) (mC (.str (Str.ofString "\n")))) pN (pS (mUn pNeg (mC (.int 1)))) E st = .ok (.lst (ls.map fun p => PV.str (S p))) st := by
    unfold mSlice
    rw [sp, ev_bindR, show pN E st = .ok none st from rfl, ev_bindR, show pS (mUn pNeg (mC (.int 1))) E st = .ok (some (-1)) st from rfl, ev_bindR]
    dsimp only
    rw [cut_initP]
    simp
  have en : iEnumM (aCons (mSlice (mSplit (mVar 0) (mC (.str (Str.ofString "\n")))) pN (pS (mUn pNeg (mC (.int 1))))) aNil) E st = .ok ((ls.zipIdx 0).map fun p => PV.tup [.int (p.2 : Nat), .str (S p.1)]) st := by
    unfold iEnumM
    rw [a1_ok sl, ev_bindR]
    dsimp only
    rw [enumP_map]
  have hlen : ls.length ≤ 900 := by have := flat_many ls; omega
  have C : mCompX (iEnumM (aCons (mSlice (mSplit (mVar 0) (mC (.str (Str.ofString "\n")))) pN (pS (mUn pNeg (mC (.int 1))))) aNil)) (gTp 2 (gConsM (gNm 1) (gConsM (gNm 2) gNilM))) tYesM (mCall 2 M_thing_of (aCons (mVar 2) (aCons (mBin pAdd (mVar 1) (mC (.int 1))) aNil))) [1, 2] E st = match readL 0 ls with | .ok ths => .ok (.lst (ths.map thP)) st | .error j => .exc (bt (j : Int)) st := by
    unfold mCompX
    rw [en, ev_bindR, if_pos (by simp [E, noOwn]; omega), lines_ev (by simp [E, killE]) ls 0 fun l hl => ⟨(h l hl).1, by have := flat_len ls hl; omega⟩]
    cases readL 0 ls <;> rfl
  have b0 : env0 3 [.str (S (flat ls))] = E := rfl
  cases q : readL 0 ls with
  | ok ths =>
    rw [q] at C
    refine fnM_rt ?_
    rw [b0, B_read, seq_nx e2]
    exact ret_ok (callB_ok (a1_ok C) rfl)
  | error j =>
    rw [q] at C
    refine fnM_ex ?_
    rw [b0, B_read, seq_nx e2]
    unfold s_read_3 sRet mCallB
    rw [ev_aCons, C]
    rfl
end
end K52
end
section
set_option maxRecDepth 100000
set_option maxHeartbeats 1000000
namespace K52
open PySem L2 Mp Ge Sp Tel
section
variable {st : Sto}
theorem ofS_num (i : Int) : Str.ofString (toString i) = S (numT i) := by
  refine TL.ext_tl ?_
  show _ = numT i
  cases i with
  | ofNat n =>
    have := TL.tl_num n
    unfold numT
    rw [if_neg (show ¬ (Int.ofNat n < 0) from Int.not_lt.mpr (Int.natCast_nonneg n))]
    exact this
  | negSucc n =>
    unfold numT
    rw [if_pos (Int.negSucc_lt_zero n)]
    have e : toString (Int.negSucc n) = "-" ++ toString ((n + 1 : Nat) : Int) := rfl
    have t := TL.tl_num (n + 1)
    rw [e, TL.tl_ofString, String.toList_append, List.map_append]
    rw [TL.tl_ofString] at t
    rw [t]
    rfl
theorem str_ev {i : Int} (h : -99999 ≤ i ∧ i ≤ 99999) (s : Sto) : bStr s [.int i] = some (.str (S (numT i))) := by
  have hl : i.natAbs.log2 < 1920 := by
    by_cases h0 : i.natAbs = 0
    · rw [h0]; decide
    · have : i.natAbs.log2 < 17 := (Nat.log2_lt h0).mpr (by omega)
      omega
  show (if i.natAbs.log2 < 1920 then some (PV.str (Str.ofString (toString i))) else none) = _
  rw [if_pos hl, ofS_num]
theorem add_S' {a b : List Nat} (h : a.length + b.length ≤ 50000) : pAdd (.str (S a)) (.str (S b)) = some (.str (S (a ++ b))) := add_S (by omega)
theorem numT_len {i : Int} (h : -99999 ≤ i ∧ i ≤ 99999) : (numT i).length ≤ 6 := isNum_len (num_isNum h).1
theorem lit_ok {s : String} {l : List Nat} {env : MEnv} {s0 : Sto} (h : s.toList.map Char.toNat = l) : mC (.str (Str.ofString s)) env s0 = .ok (.str (S l)) s0 := by rw [ofS, h]; rfl
end
end K52
end
section
set_option maxRecDepth 100000
set_option maxHeartbeats 1000000
namespace K52
open PySem L2 Mp Ge Sp Tel
section
variable {st : Sto} {m : Int}
theorem forL_x {gt : PV → MEnv → Option MEnv} {body : SM} {ks : List Nat} {x : PV} {xs : List PV} {env e1 : MEnv} {st s : Sto} {y : MExc} (h : gt x env = some e1) (h2 : body e1 st = .ex y s) : forL gt body ks (x :: xs) env st = .ex y s := by
  unfold forL
  rw [h]
  dsimp only
  rw [h2]
theorem forL_r {gt : PV → MEnv → Option MEnv} {body : SM} {ks : List Nat} {x : PV} {xs : List PV} {env e1 : MEnv} {st s : Sto} {y : PV} (h : gt x env = some e1) (h2 : body e1 st = .rt y s) : forL gt body ks (x :: xs) env st = .rt y s := by
  unfold forL
  rw [h]
  dsimp only
  rw [h2]
theorem w1 (h : 1 ≤ m) : M_check_whole [.int m, .int 0, .int (m - 1)] st = .exc ⟨"BadNumber", .non⟩ st := by
  have e : (decide ((0:Int) ≤ m) && decide (m ≤ m - 1)) = false := by rw [Bool.and_eq_false_iff]; right; exact decide_eq_false (by omega)
  refine fnM_ex ?_
  show s_check_whole_2 [.pv (.int m), .pv (.int 0), .pv (.int (m-1))] st = _
  exact (ifT_ok (tnotB (c := false) (tval_ok (call_ok (a2_ok rfl (a2_ok rfl (a1_ok rfl))) (by rw [whole_ev, e]))))).trans rfl
theorem cp_step {v : PV} {p : Pt} (h : isPt p = false) : s_check_points_2 [.pv v, .pv (tp p)] st = .ex ⟨"BadPoint", .non⟩ st :=
  (ifT_ok (tnotB (c := false) (tval_ok (call_ok (a1_ok rfl) (by rw [pt_ev, h]))))).trans rfl
theorem cp_pass {v : PV} {p : Pt} (h : isPt p = true) : s_check_points_2 [.pv v, .pv (tp p)] st = .nx [.pv v, .pv (tp p)] st :=
  ifF_ok (tnotB (c := true) (tval_ok (call_ok (a1_ok rfl) (by rw [pt_ev, h]))))
theorem w2 (h : 1 ≤ m) : M_check_points [.tup [.tup [.int (10000 + m), .int 0]]] st = .exc ⟨"BadPoint", .non⟩ st := by
  have e : isPt (10000 + m, 0) = false := by
    unfold isPt
    rw [show decide ((10000 : Int) + m ≤ 10000) = false from decide_eq_false (by omega)]
    simp
  refine fnM_ex ?_
  show s_check_points_3 [.pv (.tup [tp (10000 + m, 0)]), .un] st = _
  exact (for_ev (xs := [tp (10000 + m, 0)]) rfl).trans (forL_x (e1 := [.pv (.tup [tp (10000 + m, 0)]), .pv (tp (10000 + m, 0))]) rfl (cp_step e))
theorem w3 : M_check_shape [.tup [.tup [.int 0, .int 0], .tup [.int m, .int 0]]] st = .exc ⟨"BadShape", .non⟩ st := by
  refine fnM_ex ?_
  show s_check_shape_2 [.pv (.tup [.tup [.int 0, .int 0], .tup [.int m, .int 0]])] st = _
  refine (ifT_ok (tnotB (c := false) (tval_ok (call_ok (a1_ok rfl) ?_)))).trans rfl
  exact fnM_rt rfl
theorem blk_ev (h : 1 ≤ m ∧ m ≤ 900) : M_is_block [.tup [.int m, .int 0, .int m, .int 1]] st = .ok (.bl false) st := by
  let v : PV := .tup [.int m, .int 0, .int m, .int 1]
  refine fnM_rt ?_
  show B_is_block [.pv v, .un] st = _
  have A := allG_ev (mi := iSeq (mVar 0)) (gt := gNm 1) (me := mCall 3 M_is_whole (aCons (mVar 1) (aCons (mUn pNeg (mC (.int 10000))) (aCons (mC (.int 10000)) aNil)))) (vs := [1]) (env := [.pv v, .un]) (st := st) PV.int (fun i => decide (-10000 ≤ i) && decide (i ≤ 10000)) [m, 0, m, 1] rfl rfl (fun i hi => ⟨[.pv v, .pv (.int i)], rfl, call_ok (a2_ok rfl (a2_ok rfl (a1_ok rfl))) whole_ev⟩)
  have e : ([m, 0, m, 1].all fun i => decide (-10000 ≤ i) && decide (i ≤ 10000)) = true := by
    simp; omega
  rw [e] at A
  have e2 : s_is_block_2 [.pv v, .un] st = .nx [.pv v, .un] st := ifF_ok (tor_ok (tnotB (c := true) (tval_ok rfl)) (tor_ok rfl (tnotB (c := true) (tval_ok A))))
  rw [B_is_block, seq_nx e2]
  refine (ret_ok (and_ev (x := false) (y := true) (bin_ok rfl rfl ?_) rfl)).trans rfl
  show cLt (.int m) (.int m) = _
  rw [cLt_int]; simp
theorem w4 (h : 1 ≤ m ∧ m ≤ 900) : M_check_blocks [.tup [.tup [.int m, .int 0, .int m, .int 1]]] st = .exc ⟨"BadRegion", .non⟩ st := by
  refine fnM_ex ?_
  show s_check_blocks_3 [.pv (.tup [.tup [.int m, .int 0, .int m, .int 1]]), .un] st = _
  refine (for_ev (xs := [.tup [.int m, .int 0, .int m, .int 1]]) rfl).trans (forL_x (e1 := [.pv (.tup [.tup [.int m, .int 0, .int m, .int 1]]), .pv (.tup [.int m, .int 0, .int m, .int 1])]) rfl ?_)
  exact (ifT_ok (tnotB (c := false) (tval_ok (call_ok (a1_ok rfl) (blk_ev h))))).trans rfl
theorem map_ev (h : 1 ≤ m ∧ m ≤ 900) : M_is_map [.tup [.tup [.tup [.int 0, .int 0]], .tup [.tup [.int 0, .int m]]]] st = .ok (.bl false) st := by
  let a : PV := .tup [.tup [.int 0, .int 0]]
  let b : PV := .tup [.tup [.int 0, .int m]]
  let E : MEnv := [.pv (.tup [a, b]), .pv a, .pv b, .un, .un, .un, .un, .un]
  refine fnM_rt ?_
  show B_is_map [.pv (.tup [a, b]), .un, .un, .un, .un, .un, .un, .un] st = _
  have e2 : s_is_map_2 [.pv (.tup [a, b]), .un, .un, .un, .un, .un, .un, .un] st = .nx [.pv (.tup [a, b]), .un, .un, .un, .un, .un, .un, .un] st := ifF_ok (tor_ok rfl rfl)
  have e3 : s_is_map_3 [.pv (.tup [a, b]), .un, .un, .un, .un, .un, .un, .un] st = .nx E st := rfl
  have e4 : s_is_map_4 E st = .nx E st := ifF_ok (tor_ok rfl (tor_ok rfl rfl))
  have e5 : s_is_map_5 E st = .nx E st := ifF_ok rfl
  rw [B_is_map, seq_nx e2, seq_nx e3, seq_nx e4, seq_nx e5]
  refine seq_rt ((for_ev (xs := [.tup [.int 0, .int m]]) rfl).trans (forL_r (e1 := [.pv (.tup [a, b]), .pv a, .pv b, .pv (.tup [.int 0, .int m]), .un, .un, .un, .un]) rfl ?_))
  have e6 : s_is_map_6 [.pv (.tup [a, b]), .pv a, .pv b, .pv (.tup [.int 0, .int m]), .un, .un, .un, .un] st = .nx [.pv (.tup [a, b]), .pv a, .pv b, .pv (.tup [.int 0, .int m]), .un, .un, .un, .un] st := ifF_ok (tor_ok rfl (tor_ok rfl rfl))
  rw [seq_nx e6]
  refine seq_rt ((ifT_ok (tnotB (c := false) (tval_ok (call_ok (a2_ok rfl (a2_ok rfl (a1_ok rfl))) (whole_ev.trans ?_))))).trans rfl)
  show MRes.ok (PV.bl (decide ((0 : Int) + 1 ≤ m) && decide (m ≤ (0 : Int)))) st = _
  rw [show decide (m ≤ (0 : Int)) = false from decide_eq_false (by omega), Bool.and_false]
theorem w5 (h : 1 ≤ m ∧ m ≤ 900) : M_check_map [.tup [.tup [.tup [.int 0, .int 0]], .tup [.tup [.int 0, .int m]]]] st = .exc ⟨"BadMap", .non⟩ st := by
  refine fnM_ex ?_
  exact (ifT_ok (tnotB (c := false) (tval_ok (call_ok (a1_ok rfl) (map_ev h))))).trans rfl
theorem w7 (h : 1 ≤ m) : M_look_hull [.tup [.tup [.int 0, .int 0]], .tup [.tup [.int m, .int 0]]] st = .exc ⟨"BadPaper", .tup [.str "part", .int 0]⟩ st := by
  refine fnM_ex ?_
  let a : PV := .tup [.tup [.int 0, .int 0]]
  let b : PV := .tup [.tup [.int m, .int 0]]
  show B_look_hull [.pv a, .pv b, .un, .un, .un, .un] st = _
  refine seq_ex ((show s_look_hull_3 [.pv a, .pv b, .un, .un, .un, .un] st = forL (gTp 2 (gConsM (gNm 2) (gConsM (gNm 3) gNilM))) s_look_hull_2 [2, 3] [.tup [.int ((0 : Nat) : Int), .tup [.int m, .int 0]]] [.pv a, .pv b, .un, .un, .un, .un] st from rfl).trans (forL_x (e1 := [.pv a, .pv b, .pv (.int ((0 : Nat) : Int)), .pv (.tup [.int m, .int 0]), .un, .un]) rfl ?_))
  refine (ifT_ok (tbin_ok rfl rfl ?_)).trans rfl
  have e : pvIn (tp (m, 0)) ([((0 : Int), (0 : Int))].map tp) = false := by
    rw [pvIn_tps]
    refine decide_eq_false fun z => ?_
    have := congrArg Prod.fst (List.mem_singleton.mp z)
    have : m = 0 := this
    omega
  show (if isD (tp (m, 0)) && isD (.tup ([((0 : Int), (0 : Int))].map tp)) then some (PV.bl !(pvIn (tp (m, 0)) ([((0 : Int), (0 : Int))].map tp))) else none) = _
  rw [e]
  rfl
theorem w8 : M_shortest [.int 2, .tup [], .int 0, .int 1] st = .exc ⟨"NoWay", .non⟩ st := by
  rfl
theorem w9 (h : 1 ≤ m ∧ m ≤ 900) : M_best_round [.tup (List.replicate 10 (.tup [.int m, .int 0]))] st = .exc ⟨"TooLarge", .non⟩ st := by
  have e : isPt (m, 0) = true := bd_isPt ⟨by show -10000 ≤ m; omega, by show m ≤ 10000; omega, by show (-10000 : Int) ≤ 0; omega, by show (0 : Int) ≤ 10000; omega⟩
  let v : PV := .tup (List.replicate 10 (tp (m, 0)))
  have c : M_check_points [v] st = .ok .non st := by
    refine (show M_check_points [v] st = match s_check_points_3 [.pv v, .un] st with | .nx _ s => .ok .non s | .rt v s => .ok v s | .ex x s => .exc x s | _ => .bad from rfl).trans ?_
    have L : forL (gNm 1) s_check_points_2 [1] ((List.replicate 10 (m, (0 : Int))).map tp) [.pv v, .un] st = .nx [.pv v, .un] st := forL_id tp (List.replicate 10 (m, (0 : Int))) fun p hp => ⟨[.pv v, .pv (tp p)], [.pv v, .pv (tp p)], rfl, cp_pass (by rw [List.eq_of_mem_replicate hp]; exact e), rfl⟩
    rw [show s_check_points_3 [.pv v, .un] st = _ from (for_ev (xs := (List.replicate 10 (m, (0 : Int))).map tp) rfl).trans L]
  refine fnM_ex ?_
  show B_best_round [.pv v, .un, .un, .un, .un, .un, .un, .un, .un, .un, .un, .un, .un] st = _
  have e1 : s_best_round_1 [.pv v, .un, .un, .un, .un, .un, .un, .un, .un, .un, .un, .un, .un] st = .nx [.pv v, .un, .un, .un, .un, .un, .un, .un, .un, .un, .un, .un, .un] st := expr_ok (call_ok (a1_ok rfl) c)
  have e2 : s_best_round_2 [.pv v, .un, .un, .un, .un, .un, .un, .un, .un, .un, .un, .un, .un] st = .nx [.pv v, .pv (.int 10), .un, .un, .un, .un, .un, .un, .un, .un, .un, .un, .un] st := rfl
  rw [B_best_round, seq_nx e1, seq_nx e2]
  exact seq_ex rfl
theorem w10 {d a : Nat} {fs : List (Str × PV)} (h1 : st[d]? = some (.ins "Desk" fs)) (h2 : List.lookup ("deeds" : Str) fs = some (PV.ref a)) (h3 : st[a]? = some (.lst [])) : M_Desk_undo [.ref d] st = .exc ⟨"BadDeed", .non⟩ st := by
  refine fnM_ex (seq_ex ?_)
  show s_Desk_undo_2 [.pv (.ref d), .un] st = _
  refine (ifT_ok ?_).trans rfl
  have i : insOf "Desk" st (.ref d) = some fs := by unfold insOf; dsimp only; rw [h1]; exact if_pos rfl
  have f : mFld "Desk" "deeds" (mVar 0) [.pv (.ref d), .un] st = .ok (.ref a) st := by
    unfold mFld
    rw [show mVar 0 [.pv (.ref d), .un] st = .ok (.ref d) st from rfl, ev_bindR, i, Option.bind_some, h2]
  unfold tEqS
  rw [f, ev_bindR, show mLst aNil [.pv (.ref d), .un] st = .ok (.lst []) st from rfl, ev_bindR]
  dsimp only
  rw [h3]
  rfl
end
end K52
end
section
set_option maxRecDepth 100000
set_option maxHeartbeats 1000000
namespace K52
open PySem L2 Mp Ge Sp Tel
section
variable {st : Sto} {m : Int}
def lnT (m : Int) : List Nat := [80, 79, 73, 78, 84, 32, 97, 32, 40] ++ numT m ++ [41]
theorem lnT_none : ∀ k : Nat, k < 901 → lineP (lnT (k : Int)) = none := by decide +kernel
theorem lnT_as : ∀ k : Nat, k < 901 → (lnT (k : Int)).all (fun c => decide (c < 128 ∧ c ≠ 10)) = true ∧ (lnT (k : Int)).length ≤ 20 := by decide +kernel
theorem w6 (h : 1 ≤ m ∧ m ≤ 900) : M_read [.str (S (lnT m ++ [10]))] st = .exc ⟨"BadText", .tup [.str "line", .int 1]⟩ st := by
  obtain ⟨k, rfl⟩ : ∃ k : Nat, m = (k : Int) := ⟨m.toNat, by omega⟩
  obtain ⟨a1, a2⟩ := lnT_as k (by omega)
  have a := fun c hc => by simpa using List.all_eq_true.mp a1 c hc
  have ef : flat [lnT (k : Int)] = lnT (k : Int) ++ [10] := by unfold flat; simp
  rw [← ef]
  have := read_ev (st := st) (ls := [lnT (k : Int)]) (fun x hx => by
    rw [List.mem_singleton.mp hx]
    exact ⟨fun c hc => (a c hc).1, fun hc => (a 10 hc).2 rfl⟩) (by rw [ef]; simp; omega)
  have r : readL 0 [lnT (k : Int)] = .error 1 := by unfold readL; rw [lnT_none k (by omega)]
  rw [r] at this
  exact this
end
end K52
end
section
set_option maxRecDepth 100000
set_option maxHeartbeats 1000000
namespace K52
open PySem L2 Mp Ge Sp Tel
section
variable {st : Sto} {m : Int} {sc : PV} {n d i : Nat}
theorem roll_ev {k0 : Nat} {m : Int} (g : Gs k0 st) (hn : n < k0) (h0 : 0 < m) (h1 : m < 1000000000) : ∃ v st', M_law_roll [.ref n, .int m] st = .ok (.int v) st' ∧ 0 ≤ v ∧ v < m ∧ Gs k0 st' := roll_k g hn h0 h1
theorem fld_ev {s1 js ks : Sto} {f : Str} {v : PV} {fs : List (Str × PV)} {mv : EM} (hm : mv [.pv (.ref s1.length)] (s1 ++ js) = .ok v (s1 ++ .ins "Desk" fs :: ks)) (hl : fs.length < 1000) :
    sFldM "Desk" f (mVar 0) mv [.pv (.ref s1.length)] (s1 ++ js) = .nx [.pv (.ref s1.length)] (s1 ++ .ins "Desk" (putA f v fs) :: ks) := by
  unfold sFldM
  rw [hm, ev_bindF, show mVar 0 [.pv (.ref s1.length)] (s1 ++ .ins "Desk" fs :: ks) = .ok (.ref s1.length) _ from rfl, ev_bindF]
  have e : insOf "Desk" (s1 ++ .ins "Desk" fs :: ks) (.ref s1.length) = some fs := by
    unfold insOf
    dsimp only
    rw [List.getElem?_append_right (Nat.le_refl _), Nat.sub_self]
    exact if_pos rfl
  rw [e]
  dsimp only
  rw [if_pos hl]
  congr 1
  show List.set _ s1.length _ = _
  rw [List.set_append_right _ _ (Nat.le_refl _), Nat.sub_self]
  rfl
def deskF (d : Nat) : List (Str × PV) := [("things", .ref (d + 1)), ("deeds", .ref (d + 2)), ("undone", .ref (d + 3))]
def deskO (d : Nat) : Sto := [.ins "Desk" (deskF d), .dct [] [], .lst [], .lst []]
theorem new_ev {env : MEnv} {s1 : Sto} : mNew "Desk" 1 M_Desk_init aNil env s1 = .ok (.ref s1.length) (s1 ++ deskO s1.length) := by
  have e1 : s_Desk_init_1 [.pv (.ref s1.length)] (s1 ++ [.ins "Desk" []]) = .nx [.pv (.ref s1.length)] (s1 ++ [.ins "Desk" [("things", .ref (s1.length + 1))], .dct [] []]) := fld_ev (fs := []) (ks := [.dct [] []]) (v := .ref (s1.length + 1)) (by
    show MRes.ok (PV.ref (s1 ++ [_]).length) _ = _
    simp) (by decide)
  have e2 : s_Desk_init_2 [.pv (.ref s1.length)] (s1 ++ [.ins "Desk" [("things", .ref (s1.length + 1))], .dct [] []]) = .nx [.pv (.ref s1.length)] (s1 ++ [.ins "Desk" [("things", .ref (s1.length + 1)), ("deeds", .ref (s1.length + 2))], .dct [] [], .lst []]) := fld_ev (fs := [("things", .ref (s1.length + 1))]) (ks := [.dct [] [], .lst []]) (v := .ref (s1.length + 2)) (by
    show MRes.ok (PV.ref (s1 ++ [_, _]).length) _ = _
    simp) (by show 1 < 1000; decide)
  have e3 : s_Desk_init_3 [.pv (.ref s1.length)] (s1 ++ [.ins "Desk" [("things", .ref (s1.length + 1)), ("deeds", .ref (s1.length + 2))], .dct [] [], .lst []]) = .nx [.pv (.ref s1.length)] (s1 ++ deskO s1.length) := fld_ev (fs := [("things", .ref (s1.length + 1)), ("deeds", .ref (s1.length + 2))]) (ks := [.dct [] [], .lst [], .lst []]) (v := .ref (s1.length + 3)) (by
    show MRes.ok (PV.ref (s1 ++ [_, _, _]).length) _ = _
    simp) (by show 2 < 1000; decide)
  have e : M_Desk_init [.ref s1.length] (s1 ++ [.ins "Desk" []]) = .ok .non (s1 ++ deskO s1.length) := by
    show (match B_Desk_init [.pv (.ref s1.length)] (s1 ++ [.ins "Desk" []]) with | .nx _ s => MRes.ok PV.non s | .rt v s => .ok v s | .ex x s => .exc x s | _ => .bad) = _
    rw [B_Desk_init, seq_nx e1, seq_nx e2, e3]
  unfold mNew
  rw [show aNil env s1 = .ok [] s1 from rfl, ev_bindR, if_pos (show ([] : List PV).length + 1 = 1 from rfl), e]
theorem undo_ev {env : MEnv} {s1 : Sto} (he : env[3]? = some (.pv (.ref s1.length))) : mMeth "Desk" "undo" 1 M_Desk_undo (mVar 3) aNil env (s1 ++ deskO s1.length) = .exc ⟨"BadDeed", .non⟩ (s1 ++ deskO s1.length) := by
  have g : ∀ j, (s1 ++ deskO s1.length)[s1.length + j]? = (deskO s1.length)[j]? := fun j => by
    rw [List.getElem?_append_right (Nat.le_add_right _ _), Nat.add_sub_cancel_left]
  have h1 := g 0
  have e : insOf "Desk" (s1 ++ deskO s1.length) (.ref s1.length) = some (deskF s1.length) := by
    unfold insOf
    dsimp only
    rw [show (s1 ++ deskO s1.length)[s1.length]? = some (.ins "Desk" (deskF s1.length)) from h1]
    exact if_pos rfl
  unfold mMeth
  rw [mv_ok he, ev_bindR, e]
  dsimp only
  have lk : (List.lookup ("undo" : Str) (deskF s1.length)).isNone = true := rfl
  rw [if_pos lk, show aNil env (s1 ++ deskO s1.length) = .ok [] _ from rfl, ev_bindR, if_pos (show ([] : List PV).length + 1 = 1 from rfl)]
  exact w10 (fs := deskF s1.length) (a := s1.length + 2) h1 rfl (g 2)
theorem row_one {hs : List (Str × List Bool)} {me : EM} {env : MEnv} {s : Sto} {x : MExc} {v : PV} (h : me env st = .exc x s) (h2 : tellR hs x = some v) : mRowT hs me env st = .ok v s := by
  unfold mRowT
  rw [h]
  dsimp only
  rw [h2]
theorem wl {hs : List (Str × List Bool)} {ki i : Nat} {mr me : EM} {ms : List EM} {env : MEnv} {st : Sto} {x : MExc} {v : PV} (h1 : me (env.set ki (.pv (.int (i : Nat)))) st = .exc x st) (h0 : tellR hs x = some v) (h2 : mr (env.set ki (.pv (.int (i : Nat)))) st = .ok v st) (h3 : cNe v v = some (.bl false)) :
    whatsL hs ki mr i (me :: ms) env st = whatsL hs ki mr (i + 1) ms (env.set ki .un) st := by
  show (match mRowT hs me (env.set ki (.pv (.int (i : Nat)))) st with
    | .ok v s => (match mr (env.set ki (.pv (.int (i : Nat)))) s with
      | .ok r s' => (match cNe v r with
        | some (.bl false) => whatsL hs ki mr (i + 1) ms (env.set ki .un) s'
        | _ => .bad)
      | _ => .bad)
    | _ => .bad) = _
  rw [row_one h1 h0]
  dsimp only
  rw [h2]
  dsimp only
  rw [h3]
theorem rep_ev {env : MEnv} {s : Sto} (he : env[2]? = some (.pv (.int m))) : mRepU (mTup (aCons (mTup (aCons (mVar 2) (aCons (mC (.int 0)) aNil))) aNil)) (mC (.int 10)) env s = .ok (.tup (List.replicate 10 (.tup [.int m, .int 0]))) s := by
  unfold mRepU
  rw [tup_ok (a1_ok (tup_ok (a2_ok (mv_ok he) (a1_ok rfl)))), ev_bindR, show mC (.int 10) env s = .ok (.int 10) s from rfl, ev_bindR]
  dsimp only
  rw [if_pos ⟨by simp, by simp, by decide, by decide⟩]
  rfl
theorem l2_ev {s1 : Sto} (h : 1 ≤ m ∧ m ≤ 900) : s_law_2 [.pv sc, .pv (.ref n), .pv (.int m), .pv (.ref s1.length), .un, .un, .un] (s1 ++ deskO s1.length) = .nx [.pv sc, .pv (.ref n), .pv (.int m), .pv (.ref s1.length), .un, .un, .un] (s1 ++ deskO s1.length) := by
  unfold s_law_2 sWhats
  rw [if_pos ⟨by simp, by simp⟩]
  refine (wl (call_ok (a2_ok rfl (a2_ok rfl (a1_ok rfl))) (w1 h.1)) rfl rfl rfl).trans ?_
  refine (wl (call_ok (a1_ok rfl) (w2 h.1)) rfl rfl rfl).trans ?_
  refine (wl (call_ok (a1_ok rfl) w3) rfl rfl rfl).trans ?_
  refine (wl (call_ok (a1_ok rfl) (w4 h)) rfl rfl rfl).trans ?_
  refine (wl (call_ok (a1_ok rfl) (w5 h)) rfl rfl rfl).trans ?_
  refine (wl (call_ok (a1_ok (bin_ok (bin_ok (lit_ok rfl) (callB_ok (a1_ok rfl) (str_ev (by omega) _)) (add_S' (by have := numT_len (i := m) (by omega); simp; omega))) (lit_ok (l := [41, 10]) rfl) (add_S' (by have := numT_len (i := m) (by omega); simp; omega)))) (by
    have := w6 (st := s1 ++ deskO s1.length) h
    unfold lnT at this
    rw [List.append_assoc] at this
    exact this)) rfl rfl rfl).trans ?_
  refine (wl (call_ok (a2_ok rfl (a1_ok rfl)) (w7 h.1)) rfl rfl rfl).trans ?_
  refine (wl (call_ok rfl w8) rfl rfl rfl).trans ?_
  refine (wl (call_ok (a1_ok (rep_ev rfl)) (w9 h)) rfl rfl rfl).trans ?_
  have u := undo_ev (env := [.pv sc, .pv (.ref n), .pv (.int m), .pv (.ref s1.length), .un, .pv (.int ((9 : Nat) : Int)), .un]) (s1 := s1) rfl
  refine (wl (i := 9) (ki := 5) (env := [.pv sc, .pv (.ref n), .pv (.int m), .pv (.ref s1.length), .un, .un, .un]) u rfl rfl rfl).trans ?_
  rfl
theorem law_frameS {m N : Nat} {body : SM} {ks : List Nat} (ns : List Int) (hl : ns.length ≤ 63)
    (h : ∀ k n st, n < k → Gs k st → ∃ e st', body ((env0 N [pInts ns]).set 1 (.pv (.ref n))) st = .nx e st' ∧ killE ks e = env0 N [pInts ns] ∧ Gs k st') :
    ∃ s', fnM N (sSeq (sFor (iSeq (mCall 2 (fnM 4 roundsB) (aCons (mVar 0) (aCons (mC (.int (m : Int))) aNil)))) (gNm 1) body ks) (sRet (mC (.bl true)))) [pInts ns] [] = .ok (.bl true) s' := by
  obtain ⟨k, st, e, g, hk⟩ := rounds_ga ns m (by omega)
  have key := forL_ex (gt := gNm 1) (body := body) (ks := ks) PV.ref (fun r env st => env = env0 N [pInts ns] ∧ Gs k st) (List.range k) _ st ⟨rfl, g.2⟩ (by
    rintro n r env st hn ⟨rfl, g⟩
    obtain ⟨e, st', h1, h2, h3⟩ := h k n st (List.mem_range.mp hn) g
    exact ⟨_, e, st', rfl, h1, h2, h3⟩)
  obtain ⟨e2, st2, h1, h2, _⟩ := key
  refine ⟨st2, fnM_rt ?_⟩
  have t : sFor (iSeq (mCall 2 (fnM 4 roundsB) (aCons (mVar 0) (aCons (mC (.int (m : Int))) aNil)))) (gNm 1) body ks (env0 N [pInts ns]) [] = .nx e2 st2 := by
    rw [ev_for, seq_ev2 (call_ok (args := [pInts ns, .int (m : Int)]) (s := []) (a2_ok (mv_ok (by unfold env0; simp)) (a1_ok rfl)) e), ev_bindF]
    exact h1
  rw [seq_nx t]
  rfl
theorem round_ev (ns : List Int) (k n : Nat) (st : Sto) (hn : n < k) (g : Gs k st) : ∃ e st', (sSeq s_law_1 (sSeq s_law_2 sNil)) ((env0 7 [pInts ns]).set 1 (.pv (.ref n))) st = .nx e st' ∧ killE [1, 2, 3, 4, 5] e = env0 7 [pInts ns] ∧ Gs k st' := by
  obtain ⟨v, s1, e1, v0, v1, g1⟩ := roll_ev (m := 900) g hn (by decide) (by decide)
  have b0 : (env0 7 [pInts ns]).set 1 (.pv (.ref n)) = [.pv (pInts ns), .pv (.ref n), .un, .un, .un, .un, .un] := rfl
  have q1 : s_law_1 [.pv (pInts ns), .pv (.ref n), .un, .un, .un, .un, .un] st = .nx [.pv (pInts ns), .pv (.ref n), .pv (.int (1 + v)), .pv (.ref s1.length), .un, .un, .un] (s1 ++ deskO s1.length) :=
    asg_ok (tup_ok (a2_ok (bin_ok rfl (call_ok (a2_ok rfl (a1_ok rfl)) e1) rfl) (a1_ok new_ev))) rfl
  refine ⟨[.pv (pInts ns), .pv (.ref n), .pv (.int (1 + v)), .pv (.ref s1.length), .un, .un, .un], s1 ++ deskO s1.length, ?_, rfl, Gs.app' g1⟩
  rw [b0, seq_nx q1, seq_nx (l2_ev (by omega))]
  rfl
theorem law_ok (ns : List Int) (hl : ns.length ≤ 63) : ∃ s', M_law [pInts ns] [] = .ok (.bl true) s' := law_frameS (m := 3) ns hl (round_ev ns)
end
end K52
theorem PySem.Challenge.cw_maproom_k52_refusals_apart_holds : PySem.Challenge.rw_maproom_k52_refusals_apart.Holds :=
  K52.holds_of fun ns hl _ => K52.law_ok ns hl
end
