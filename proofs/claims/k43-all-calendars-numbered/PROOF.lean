import PyProof.Rows.All
import Wide.All
import OpenK.AllK
import Wide.FinOn
import HandS.ForMost
import HandS.ExcField
import HandS.Lambda
import HandS.Iter
import KE.KDictWalk
import KE.KDictKeyed
import KE.KeyNested
import HandS.Exc
import HandS.ExcOwn
import HandS.TryOnly
import HandS.WordsExc
import HandS.Wide
import HandS.TupAny
import HandS.TupMul
import HandS.IsInst
import HandS.SortInts
import HandS.Deep
import HandS.Walk
import HandS.Defaults
import KE.KExcSuper
import KE.KSuper
import HandS.TryMany
import KE.GoesMore
import KE.GoesEnum
import HandS.Zip
import PyProof.SeqIndex
import HandS.More
import HandS.Style
import HandS.HeadEnd
import HandS.ExcIs
import HandS.Gcd
import HandS.RaiseMore
import HandS.Dict
import KE.SortData
import KE.KRevSl
import HandS.FStrTup
import PyProof.ReprRoads
import PyProof.FitsInt
import HandS.EndTab
import KE.KNestM
import HandS.Small
import KE.KExcIs
import HandS.SetFor
import HandS.Strs
import HandS.DictComp
import KE.KUnpack
import KE.KMathGC
import HandS.Conv
import KE.KDictCopyH
import KE.KDictSum
import KE.SortCalls
import KE.KDictDisplayH
import HandS.Zip0
import PyProof.ZipIter
import HandS.OwnEq
import KE.KDictPairs
import HandS.TupLen
import KE.DataCmp
import PySem.Challenge.RW_datedlines_k43_all_calendars_numbered
set_option Elab.async false
set_option linter.all false
set_option maxRecDepth 100000
namespace Sx
open PySem PySem.Spec PyProof.Rows L2

inductive D where
  | non | bl (b : Bool) | int (i : Int) | str (x : Str) | tup (ds : List D) | ref (n : Nat)
  | flst (ds : List D) | obj (c : Str) (ns : List Str) (ds : List D) | ty (n : String) | gl (x : Str)
  /-- an own error that an except suite holds (only in a slot) -/
  | err (c : Str) (x : D)
  /-- a lambda without parameters: its function object, its code object of the name q, the values that it keeps -/
  | clo (f c : Addr) (q : Str) (vs : List V) (ds : List D)
mutual
def D.beq : D → D → Bool
  | .non, .non => true
  | .bl a, .bl b => a == b
  | .int a, .int b => decide (a = b)
  | .str a, .str b => decide (a = b)
  | .tup a, .tup b => D.beqs a b
  | .ref a, .ref b => Nat.beq a b
  | .flst a, .flst b => D.beqs a b
  | .obj c ns a, .obj d ms b => decide (c = d) && decide (ns = ms) && D.beqs a b
  | .ty a, .ty b => decide (a = b)
  | .gl a, .gl b => decide (a = b)
  | .err a x, .err b y => decide (a = b) && D.beq x y
  | .clo f c q vs a, .clo g e r ws b => decide (f = g) && decide (c = e) && decide (q = r) && decide (vs = ws) && D.beqs a b
  | _, _ => false
def D.beqs : List D → List D → Bool
  | [], [] => true
  | a :: r, b :: s => D.beq a b && D.beqs r s
  | _, _ => false
end
mutual
theorem D.beq_eq : ∀ (a b : D), D.beq a b = true → a = b
  | .non, b, h => by cases b <;> simp_all [D.beq]
  | .bl a, b, h => by cases b <;> simp_all [D.beq]
  | .int a, b, h => by cases b <;> simp_all [D.beq]
  | .str a, b, h => by cases b <;> simp_all [D.beq]
  | .tup a, b, h => by
      cases b <;> simp [D.beq] at h
      rw [D.beqs_eq a _ h]
  | .ref a, b, h => by cases b <;> simp_all [D.beq]
  | .flst a, b, h => by
      cases b <;> simp [D.beq] at h
      rw [D.beqs_eq a _ h]
  | .obj c ns a, b, h => by
      cases b <;> simp [D.beq] at h
      rw [D.beqs_eq a _ h.2, h.1.1, h.1.2]
  | .ty a, b, h => by cases b <;> simp_all [D.beq]
  | .gl a, b, h => by cases b <;> simp_all [D.beq]
  | .err a x, b, h => by
      cases b <;> simp [D.beq] at h
      rw [D.beq_eq x _ h.2, h.1]
  | .clo f c q vs a, b, h => by
      cases b <;> simp [D.beq] at h
      rw [D.beqs_eq a _ h.2, h.1.1.1.1, h.1.1.1.2, h.1.1.2, h.1.2]
theorem D.beqs_eq : ∀ (a b : List D), D.beqs a b = true → a = b
  | [], b, h => by cases b <;> simp_all [D.beqs]
  | x :: r, b, h => by
      cases b <;> simp [D.beqs] at h
      rw [D.beq_eq x _ h.1, D.beqs_eq r _ h.2]
end
mutual
theorem D.beq_refl : ∀ (a : D), D.beq a a = true
  | .non => rfl
  | .bl a => by simp [D.beq]
  | .int a => by simp [D.beq]
  | .str a => by simp [D.beq]
  | .tup a => by simp [D.beq, D.beqs_refl a]
  | .ref a => by simp [D.beq]
  | .flst a => by simp [D.beq, D.beqs_refl a]
  | .obj c ns a => by simp [D.beq, D.beqs_refl a]
  | .ty a => by simp [D.beq]
  | .gl a => by simp [D.beq]
  | .err a x => by simp [D.beq, D.beq_refl x]
  | .clo f c q vs a => by simp [D.beq, D.beqs_refl a]
theorem D.beqs_refl : ∀ (a : List D), D.beqs a a = true
  | [] => rfl
  | x :: r => by simp [D.beqs, D.beq_refl x, D.beqs_refl r]
end
instance : DecidableEq D := fun a b => if h : D.beq a b = true then isTrue (D.beq_eq a b h) else isFalse fun e => h (e ▸ D.beq_refl a)

def D.isErr : D → Bool
  | .err _ _ => true
  | _ => false
inductive O where
  | lst (ds : List D)
  | dic (kvs : List (L2.Key × D))
  /-- the table of code objects of the def y, all named q -/
  | tab (y q : Str)
  /-- a dict by tuples -/
  | dcd (kvs : List (D × D))
  /-- a dict that is never written again -/
  | dif (kvs : List (L2.Key × D))
abbrev Hc := List (Bool × O)

inductive Res (α : Type) where
  | ok (a : α) (h : Hc)
  | exn (c : Str) (x : D) (h : Hc)
  | stuck
inductive Fl where
  | nx | ret (d : D) | bk | ct | exn (c : Str) (x : D)
inductive ResS where
  | ok (f : Fl) (ρ : List (Option D)) (h : Hc)
  | stuck
abbrev Rho := List (Option D)
abbrev CE := Rho → Hc → Res D
abbrev CT := Rho → Hc → Res Bool
abbrev CA := Rho → Hc → Res (List D)
abbrev CS := Rho → Hc → ResS

def Res.bind {α β : Type} (r : Res α) (f : α → Hc → Res β) : Res β := match r with
  | .ok a h => f a h
  | .exn c x h => .exn c x h
  | .stuck => .stuck

structure Wb where
  K : PySem.W.Frag
  mg : Str → Option Value
structure Wd extends Wb where
  ex : Option (Addr × Addr × Addr)
instance : Coe Wd Wb := ⟨Wd.toWb⟩
abbrev wWhat : Str := "what"
def FzL (K : PySem.W.Frag) (H : Hp) (a : Addr) (xs : List V) : Prop :=
  (∃ o, H a = some (.frz o (.lst xs))) ∨
    ∃ (o : Obj) (its : Array Value) (n : Nat), K.lookup a = some o ∧ o.cls = .type "list" ∧ o.dict = none ∧ o.data = .seq its n ∧ its.size ≤ sizeLine ∧ Vals xs its.toList
theorem FzL.seq {K : PySem.W.Frag} {H : Hp} {a : Addr} {xs : List V} (h : FzL K H a xs) : SqL K H a xs := by
  rcases h with h | h
  · exact .inl (.inr h)
  · exact .inr h

def TpL (K : PySem.W.Frag) (H : Hp) (a : Addr) (xs : List V) : Prop :=
  (∃ o : Obj, H a = some (.frz o (.tup xs)) ∧ o.dict = none) ∨
    ∃ (o : Obj) (its : Array Value) (n : Nat), K.lookup a = some o ∧ o.cls = .type "tuple" ∧ o.dict = none ∧ o.data = .seq its n ∧ its.size ≤ sizeLine ∧ Vals xs its.toList
theorem TpL.seq {K : PySem.W.Frag} {H : Hp} {a : Addr} {xs : List V} (h : TpL K H a xs) : SqT K H a xs := by
  rcases h with ⟨o, h, _⟩ | ⟨o, its, n, h1, h2, _, h3⟩
  · exact .inl (.inr ⟨o, h⟩)
  · exact .inr ⟨o, its, n, h1, h2, h3⟩
mutual
def RD (W : Wb) (μ : List Addr) (H : Hp) : D → V → Prop
  | .non, v => v = .non
  | .bl b, v => v = .bl b
  | .int i, v => v = .int i
  | .str x, v => v = .str x
  | .tup ds, v => ∃ a vs, v = .ref a ∧ TpL W.K H a vs ∧ RDs W μ H ds vs
  | .ref n, v => ∃ a, μ[n]? = some a ∧ v = .ref a
  | .flst ds, v => ∃ a vs, v = .ref a ∧ FzL W.K H a vs ∧ RDs W μ H ds vs
  | .obj c ns ds, v => ∃ a C dx vs, v = .ref a ∧ W.mg c = some (.ref C) ∧ H a = some (.ins C dx (ns.zip vs)) ∧ ns.length = ds.length ∧ RDs W μ H ds vs
  | .ty n, v => v = .ty n
  | .gl x, v => ∃ C, W.mg x = some (.ref C) ∧ v = .ref C
  | .err _ _, _ => False
  | .clo f c q vs ds, v => v = .ref f ∧ H c = some (LamX.CodeO c q) ∧ RDs W μ H ds vs
def RDs (W : Wb) (μ : List Addr) (H : Hp) : List D → List V → Prop
  | [], vs => vs = []
  | d :: ds, vs => ∃ v r, vs = v :: r ∧ RD W μ H d v ∧ RDs W μ H ds r
end
mutual
def keyN : D → Option NestedKey
  | .non => some .none
  | .int i => some (.num i)
  | .tup ds => match keyNs ds with
    | some ks => some (.tup ks)
    | none => none
  | _ => none
def keyNs : List D → Option (List NestedKey)
  | [] => some []
  | d :: r => match keyN d with
    | some k => match keyNs r with
      | some ks => some (k :: ks)
      | none => none
    | none => none
end
def keyT : D → Option NestedKey
  | .tup ds => match keyNs ds with
    | some ks => if (NestedKey.tup ks).depth ≤ 8 then some (.tup ks) else none
    | none => none
  | _ => none
def EntR (W : Wb) (μ : List Addr) (H : Hp) (k d : D) (e : DictEntry) : Prop :=
  ∃ (b : Addr) (v : V) (nk : NestedKey), e.key = .ref b ∧ keyT k = some nk ∧ (∀ w : World, e.hash = nk.hash w) ∧ RD W μ H k (.ref b) ∧ RelV v e.val ∧ RD W μ H d v
def EntRs (W : Wb) (μ : List Addr) (H : Hp) : List (D × D) → List DictEntry → Prop
  | [], es => es = []
  | p :: r, es => ∃ e t, es = e :: t ∧ EntR W μ H p.1 p.2 e ∧ EntRs W μ H r t
def theTab (K : PySem.W.Frag) (f : Addr) : Addr := match K.lookup f with
  | some ⟨_, _, .func fd, _⟩ => (match fd.code with
    | .ref c => (match K.lookup c with
      | some ⟨_, _, .fields vs, _⟩ => (match (vs[11]? : Option Value) with
        | some (.ref P) => P
        | _ => 0)
      | _ => 0)
    | _ => 0)
  | _ => 0
def RO (W : Wb) (μ : List Addr) (H : Hp) (a : Addr) : Bool × O → Prop
  | (_, .lst ds) => ∃ vs, H a = some (.lst vs) ∧ RDs W μ H ds vs
  | (f, .dic kvs) => ∃ vs, (H a = some (.dK ((kvs.map (·.1)).zip vs)) ∨ (f = true ∧ ∃ o, H a = some (.frz o (.dK ((kvs.map (·.1)).zip vs))))) ∧ RDs W μ H (kvs.map (·.2)) vs
  | (f, .dif kvs) => f = true ∧ ∃ vs o, H a = some (.frz o (.dK ((kvs.map (·.1)).zip vs))) ∧ RDs W μ H (kvs.map (·.2)) vs
  | (_, .dcd kvs) => (a == sysModules) = false ∧ (kvs.map (·.1)).Nodup ∧ kvs.length ≤ sizeLine ∧ ∃ (es : Array DictEntry) (ep : Nat), H a = some (.ext fun h => h.DictRaw a es ep) ∧ EntRs W μ H kvs es.toList
  | (_, .tab y q) => ∃ ps : Array Value, H a = some (.tbl ps) ∧ (TriplesOk ps.toList ∧ ∃ f, W.mg y = some (.ref f) ∧ a = theTab W.K f) ∧ ∀ (pos : Pos) (cv : Value), codeAmong pos ps.toList = some cv → ∃ c, cv = .ref c ∧ H c = some (LamX.CodeO c q)
def isMut : HO → Bool
  | .lst _ => true
  | .ext _ => true
  | .dK _ => true
  | .dT _ => true
  | .set _ _ => true
  | .tbl _ => true
  | _ => false
structure R (W : Wb) (μ : List Addr) (h : Hc) (H : Hp) : Prop where
  len : μ.length = h.length
  nd : μ.Nodup
  ob : ∀ (n : Nat) (a : Addr) (p : Bool × O), μ[n]? = some a → h[n]? = some p → RO W μ H a p
def RX (W : Wd) (μ : List Addr) (H : Hp) (c : Str) (x : D) (v : V) : Prop := ∃ a C dd u, W.ex = some (a, C, dd) ∧ v = .ref a ∧ W.mg c = some (.ref C) ∧ H dd = some (.xd [(wWhat, u)]) ∧ RD W μ H x u ∧ XfC W.K C ∧ PySem.W.findIn W.K (.ref C) wWhat = some none
def RV (W : Wd) (μ : List Addr) (H : Hp) (d : D) (v : V) : Prop := RD W μ H d v ∨ ∃ c x, d = .err c x ∧ RX W μ H c x v
def RS (W : Wd) (μ : List Addr) (H : Hp) (ρ : Rho) (σ : L2.St) : Prop :=
  ρ.length = σ.length ∧ ∀ (i : Nat) (d : D), ρ[i]? = some (some d) → ∃ v, σ[i]? = some (some v) ∧ RV W μ H d v
def HcExt (h h' : Hc) : Prop := ∀ (n : Nat) (p : Bool × O), h[n]? = some p → ∃ q, h'[n]? = some q ∧ (p.1 = true → q = p)
structure Ext (μ : List Addr) (h : Hc) (H : Hp) (μ' : List Addr) (h' : Hc) (H' : Hp) : Prop where
  pre : ∃ m, μ' = μ ++ m ∧ ∀ a ∈ m, H a = none
  frame : ∀ a o, H a = some o → (∀ (n : Nat) (p : Bool × O), μ[n]? = some a → h[n]? = some p → p.1 = true) → H' a = some o
  dom : ∀ a, H a ≠ none → H' a ≠ none
  hc : HcExt h h'

theorem HcExt.refl (h : Hc) : HcExt h h := fun _ p e => ⟨p, e, fun _ => rfl⟩
theorem HcExt.lk {h h' : Hc} (a : HcExt h h') {n : Nat} {o : O} (e : h[n]? = some (true, o)) : ∃ o', h'[n]? = some (true, o') ∧ (True → o' = o) := by
  obtain ⟨q, e1, e2⟩ := a n _ e
  exact ⟨o, by rw [e1, e2 rfl], fun _ => rfl⟩
theorem HcExt.trans {h h1 h2 : Hc} (a : HcExt h h1) (b : HcExt h1 h2) : HcExt h h2 := fun n p e => by
  obtain ⟨q1, e1, l1⟩ := a n p e
  obtain ⟨q2, e2, l2⟩ := b n _ e1
  exact ⟨q2, e2, fun q => by
    have z := l1 q
    subst z
    exact l2 q⟩
theorem HcExt.len {h h' : Hc} (a : HcExt h h') : h.length ≤ h'.length := by
  apply Nat.le_of_not_lt
  intro q
  have e : h[h'.length]? = some h[h'.length] := List.getElem?_eq_getElem q
  obtain ⟨o, e1, _⟩ := a _ _ e
  have := (List.getElem?_eq_some_iff.mp e1).1
  omega

section
variable {W : Wb} {μ μ' μ'' : List Addr} {h h' h'' : Hc} {H H' H'' : Hp} {ρ : Rho} {σ : L2.St} {d : D} {ds : List D} {v : V} {vs : List V}
theorem Ext.refl : Ext μ h H μ h H := ⟨⟨[], by simp, by simp⟩, fun _ _ e _ => e, fun _ z => z, .refl _⟩
theorem RO.some {a : Addr} {p : Bool × O} (x : RO W μ H a p) : ∃ o, H a = some o ∧ (isMut o = true ∨ p.1 = true) := by
  obtain ⟨l, o⟩ := p
  cases o with
  | lst ds => obtain ⟨vs, e, _⟩ := x; exact ⟨_, e, .inl rfl⟩
  | dic kvs =>
    obtain ⟨vs, e, _⟩ := x
    rcases e with e | ⟨e1, o, e⟩
    · exact ⟨_, e, .inl rfl⟩
    · exact ⟨_, e, .inr e1⟩
  | tab y q => obtain ⟨ps, e, _⟩ := x; exact ⟨_, e, .inl rfl⟩
  | dcd kvs => obtain ⟨_, _, _, es, ep, e, _⟩ := x; exact ⟨_, e, .inl rfl⟩
  | dif kvs => obtain ⟨f, vs, o, e, _⟩ := x; exact ⟨_, e, .inr f⟩
theorem ext_ne {a : Addr} {es : Array DictEntry} {ep : Nat} {q : Str} : (HO.ext fun h => h.DictRaw a es ep) ≠ LamX.CodeO a q := by
  intro z
  unfold LamX.CodeO at z
  injection z with z
  let o0 : Obj := { cls := .none, data := .fields #[.none, .str q default] }
  let h0 : Heap := { objs := (List.replicate a o0 ++ [o0]).toArray }
  have g0 : h0.get? a = some o0 := by
    have : h0.objs[a]? = some o0 := by simp [h0]
    unfold Heap.get?
    rw [this]
  have c := congrFun z h0
  have d : h0.DictRaw a es ep := by
    rw [c]
    exact ⟨o0, #[.none, .str q default], default, g0, rfl, rfl⟩
  obtain ⟨o, e1, _, e2⟩ := d
  rw [g0] at e1
  cases e1
  cases e2
theorem RO.nc {a c : Addr} {q : Str} {p : Bool × O} (x : RO W μ H a p) (e : H c = Option.some (LamX.CodeO c q)) : c ≠ a := by
  rintro rfl
  have e0 := e
  unfold LamX.CodeO at e
  obtain ⟨l, o⟩ := p
  cases o with
  | lst ds => obtain ⟨vs, z, _⟩ := x; rw [e] at z; cases z
  | dic kvs =>
    obtain ⟨vs, z, _⟩ := x
    rcases z with z | ⟨_, o, z⟩ <;> (rw [e] at z; cases z)
  | tab y q => obtain ⟨ps, z, _⟩ := x; rw [e] at z; cases z
  | dcd kvs =>
    obtain ⟨_, _, _, es, ep, z, _⟩ := x
    rw [e0] at z
    exact ext_ne (Option.some.inj z).symm
  | dif kvs =>
    obtain ⟨_, vs, o, z, _⟩ := x
    rw [e] at z; cases z
theorem EntRs.mono {W : Wb} {μ μ' : List Addr} {H H' : Hp} (f : ∀ d v, RD W μ H d v → RD W μ' H' d v) : ∀ {l : List (D × D)} {es : List DictEntry}, EntRs W μ H l es → EntRs W μ' H' l es
  | [], es, r => r
  | p :: l, es, ⟨e, t, h1, ⟨b, v, nk, e1, e2, e3, e4, e5, e6⟩, h3⟩ => ⟨e, t, h1, ⟨b, v, nk, e1, e2, e3, f _ _ e4, e5, f _ _ e6⟩, EntRs.mono f h3⟩
theorem RO.keepD {W : Wb} {μ μ' : List Addr} {H H' : Hp} {a : Addr} {l l' : Bool} {kvs : List (D × D)} (x : RO W μ H a (l, .dcd kvs)) (e : H' a = H a) (f : ∀ d v, RD W μ H d v → RD W μ' H' d v) : RO W μ' H' a (l', .dcd kvs) := by
  obtain ⟨h1, h2, h3, es, ep, h4, h5⟩ := x
  exact ⟨h1, h2, h3, es, ep, by rw [e]; exact h4, h5.mono f⟩
theorem RDs.mono {W : Wb} {μ μ' : List Addr} {H H' : Hp} (f : ∀ d v, RD W μ H d v → RD W μ' H' d v) : ∀ {ds : List D} {vs : List V}, RDs W μ H ds vs → RDs W μ' H' ds vs
  | [], vs, e => by simpa only [RDs] using e
  | d :: ds, vs, e => by
    simp only [RDs] at e ⊢
    obtain ⟨v, r, e1, e2, e3⟩ := e
    exact ⟨v, r, e1, f _ _ e2, RDs.mono f e3⟩
theorem RO.keepF {W : Wb} {μ μ' : List Addr} {H H' : Hp} {a : Addr} {l : Bool} {kvs : List (L2.Key × D)} (x : RO W μ H a (l, .dif kvs)) (e : H' a = H a) (f : ∀ d v, RD W μ H d v → RD W μ' H' d v) : RO W μ' H' a (l, .dif kvs) := by
  obtain ⟨h1, vs, o, h2, h3⟩ := x
  exact ⟨h1, vs, o, by rw [e]; exact h2, RDs.mono f h3⟩
theorem R.at (x : R W μ h H) {n : Nat} {a : Addr} (e : μ[n]? = some a) : ∃ p, h[n]? = some p ∧ RO W μ H a p := by
  have hn : n < h.length := by rw [← x.len]; exact (List.getElem?_eq_some_iff.mp e).1
  have e2 : h[n]? = some h[n] := List.getElem?_eq_getElem hn
  exact ⟨_, e2, x.ob n a _ e e2⟩
theorem R.notin (x : R W μ h H) {p : Addr} (hp : H p = none) : p ∉ μ := fun hm => by
  obtain ⟨n, e⟩ := List.mem_iff_getElem?.mp hm
  obtain ⟨_, _, ro⟩ := x.at e
  obtain ⟨o, e2, _⟩ := ro.some
  rw [hp] at e2; cases e2
theorem Ext.trans (x : R W μ h H) (a : Ext μ h H μ' h' H') (b : Ext μ' h' H' μ'' h'' H'') : Ext μ h H μ'' h'' H'' := by
  obtain ⟨⟨m, e1, f1⟩, fr1, d1, c1⟩ := a
  obtain ⟨⟨m2, e2, f2⟩, fr2, d2, c2⟩ := b
  refine ⟨⟨m ++ m2, by rw [e2, e1, List.append_assoc], fun a ha => ?_⟩, fun a o e k => fr2 a o (fr1 a o e k) fun n p e3 e4 => ?_, fun a z => d2 a (d1 a z), c1.trans c2⟩
  · rcases List.mem_append.mp ha with z | z
    · exact f1 a z
    · apply Classical.byContradiction
      intro q
      exact d1 a q (f2 a z)
  · subst e1
    by_cases hn : n < μ.length
    · rw [List.getElem?_append_left hn] at e3
      have hh : n < h.length := by rw [← x.len]; exact hn
      have e5 : h[n]? = some h[n] := List.getElem?_eq_getElem hh
      obtain ⟨o', e6, e7⟩ := c1 n _ e5
      rw [e4] at e6
      have := k n _ e3 e5
      cases e6
      rw [e7 this]
      exact this
    · have hn' : μ.length ≤ n := Nat.le_of_not_lt hn
      rw [List.getElem?_append_right hn'] at e3
      have := f1 a (List.mem_of_getElem? e3)
      rw [e] at this; cases this
theorem Ext.fix (b : Ext μ h H μ' h' H') (x : R W μ h H) {a : Addr} {o : HO} (e : H a = some o) (hm : isMut o = false) : H' a = some o := by
  refine b.frame a o e fun n p e1 e2 => ?_
  obtain ⟨u, e3, hu⟩ := (x.ob n a p e1 e2).some
  rw [e] at e3; cases e3
  rcases hu with hu | hu
  · rw [hm] at hu; cases hu
  · exact hu
theorem Ext.sqT (b : Ext μ h H μ' h' H') (x : R W μ h H) {a : Addr} (e : SqT W.K H a vs) : SqT W.K H' a vs := by
  rcases e with (e | ⟨o, e⟩) | e
  · exact .inl (.inl (b.fix x e rfl))
  · exact .inl (.inr ⟨o, b.fix x e rfl⟩)
  · exact .inr e
theorem Ext.tpL (b : Ext μ h H μ' h' H') (x : R W μ h H) {a : Addr} (e : TpL W.K H a vs) : TpL W.K H' a vs := by
  rcases e with ⟨o, e, d⟩ | e
  · exact .inl ⟨o, b.fix x e rfl, d⟩
  · exact .inr e
theorem Ext.fzL (b : Ext μ h H μ' h' H') (x : R W μ h H) {a : Addr} (e : FzL W.K H a vs) : FzL W.K H' a vs := by
  rcases e with ⟨o, e⟩ | e
  · exact .inl ⟨o, b.fix x e rfl⟩
  · exact .inr e
theorem Ext.mu (b : Ext μ h H μ' h' H') {n : Nat} {a : Addr} (e : μ[n]? = some a) : μ'[n]? = some a := by
  obtain ⟨⟨m, e1, _⟩, _⟩ := b
  rw [e1, List.getElem?_append_left (List.getElem?_eq_some_iff.mp e).1, e]
mutual
theorem RD.ext (b : Ext μ h H μ' h' H') (x : R W μ h H) : ∀ (d : D) (v : V), RD W μ H d v → RD W μ' H' d v
  | .non, v, e => by simpa only [RD] using e
  | .bl _, v, e => by simpa only [RD] using e
  | .int _, v, e => by simpa only [RD] using e
  | .str _, v, e => by simpa only [RD] using e
  | .tup ds, v, e => by
    simp only [RD] at e ⊢
    obtain ⟨a, vs, e1, e2, e3⟩ := e
    exact ⟨a, vs, e1, b.tpL x e2, RDs.ext b x ds vs e3⟩
  | .ref n, v, e => by
    simp only [RD] at e ⊢
    obtain ⟨a, e1, e2⟩ := e
    exact ⟨a, b.mu e1, e2⟩
  | .flst ds, v, e => by
    simp only [RD] at e ⊢
    obtain ⟨a, vs, e1, e2, e3⟩ := e
    exact ⟨a, vs, e1, b.fzL x e2, RDs.ext b x ds vs e3⟩
  | .obj c ns ds, v, e => by
    simp only [RD] at e ⊢
    obtain ⟨a, C, dx, vs, e1, e2, e3, e4, e5⟩ := e
    exact ⟨a, C, dx, vs, e1, e2, b.fix x e3 rfl, e4, RDs.ext b x ds vs e5⟩
  | .ty _, v, e => by simpa only [RD] using e
  | .gl _, v, e => by simpa only [RD] using e
  | .err _ _, v, e => by simp only [RD] at e
  | .clo f c q vs ds, v, e => by
    simp only [RD] at e ⊢
    obtain ⟨e1, e2, e3⟩ := e
    refine ⟨e1, b.frame c _ e2 fun n p q1 q2 => absurd rfl ((x.ob n c p q1 q2).nc e2), RDs.ext b x ds vs e3⟩
theorem RDs.ext (b : Ext μ h H μ' h' H') (x : R W μ h H) : ∀ (ds : List D) (vs : List V), RDs W μ H ds vs → RDs W μ' H' ds vs
  | [], vs, e => by simpa only [RDs] using e
  | d :: ds, vs, e => by
    simp only [RDs] at e ⊢
    obtain ⟨v, r, e1, e2, e3⟩ := e
    exact ⟨v, r, e1, RD.ext b x d v e2, RDs.ext b x ds r e3⟩
end
theorem RV.ext {W : Wd} (b : Ext μ h H μ' h' H') (x : R W μ h H) {d : D} {v : V} (e : RV W μ H d v) : RV W μ' H' d v := by
  rcases e with e | ⟨c, y, rfl, a, C, dd, u, e1, e2, e3, e4, e5, e6⟩
  · exact .inl (RD.ext b x d v e)
  · exact .inr ⟨c, y, rfl, a, C, dd, u, e1, e2, e3, b.fix x e4 rfl, RD.ext b x y u e5, e6⟩
theorem RS.ext {W : Wd} (b : Ext μ h H μ' h' H') (x : R W μ h H) (e : RS W μ H ρ σ) : RS W μ' H' ρ σ :=
  ⟨e.1, fun i d q => let ⟨v, e1, e2⟩ := e.2 i d q; ⟨v, e1, RV.ext b x e2⟩⟩
theorem RV.rd {W : Wd} {μ : List Addr} {H : Hp} {d : D} {v : V} (r : RV W μ H d v) (h : ¬ d.isErr = true) : RD W μ H d v := by
  rcases r with r | ⟨c, y, rfl, _⟩
  · exact r
  · exact absurd rfl h
def noErr (ρ : Rho) : Bool := ρ.all fun o => match o with | some (.err _ _) => false | _ => true
theorem RS.world {W W' : Wd} (e : RS W μ H ρ σ) (hb : W.toWb = W'.toWb) (hn : noErr ρ = true) : RS W' μ H ρ σ := by
  refine ⟨e.1, fun i d q => ?_⟩
  obtain ⟨v, e1, e2⟩ := e.2 i d q
  refine ⟨v, e1, .inl ?_⟩
  rcases e2 with e2 | ⟨c, y, rfl, _⟩
  · rw [← hb]; exact e2
  · have := List.all_eq_true.mp hn _ (List.mem_of_getElem? q)
    simp at this

theorem RDs.nil : RDs W μ H [] [] := by simp only [RDs]
theorem RDs.cons (a : RD W μ H d v) (b : RDs W μ H ds vs) : RDs W μ H (d :: ds) (v :: vs) := by
  simp only [RDs]; exact ⟨v, vs, rfl, a, b⟩
theorem RDs.len : ∀ {ds : List D} {vs : List V}, RDs W μ H ds vs → ds.length = vs.length
  | [], vs, e => by simp only [RDs] at e; subst e; rfl
  | d :: ds, vs, e => by
    simp only [RDs] at e
    obtain ⟨v, r, rfl, _, e3⟩ := e
    simp [RDs.len e3]
theorem RDs.get : ∀ {ds : List D} {vs : List V} {i : Nat} {d : D}, RDs W μ H ds vs → ds[i]? = some d → ∃ v, vs[i]? = some v ∧ RD W μ H d v
  | [], vs, i, d, e, q => by simp at q
  | d' :: ds, vs, 0, d, e, q => by
    simp only [RDs] at e
    obtain ⟨v, r, rfl, e2, e3⟩ := e
    simp at q; subst q
    exact ⟨v, rfl, e2⟩
  | d' :: ds, vs, i + 1, d, e, q => by
    simp only [RDs] at e
    obtain ⟨v, r, rfl, e2, e3⟩ := e
    obtain ⟨v', h1, h2⟩ := RDs.get (i := i) e3 (by simpa using q)
    exact ⟨v', by simpa using h1, h2⟩
theorem RDs.getV : ∀ {ds : List D} {vs : List V} {i : Nat} {v : V}, RDs W μ H ds vs → vs[i]? = some v → ∃ d, ds[i]? = some d ∧ RD W μ H d v
  | [], vs, i, d, e, q => by simp only [RDs] at e; subst e; simp at q
  | d' :: ds, vs, 0, d, e, q => by
    simp only [RDs] at e
    obtain ⟨v, r, rfl, e2, e3⟩ := e
    simp at q; subst q
    exact ⟨d', rfl, e2⟩
  | d' :: ds, vs, i + 1, d, e, q => by
    simp only [RDs] at e
    obtain ⟨v, r, rfl, e2, e3⟩ := e
    obtain ⟨v', h1, h2⟩ := RDs.getV (i := i) e3 (by simpa using q)
    exact ⟨v', by simpa using h1, h2⟩
theorem RDs.append : ∀ {ds es : List D} {vs ws : List V}, RDs W μ H ds vs → RDs W μ H es ws → RDs W μ H (ds ++ es) (vs ++ ws)
  | [], es, vs, ws, e, q => by simp only [RDs] at e; subst e; exact q
  | d :: ds, es, vs, ws, e, q => by
    simp only [RDs] at e
    obtain ⟨v, r, rfl, e2, e3⟩ := e
    exact RDs.cons e2 (RDs.append e3 q)
theorem RDs.take : ∀ {ds : List D} {vs : List V} (n : Nat), RDs W μ H ds vs → RDs W μ H (ds.take n) (vs.take n)
  | [], vs, n, e => by simp only [RDs] at e; subst e; simp [RDs]
  | d :: ds, vs, 0, e => by simp [RDs]
  | d :: ds, vs, n + 1, e => by
    simp only [RDs] at e
    obtain ⟨v, r, rfl, e2, e3⟩ := e
    exact RDs.cons e2 (RDs.take n e3)
theorem RDs.drop : ∀ {ds : List D} {vs : List V} (n : Nat), RDs W μ H ds vs → RDs W μ H (ds.drop n) (vs.drop n)
  | [], vs, n, e => by simp only [RDs] at e; subst e; simp [RDs]
  | d :: ds, vs, 0, e => by simpa using e
  | d :: ds, vs, n + 1, e => by
    simp only [RDs] at e
    obtain ⟨v, r, rfl, e2, e3⟩ := e
    simpa using RDs.drop n e3
theorem RDs.set : ∀ {ds : List D} {vs : List V} (n : Nat), RDs W μ H ds vs → RD W μ H d v → RDs W μ H (ds.set n d) (vs.set n v)
  | [], vs, n, e, q => by simp only [RDs] at e; subst e; simp [RDs]
  | d' :: ds, vs, 0, e, q => by
    simp only [RDs] at e
    obtain ⟨v', r, rfl, e2, e3⟩ := e
    exact RDs.cons q e3
  | d' :: ds, vs, n + 1, e, q => by
    simp only [RDs] at e
    obtain ⟨v', r, rfl, e2, e3⟩ := e
    exact RDs.cons e2 (RDs.set n e3 q)
theorem RDs.ints : ∀ (ns : List Int), RDs W μ H (ns.map D.int) (ns.map V.int)
  | [] => RDs.nil
  | n :: ns => RDs.cons (by simp only [RD]) (RDs.ints ns)

theorem R.tup (x : R W μ h H) {p : Addr} {o : HO} (hp : H p = none) (hm : isMut o = false) : R W μ h (upd H p o) ∧ Ext μ h H μ h (upd H p o) := by
  have E : Ext μ h H μ h (upd H p o) := ⟨⟨[], by simp, by simp⟩, fun a u e _ => by rw [upd_ne (ne_of_none e hp)]; exact e, fun a z => by
    unfold upd; split
    · simp
    · exact z, .refl _⟩
  refine ⟨⟨x.len, x.nd, fun n a q e1 e2 => ?_⟩, E⟩
  have r := x.ob n a q e1 e2
  obtain ⟨u, eu, _⟩ := r.some
  obtain ⟨l, ob⟩ := q
  cases ob with
  | lst ds =>
    obtain ⟨vs, e3, e4⟩ := r
    exact ⟨vs, by rw [upd_ne (ne_of_none eu hp)]; exact e3, RDs.ext E x ds vs e4⟩
  | dic kvs =>
    obtain ⟨vs, e3, e4⟩ := r
    exact ⟨vs, by rw [upd_ne (ne_of_none eu hp)]; exact e3, RDs.ext E x _ vs e4⟩
  | tab y q =>
    obtain ⟨ps, e3, e4, e5⟩ := r
    exact ⟨ps, by rw [upd_ne (ne_of_none eu hp)]; exact e3, e4, fun pos cv z => let ⟨c, z1, z2⟩ := e5 pos cv z; ⟨c, z1, by rw [upd_ne (ne_of_none z2 hp)]; exact z2⟩⟩
  | dcd kvs => exact r.keepD (by rw [upd_ne (ne_of_none eu hp)]) (fun d v => RD.ext E x d v)
  | dif kvs => exact r.keepF (by rw [upd_ne (ne_of_none eu hp)]) (fun d v => RD.ext E x d v)
theorem R.lst (x : R W μ h H) {p : Addr} (hp : H p = none) (r : RDs W μ H ds vs) :
    R W (μ ++ [p]) (h ++ [(false, .lst ds)]) (upd H p (.lst vs)) ∧ Ext μ h H (μ ++ [p]) (h ++ [(false, .lst ds)]) (upd H p (.lst vs)) := by
  have hc : HcExt h (h ++ [(false, .lst ds)]) := fun n q e => ⟨q, by rw [List.getElem?_append_left (List.getElem?_eq_some_iff.mp e).1, e], fun _ => rfl⟩
  have E : Ext μ h H (μ ++ [p]) (h ++ [(false, .lst ds)]) (upd H p (.lst vs)) := ⟨⟨[p], rfl, fun a ha => by simp at ha; subst ha; exact hp⟩, fun a u e _ => by rw [upd_ne (ne_of_none e hp)]; exact e, fun a z => by
    unfold upd; split
    · simp
    · exact z, hc⟩
  refine ⟨⟨by simp [x.len], ?_, fun n a q e1 e2 => ?_⟩, E⟩
  · rw [List.nodup_append]
    refine ⟨x.nd, by simp, fun a ha b hb z => ?_⟩
    simp at hb; subst hb; subst z
    exact x.notin hp ha
  · by_cases hn : n < μ.length
    · rw [List.getElem?_append_left hn] at e1
      rw [List.getElem?_append_left (by rw [← x.len]; exact hn)] at e2
      have r := x.ob n a q e1 e2
      obtain ⟨u, eu, _⟩ := r.some
      obtain ⟨l, ob⟩ := q
      cases ob with
      | lst ds' =>
        obtain ⟨vs', e3, e4⟩ := r
        exact ⟨vs', by rw [upd_ne (ne_of_none eu hp)]; exact e3, RDs.ext E x ds' vs' e4⟩
      | dic kvs =>
        obtain ⟨vs', e3, e4⟩ := r
        exact ⟨vs', by rw [upd_ne (ne_of_none eu hp)]; exact e3, RDs.ext E x _ vs' e4⟩
      | tab y q =>
        obtain ⟨ps, e3, e4, e5⟩ := r
        exact ⟨ps, by rw [upd_ne (ne_of_none eu hp)]; exact e3, e4, fun pos cv z => let ⟨c, z1, z2⟩ := e5 pos cv z; ⟨c, z1, by rw [upd_ne (ne_of_none z2 hp)]; exact z2⟩⟩
      | dcd kvs => exact r.keepD (by rw [upd_ne (ne_of_none eu hp)]) (fun d v => RD.ext E x d v)
      | dif kvs => exact r.keepF (by rw [upd_ne (ne_of_none eu hp)]) (fun d v => RD.ext E x d v)
    · have hn2 : n = μ.length := by
        have := (List.getElem?_eq_some_iff.mp e1).1
        simp at this; omega
      subst hn2
      simp at e1; subst e1
      rw [x.len] at e2
      simp at e2; subst e2
      exact ⟨vs, upd_same, RDs.ext E x ds vs r⟩
theorem R.dic {kvs : List (L2.Key × D)} (x : R W μ h H) {p : Addr} (hp : H p = none) (r : RDs W μ H (kvs.map (·.2)) vs) :
    R W (μ ++ [p]) (h ++ [(false, .dic kvs)]) (upd H p (.dK ((kvs.map (·.1)).zip vs))) ∧ Ext μ h H (μ ++ [p]) (h ++ [(false, .dic kvs)]) (upd H p (.dK ((kvs.map (·.1)).zip vs))) := by
  have hc : HcExt h (h ++ [(false, .dic kvs)]) := fun n q e => ⟨q, by rw [List.getElem?_append_left (List.getElem?_eq_some_iff.mp e).1, e], fun _ => rfl⟩
  have E : Ext μ h H (μ ++ [p]) (h ++ [(false, .dic kvs)]) (upd H p (.dK ((kvs.map (·.1)).zip vs))) := ⟨⟨[p], rfl, fun a ha => by simp at ha; subst ha; exact hp⟩, fun a u e _ => by rw [upd_ne (ne_of_none e hp)]; exact e, fun a z => by
    unfold upd; split
    · simp
    · exact z, hc⟩
  refine ⟨⟨by simp [x.len], ?_, fun n a q e1 e2 => ?_⟩, E⟩
  · rw [List.nodup_append]
    refine ⟨x.nd, by simp, fun a ha b hb z => ?_⟩
    simp at hb; subst hb; subst z
    exact x.notin hp ha
  · by_cases hn : n < μ.length
    · rw [List.getElem?_append_left hn] at e1
      rw [List.getElem?_append_left (by rw [← x.len]; exact hn)] at e2
      have r := x.ob n a q e1 e2
      obtain ⟨u, eu, _⟩ := r.some
      obtain ⟨l, ob⟩ := q
      cases ob with
      | lst ds' =>
        obtain ⟨vs', e3, e4⟩ := r
        exact ⟨vs', by rw [upd_ne (ne_of_none eu hp)]; exact e3, RDs.ext E x ds' vs' e4⟩
      | dic kvs' =>
        obtain ⟨vs', e3, e4⟩ := r
        exact ⟨vs', by rw [upd_ne (ne_of_none eu hp)]; exact e3, RDs.ext E x _ vs' e4⟩
      | tab y q =>
        obtain ⟨ps, e3, e4, e5⟩ := r
        exact ⟨ps, by rw [upd_ne (ne_of_none eu hp)]; exact e3, e4, fun pos cv z => let ⟨c, z1, z2⟩ := e5 pos cv z; ⟨c, z1, by rw [upd_ne (ne_of_none z2 hp)]; exact z2⟩⟩
      | dcd kvs => exact r.keepD (by rw [upd_ne (ne_of_none eu hp)]) (fun d v => RD.ext E x d v)
      | dif kvs => exact r.keepF (by rw [upd_ne (ne_of_none eu hp)]) (fun d v => RD.ext E x d v)
    · have hn2 : n = μ.length := by
        have := (List.getElem?_eq_some_iff.mp e1).1
        simp at this; omega
      subst hn2
      simp at e1; subst e1
      rw [x.len] at e2
      simp at e2; subst e2
      exact ⟨vs, .inl upd_same, RDs.ext E x _ vs r⟩
theorem getElem?_inj_nodup {α : Type} {l : List α} (hn : l.Nodup) {i j : Nat} {a : α} (e1 : l[i]? = some a) (e2 : l[j]? = some a) : i = j := by
  obtain ⟨h1, q1⟩ := List.getElem?_eq_some_iff.mp e1
  obtain ⟨h2, q2⟩ := List.getElem?_eq_some_iff.mp e2
  exact (List.getElem_inj hn).mp (q1.trans q2.symm)
theorem R.put (x : R W μ h H) {n : Nat} {a : Addr} {ds' : List D} {o' : O} (e : μ[n]? = some a) (e2 : h[n]? = some (false, o')) (r : RDs W μ H ds vs) :
    R W μ (h.set n (false, .lst ds)) (upd H a (.lst vs)) ∧ Ext μ h H μ (h.set n (false, .lst ds)) (upd H a (.lst vs)) := by
  have hl : n < h.length := (List.getElem?_eq_some_iff.mp e2).1
  have hc : HcExt h (h.set n (false, .lst ds)) := fun m q e3 => by
    by_cases hm : m = n
    · subst hm
      rw [e2] at e3; cases e3
      exact ⟨(false, .lst ds), by rw [List.getElem?_set_self hl], fun z => by cases z⟩
    · exact ⟨q, by rw [List.getElem?_set_ne (Ne.symm hm), e3], fun _ => rfl⟩
  have E : Ext μ h H μ (h.set n (false, .lst ds)) (upd H a (.lst vs)) := ⟨⟨[], by simp, by simp⟩, fun b u e3 k => by
    have hb : b ≠ a := fun z => by
      subst z
      have := k n _ e e2
      cases this
    rw [upd_ne hb]; exact e3, fun b z => by
    unfold upd; split
    · simp
    · exact z, hc⟩
  refine ⟨⟨by simp [x.len], x.nd, fun m b q e1 e3 => ?_⟩, E⟩
  by_cases hm : m = n
  · subst hm
    rw [List.getElem?_set_self hl] at e3; cases e3
    rw [e] at e1; cases e1
    exact ⟨vs, upd_same, RDs.ext E x ds vs r⟩
  · rw [List.getElem?_set_ne (Ne.symm hm)] at e3
    have hb : b ≠ a := fun z => by
      subst z
      exact hm (getElem?_inj_nodup x.nd e1 e)
    have r := x.ob m b q e1 e3
    obtain ⟨l, ob⟩ := q
    cases ob with
    | lst ds' =>
      obtain ⟨vs', e4, e5⟩ := r
      exact ⟨vs', by rw [upd_ne hb]; exact e4, RDs.ext E x ds' vs' e5⟩
    | dic kvs =>
      obtain ⟨vs', e4, e5⟩ := r
      exact ⟨vs', by rw [upd_ne hb]; exact e4, RDs.ext E x _ vs' e5⟩
    | tab y q =>
      obtain ⟨ps, e4, e5, e6⟩ := r
      exact ⟨ps, by rw [upd_ne hb]; exact e4, e5, fun pos cv z => let ⟨c, z1, z2⟩ := e6 pos cv z; ⟨c, z1, by rw [upd_ne ((x.ob n a _ e e2).nc z2)]; exact z2⟩⟩
    | dcd kvs => exact r.keepD (upd_ne hb) (fun d v => RD.ext E x d v)
    | dif kvs => exact r.keepF (upd_ne hb) (fun d v => RD.ext E x d v)
theorem R.putD {kvs : List (L2.Key × D)} (x : R W μ h H) {n : Nat} {a : Addr} {o' : O} (e : μ[n]? = some a) (e2 : h[n]? = some (false, o')) (r : RDs W μ H (kvs.map (·.2)) vs) :
    R W μ (h.set n (false, .dic kvs)) (upd H a (.dK ((kvs.map (·.1)).zip vs))) ∧ Ext μ h H μ (h.set n (false, .dic kvs)) (upd H a (.dK ((kvs.map (·.1)).zip vs))) := by
  have hl : n < h.length := (List.getElem?_eq_some_iff.mp e2).1
  have hc : HcExt h (h.set n (false, .dic kvs)) := fun m q e3 => by
    by_cases hm : m = n
    · subst hm
      rw [e2] at e3; cases e3
      exact ⟨(false, .dic kvs), by rw [List.getElem?_set_self hl], fun z => by cases z⟩
    · exact ⟨q, by rw [List.getElem?_set_ne (Ne.symm hm), e3], fun _ => rfl⟩
  have E : Ext μ h H μ (h.set n (false, .dic kvs)) (upd H a (.dK ((kvs.map (·.1)).zip vs))) := ⟨⟨[], by simp, by simp⟩, fun b u e3 k => by
    have hb : b ≠ a := fun z => by
      subst z
      have := k n _ e e2
      cases this
    rw [upd_ne hb]; exact e3, fun b z => by
    unfold upd; split
    · simp
    · exact z, hc⟩
  refine ⟨⟨by simp [x.len], x.nd, fun m b q e1 e3 => ?_⟩, E⟩
  by_cases hm : m = n
  · subst hm
    rw [List.getElem?_set_self hl] at e3; cases e3
    rw [e] at e1; cases e1
    exact ⟨vs, .inl upd_same, RDs.ext E x _ vs r⟩
  · rw [List.getElem?_set_ne (Ne.symm hm)] at e3
    have hb : b ≠ a := fun z => by
      subst z
      exact hm (getElem?_inj_nodup x.nd e1 e)
    have r := x.ob m b q e1 e3
    obtain ⟨l, ob⟩ := q
    cases ob with
    | lst ds' =>
      obtain ⟨vs', e4, e5⟩ := r
      exact ⟨vs', by rw [upd_ne hb]; exact e4, RDs.ext E x ds' vs' e5⟩
    | dic kvs' =>
      obtain ⟨vs', e4, e5⟩ := r
      exact ⟨vs', by rw [upd_ne hb]; exact e4, RDs.ext E x _ vs' e5⟩
    | tab y q =>
      obtain ⟨ps, e4, e5, e6⟩ := r
      exact ⟨ps, by rw [upd_ne hb]; exact e4, e5, fun pos cv z => let ⟨c, z1, z2⟩ := e6 pos cv z; ⟨c, z1, by rw [upd_ne ((x.ob n a _ e e2).nc z2)]; exact z2⟩⟩
    | dcd kvs => exact r.keepD (upd_ne hb) (fun d v => RD.ext E x d v)
    | dif kvs => exact r.keepF (upd_ne hb) (fun d v => RD.ext E x d v)
end
end Sx

set_option Elab.async false
set_option linter.all false
set_option maxRecDepth 100000
namespace Sx
open PySem PySem.Spec PyProof.Rows L2

def lX (W : Wb) (Wx : WX) (μ : List Addr) (h : Hc) (H : Hp) (c : Str) (x : D) (h' : Hc) (σ : L2.St) : Prop :=
  ∀ μ' H' C dd v, W.mg c = some (.ref C) → R W μ' h' H' → Ext μ h H μ' h' H' → H' dd = some (.xd [(wWhat, v)]) → RD W μ' H' x v → Wx (.ref C) (some dd) σ H'
def kR {α β : Type} (rel : List Addr → Hp → α → β → Prop) (W : Wb) (Wx : WX) (μ : List Addr) (h : Hc) (H : Hp) (σ : L2.St) (Q : β → Hp → Prop) : Res α → Prop
  | .ok a h' => ∀ μ' H' b, R W μ' h' H' → Ext μ h H μ' h' H' → rel μ' H' a b → Q b H'
  | .exn c x h' => lX W Wx μ h H c x h' σ
  | .stuck => False
abbrev rB : List Addr → Hp → Bool → Bool → Prop := fun _ _ a b => b = a
def lG {α β : Type} (rel : List Addr → Hp → α → β → Prop) (W : Wd) (Wx : WX) (c : Rho → Hc → Res α) : L2.St → Hp → (β → Hp → Prop) → Prop :=
  fun σ H Q => ∃ μ ρ h, R W μ h H ∧ RS W μ H ρ σ ∧ kR rel W Wx μ h H σ Q (c ρ h)
abbrev lE (W : Wd) (Wx : WX) (c : CE) : TE := lG (RD W) W Wx c
abbrev lT (W : Wd) (Wx : WX) (c : CT) : TT := lG rB W Wx c
abbrev lA (W : Wd) (Wx : WX) (c : CA) : TA := lG (RDs W) W Wx c
def kF (W : Wd) (Wx : WX) (μ' : List Addr) (H' : Hp) (σ' : L2.St) (D : Ends) : Fl → Prop
  | .nx => D.nx σ' H'
  | .bk => D.bk σ' H'
  | .ct => D.ct σ' H'
  | .ret d => ∀ v, RD W μ' H' d v → D.rt v H'
  | .exn c x => ∀ C dd v, W.mg c = some (.ref C) → H' dd = some (.xd [(wWhat, v)]) → RD W μ' H' x v → Wx (.ref C) (some dd) σ' H'
def kS (W : Wd) (Wx : WX) (μ : List Addr) (h : Hc) (H : Hp) (D : Ends) : ResS → Prop
  | .ok f ρ' h' => ∀ μ' H' σ', R W μ' h' H' → Ext μ h H μ' h' H' → RS W μ' H' ρ' σ' → kF W Wx μ' H' σ' D f
  | .stuck => False
def lS (W : Wd) (Wx : WX) (c : CS) : TS := fun D σ H => ∃ μ ρ h, R W μ h H ∧ RS W μ H ρ σ ∧ kS W Wx μ h H D (c ρ h)
def exOf : Bool → List (Addr × Obj) → Option (Addr × Addr × Addr)
  | true, _ => none
  | false, (a, o) :: _ => match o.cls, o.dict, o.data with
    | .ref C, some dd, .fields _ => some (a, C, dd)
    | _, _, _ => none
  | false, [] => none
abbrev wb (X : Cx) : Wb := ⟨X.K, X.mg⟩
abbrev wd (X : Cx) : Wd := ⟨wb X, exOf X.calm X.pn⟩
theorem wd_of {X Y : Cx} (h : X.calm = true) (hY : Y.calm = X.calm) (hb : wb Y = wb X) : wd Y = wd X := by
  unfold wd; rw [hY, h, hb] <;> rfl
abbrev SE (X : Cx) (Wx : WX) (e : Expr) (c : CE) : Prop := PE X e (lE (wd X) Wx c)
abbrev ST (X : Cx) (Wx : WX) (e : Expr) (c : CT) : Prop := PT X e (lT (wd X) Wx c)
abbrev SW (X : Cx) (Wx : WX) (e : Expr) (c : CT) : Prop := PW X e (lT (wd X) Wx c)
abbrev SA (X : Cx) (Wx : WX) (es : List Expr) (c : CA) : Prop := PA X es (lA (wd X) Wx c)
abbrev SS (X : Cx) (Wx : WX) (st : Stmt) (c : CS) : Prop := PS X st (lS (wd X) Wx c)
abbrev SSs (X : Cx) (Wx : WX) (st : List Stmt) (c : CS) : Prop := PSs X st (lS (wd X) Wx c)

theorem pe_mono {X : Cx} {e : Expr} {t t' : TE} (h : PE X e t) (k : ∀ σ H Q, t' σ H Q → t σ H Q) : PE X e t' := ⟨fun pins s σ H Q I q => h.run pins s σ H Q I (k σ H Q q)⟩
theorem pt_mono {X : Cx} {e : Expr} {t t' : TT} (h : PT X e t) (k : ∀ σ H Q, t' σ H Q → t σ H Q) : PT X e t' := ⟨fun pins s σ H Q I q => h.run pins s σ H Q I (k σ H Q q)⟩
theorem pw_mono {X : Cx} {e : Expr} {t t' : TT} (h : PW X e t) (k : ∀ σ H Q, t' σ H Q → t σ H Q) : PW X e t' := ⟨fun w pins s σ H Q I q => h.run w pins s σ H Q I (k σ H Q q)⟩
theorem pa_mono {X : Cx} {e : List Expr} {t t' : TA} (h : PA X e t) (k : ∀ σ H Q, t' σ H Q → t σ H Q) : PA X e t' := ⟨fun p pins s σ H Q I q => h.run p pins s σ H Q I (k σ H Q q)⟩
theorem ps_mono {X : Cx} {e : Stmt} {t t' : TS} (h : PS X e t) (k : ∀ D σ H, t' D σ H → t D σ H) : PS X e t' := ⟨fun pins s σ H D I q => h.run pins s σ H D I (k D σ H q)⟩
theorem pss_mono {X : Cx} {e : List Stmt} {t t' : TS} (h : PSs X e t) (k : ∀ D σ H, t' D σ H → t D σ H) : PSs X e t' := ⟨fun pins s σ H D I q => h.run pins s σ H D I (k D σ H q)⟩

section
variable {α β γ δ : Type} {rel : List Addr → Hp → α → β → Prop} {rel1 : List Addr → Hp → γ → δ → Prop} {W : Wd} {Wx : WX} {μ μ1 : List Addr} {h h1 : Hc} {H H1 : Hp} {σ : L2.St} {ρ : Rho} {Q Q' : β → Hp → Prop} {r : Res α}
theorem kR.imp (k : kR rel W Wx μ h H σ Q r) (i : ∀ b H', Q b H' → Q' b H') : kR rel W Wx μ h H σ Q' r := by
  cases r with
  | ok a h' => exact fun μ' H' b x y z => i _ _ (k μ' H' b x y z)
  | exn c x h' => exact k
  | stuck => exact k
theorem kR.shift (x : R W μ h H) (E : Ext μ h H μ1 h1 H1) (k : kR rel W Wx μ h H σ Q r) : kR rel W Wx μ1 h1 H1 σ Q r := by
  cases r with
  | ok a h' => exact fun μ' H' b y z w => k μ' H' b y (E.trans x z) w
  | exn c d h' => exact fun μ' H' C dd v a y z b c => k μ' H' C dd v a y (E.trans x z) b c
  | stuck => exact k
theorem kR.bind {r1 : Res γ} {f : γ → Hc → Res α} (x : R W μ h H) (k : kR rel W Wx μ h H σ Q (r1.bind f)) :
    kR rel1 W Wx μ h H σ (fun b H1 => ∃ a μ1 h1, r1 = .ok a h1 ∧ R W μ1 h1 H1 ∧ Ext μ h H μ1 h1 H1 ∧ rel1 μ1 H1 a b ∧ kR rel W Wx μ1 h1 H1 σ Q (f a h1)) r1 := by
  cases r1 with
  | ok a h1 => exact fun μ1 H1 b y z w => ⟨a, μ1, h1, rfl, y, z, w, kR.shift x z k⟩
  | exn c d h' => exact k
  | stuck => exact k
theorem lG.in {c : Rho → Hc → Res α} (x : R W μ h H) (y : RS W μ H ρ σ) (k : kR rel W Wx μ h H σ Q (c ρ h)) : lG rel W Wx c σ H Q := ⟨μ, ρ, h, x, y, k⟩
end

abbrev VO := Option (D × Hc)
def VO.res : VO → Res D
  | some (d, h) => .ok d h
  | none => .stuck
def kO (W : Wb) (μ : List Addr) (h : Hc) (H : Hp) (Q : V → Hp → Prop) : VO → Prop
  | some (d, h') => ∀ μ' H' v, R W μ' h' H' → Ext μ h H μ' h' H' → RD W μ' H' d v → Q v H'
  | none => False
abbrev G1 := D → Hc → VO
abbrev G2 := D → D → Hc → VO
abbrev GL := List D → Hc → VO
def lV1 (W : Wb) (g : G1) : V → Hp → VK → Prop := fun x H Q => ∃ μ h dx, R W μ h H ∧ RD W μ H dx x ∧ kO W μ h H Q (g dx h)
def lV2 (W : Wb) (g : G2) : R2 := fun x y H Q => ∃ μ h dx dy, R W μ h H ∧ RD W μ H dx x ∧ RD W μ H dy y ∧ kO W μ h H Q (g dx dy h)
def lVs (W : Wb) (g : GL) : List V → Hp → VK → Prop := fun xs H Q => ∃ μ h ds, R W μ h H ∧ RDs W μ H ds xs ∧ kO W μ h H Q (g ds h)
section
variable {W : Wd} {Wx : WX} {μ μ1 : List Addr} {h h1 : Hc} {H H1 : Hp} {σ : L2.St} {ρ : Rho} {Q : V → Hp → Prop}
theorem kO.of {o : VO} (k : kR (RD W) W Wx μ h H σ Q o.res) : kO W μ h H Q o := by
  cases o with
  | none => exact k
  | some p => exact k
theorem kO.here {d : D} {v : V} (k : kO W μ h H Q (some (d, h))) (x : R W μ h H) (r : RD W μ H d v) : Q v H := k μ H v x .refl r
theorem kO.tup {ds : List D} {vs : List V} (k : kO W μ h H Q (some (.tup ds, h))) (x : R W μ h H) (r : RDs W μ H ds vs) {p : Addr} (hp : H p = none) {o : Obj} (ho : o.dict = none) : Q (.ref p) (upd H p (.frz o (.tup vs))) := by
  obtain ⟨a, b⟩ := x.tup (o := .frz o (.tup vs)) hp rfl
  refine k μ _ _ a b ?_
  simp only [RD]
  exact ⟨p, vs, rfl, .inl ⟨o, upd_same, ho⟩, RDs.ext b x ds vs r⟩
theorem kO.lst {ds : List D} {vs : List V} (k : kO W μ h H Q (some (.ref h.length, h ++ [(false, .lst ds)]))) (x : R W μ h H) (r : RDs W μ H ds vs) {p : Addr} (hp : H p = none) : Q (.ref p) (upd H p (.lst vs)) := by
  obtain ⟨a, b⟩ := x.lst hp r
  refine k _ _ _ a b ?_
  simp only [RD]
  exact ⟨p, by rw [← x.len]; simp, rfl⟩
theorem kO.put {ds : List D} {vs : List V} {n : Nat} {a : Addr} {o : O} {d : D} {v : V} (k : kO W μ h H Q (some (d, h.set n (false, .lst ds)))) (x : R W μ h H) (e : μ[n]? = some a) (e2 : h[n]? = some (false, o)) (r : RDs W μ H ds vs) (rd : RD W μ H d v) : Q v (upd H a (.lst vs)) := by
  obtain ⟨y, b⟩ := x.put (ds' := ds) e e2 r
  exact k _ _ _ y b (RD.ext b x d v rd)
end

def cVar (i : Nat) : CE := fun ρ h => match ρ[i]? with | some (some d) => if d.isErr then .stuck else .ok d h | _ => .stuck
def cK (d : D) : CE := fun _ h => .ok d h
section
variable {X : Cx} {Wx : WX}
theorem s_var (i : Nat) {x : Str} {pos : Pos} (hN : X.N[i]? = some x := by rfl) (hv : Vis X.env.scope x := by first | exact Or.inl rfl | exact Or.inr (Or.inl rfl) | exact Or.inr (Or.inr rfl)) (hd : (x == ("__debug__" : Str)) = false := by decide)
    (hcd : (x == ("__classdict__" : Str)) = false := by decide) : SE X Wx (.Name x pos) (cVar i) := by
  refine pe_mono (pe_var hN hv hd hcd) fun σ H Q ⟨μ, ρ, h, r, rs, k⟩ => ?_
  unfold cVar at k
  cases e : ρ[i]? with
  | none => rw [e] at k; exact False.elim k
  | some o =>
    cases o with
    | none => rw [e] at k; exact False.elim k
    | some d =>
      rw [e] at k
      obtain ⟨v, e1, e2⟩ := rs.2 i d e
      rcases e2 with e2 | ⟨c, y, rfl, _⟩
      · have hd : d.isErr = false := by
          cases d with
          | err c x => simp only [RD] at e2
          | _ => rfl
        simp only [hd, Bool.false_eq_true, if_false] at k
        exact ⟨v, e1, k μ H v r .refl e2⟩
      · exact False.elim k
theorem s_const {e : Expr} {v : V} {d : D} (he : PE X e (tC v)) (hd : ∀ μ H, RD (wd X) μ H d v) : SE X Wx e (cK d) :=
  pe_mono he fun σ H Q ⟨μ, ρ, h, r, rs, k⟩ => k μ H v r .refl (hd μ H)
theorem s_int {i j pos} : SE X Wx (.Constant (.int i) j pos) (cK (.int i)) := s_const pe_int fun _ _ => by simp only [RD]
theorem s_bl {b j pos} : SE X Wx (.Constant (.bool b) j pos) (cK (.bl b)) := s_const pe_bl fun _ _ => by simp only [RD]
theorem s_str {x j pos} : SE X Wx (.Constant (.str x) j pos) (cK (.str x)) := s_const pe_str fun _ _ => by simp only [RD]
theorem s_glob {x : Str} {v : V} {u : Value} {d : D} {pos : Pos} (hg : Gl X x) (hm : X.mg x = some u) (r : RelV v u) (rd : ∀ μ H, RD (wd X) μ H d v) (hd : (x == ("__debug__" : Str)) = false := by decide) : SE X Wx (.Name x pos) (cK d) :=
  s_const (pe_glob hg hm r hd) rd
end

def c1 (g : G1) (a : CE) : CE := fun ρ h => (a ρ h).bind fun x h1 => (g x h1).res
def c2 (g : G2) (a b : CE) : CE := fun ρ h => (a ρ h).bind fun x h1 => (b ρ h1).bind fun y h2 => (g x y h2).res
def cNil : CA := fun _ h => .ok [] h
def cCons (a : CE) (b : CA) : CA := fun ρ h => (a ρ h).bind fun x h1 => (b ρ h1).bind fun xs h2 => .ok (x :: xs) h2
def cC (g : GL) (a : CA) : CE := fun ρ h => (a ρ h).bind fun xs h1 => (g xs h1).res
section
variable {X : Cx} {Wx : WX} {a b : Expr} {ca cb : CE} {pos : Pos} {es : List Expr} {cs : CA}
theorem use1 {g : G1} {σ : L2.St} {H : Hp} {Q : VK} (k : lE (wd X) Wx (c1 g ca) σ H Q) : lE (wd X) Wx ca σ H fun v H1 => lV1 (wd X) g v H1 Q := by
  obtain ⟨μ, ρ, h, r, rs, k⟩ := k
  exact ⟨μ, ρ, h, r, rs, (kR.bind r k).imp fun v H1 ⟨x, μ1, h1, _, r1, e1, d1, k1⟩ => ⟨μ1, h1, x, r1, d1, kO.of k1⟩⟩
theorem use2 {g : G2} {σ : L2.St} {H : Hp} {Q : VK} (k : lE (wd X) Wx (c2 g ca cb) σ H Q) : lE (wd X) Wx ca σ H fun v H1 => lE (wd X) Wx cb σ H1 fun u H2 => lV2 (wd X) g v u H2 Q := by
  obtain ⟨μ, ρ, h, r, rs, k⟩ := k
  exact ⟨μ, ρ, h, r, rs, (kR.bind r k).imp fun v H1 ⟨x, μ1, h1, _, r1, e1, d1, k1⟩ => ⟨μ1, ρ, h1, r1, rs.ext e1 r, (kR.bind r1 k1).imp fun u H2 ⟨y, μ2, h2, _, r2, e2, d2, k2⟩ => ⟨μ2, h2, x, y, r2, RD.ext e2 r1 x v d1, d2, kO.of k2⟩⟩⟩
theorem useC {g : GL} {σ : L2.St} {H : Hp} {Q : VK} (k : lE (wd X) Wx (cC g cs) σ H Q) : lA (wd X) Wx cs σ H fun vs H1 => lVs (wd X) g vs H1 Q := by
  obtain ⟨μ, ρ, h, r, rs, k⟩ := k
  exact ⟨μ, ρ, h, r, rs, (kR.bind r k).imp fun v H1 ⟨x, μ1, h1, _, r1, e1, d1, k1⟩ => ⟨μ1, h1, x, r1, d1, kO.of k1⟩⟩
theorem s_op {op : Operator} {g : G2} (ho : OpR X (binaryOp op) (lV2 (wd X) g)) (ha : SE X Wx a ca) (hb : SE X Wx b cb) : SE X Wx (.BinOp a op b pos) (c2 g ca cb) :=
  pe_mono (pe_op ho ha hb) fun _ _ _ k => use2 k
theorem s_un {op : UnaryOp} {g : G1} (ho : UnR X (unaryOp op) (lV1 (wd X) g)) (ha : SE X Wx a ca) : SE X Wx (.UnaryOp op a pos) (c1 g ca) :=
  pe_mono (pe_un ho ha) fun _ _ _ k => use1 k
theorem s_cmp {op : CmpOp} {g : G2} (ho : OpR X (compareOp op) (lV2 (wd X) g)) (ha : SE X Wx a ca) (hb : SE X Wx b cb) (hm : behindInMarks op b = false := by first | exact nomark _ | rfl) : SE X Wx (.Compare a [op] [b] pos) (c2 g ca cb) :=
  pe_mono (pe_cmpR ho ha hb hm) fun _ _ _ k => use2 k
theorem s_nil : SA X Wx [] cNil := pa_mono pa_nil fun σ H Q ⟨μ, ρ, h, r, rs, k⟩ => k μ H [] r .refl RDs.nil
theorem s_cons (ha : SE X Wx a ca) (hr : SA X Wx es cs) (hs : starEach (a :: es) X.env = (false, eval a X.env) :: starEach es X.env := by rfl) : SA X Wx (a :: es) (cCons ca cs) := by
  refine pa_mono (pa_cons ha hr hs) fun σ H Q ⟨μ, ρ, h, r, rs, k⟩ => ?_
  refine ⟨μ, ρ, h, r, rs, (kR.bind r k).imp fun v H1 ⟨x, μ1, h1, _, r1, e1, d1, k1⟩ => ?_⟩
  refine ⟨μ1, ρ, h1, r1, rs.ext e1 r, (kR.bind (rel1 := RDs (wd X)) r1 k1).imp fun vs H2 ⟨xs, μ2, h2, _, r2, e2, d2, k2⟩ => ?_⟩
  exact k2 μ2 H2 (v :: vs) r2 .refl (RDs.cons (RD.ext e2 r1 x v d1) d2)
def gTupD : GL := fun ds h => if ds.length ≤ sizeLine then some (.tup ds, h) else none
def gLstD : GL := fun ds h => if ds.length ≤ sizeLine then some (.ref h.length, h ++ [(false, .lst ds)]) else none
theorem laidTup {pins : List (Addr × Obj)} {σ : L2.St} {H : Hp} {s : Shared} {its : List Value} {vs : List V} {t : Nat} (I : Inv X pins σ H s) (r : Vals vs its) (hz : vs.length ≤ sizeLine) :
    Inv X pins σ (upd H s.heap.objs.size (.frz { cls := .type "tuple", data := .seq its.toArray } (.tup vs))) { s with heap := s.heap.push { cls := .type "tuple", data := .seq its.toArray }, toks := t } :=
  I.laid (fun _ _ e => Heap.get?_push_of_some _ e) (Nat.le_refl _) ⟨Heap.get?_push_size _ rfl, hz, its, r, ⟨_, Heap.get?_push_size _ rfl, rfl, _, rfl⟩⟩
theorem s_tup {x1} (h : SA X Wx es cs) : SE X Wx (.Tuple es x1 pos) (cC gTupD cs) := by
  refine ⟨fun pins s σ H Q I k => wpAny_Tuple_spliced (thn (h.run pos pins s σ H _ I (useC k)) fun us s1 hh => ?_)⟩
  obtain ⟨xs, H1, I1, r, μ1, h1, ds, r1, d1, k1⟩ := hh
  unfold gTupD at k1
  split at k1
  · rename_i hz
    have hz' : xs.length ≤ sizeLine := by rw [← RDs.len d1]; exact hz
    exact ⟨by rw [← r.length]; exact hz', .ref s1.heap.objs.size, _, laidTup (t := s1.toks) I1 r hz', rfl, k1.tup r1 d1 (I1.hok.fresh (Nat.le_refl _)) rfl⟩
  · exact False.elim k1
theorem s_lst (h : SA X Wx es cs) : SE X Wx (.List es pos) (cC gLstD cs) := by
  refine pe_mono (pe_lst h) fun σ H Q k => ?_
  obtain ⟨μ, ρ, h, r, rs, k⟩ := useC k
  refine ⟨μ, ρ, h, r, rs, k.imp fun vs H1 ⟨μ1, h1, ds, r1, d1, k1⟩ => ?_⟩
  unfold gLstD at k1
  split at k1
  · rename_i hz
    exact ⟨by rw [← RDs.len d1]; exact hz, fun p hp => k1.lst r1 d1 hp⟩
  · exact False.elim k1
theorem s_callB {id : String} {x : Str} {p : Pos} {g : GL} (hc : CallR X (.builtin id) (lVs (wd X) g)) (hg : Gl X x) (hm : X.mg x = none) (hv : bootBuiltins x = some (.builtin id)) (ha : SA X Wx (a :: es) cs) (hn : x ≠ "__name__" := by decide) (hdb : (x == ("__debug__" : Str)) = false := by decide)
    (he : starEach (a :: es) X.env = (false, eval a X.env) :: starEach es X.env := by rfl) (hpl : (backTo pos (starEach es X.env)).any (·.1) = false := by rfl) : SE X Wx (.Call (.Name x p) (a :: es) [] pos) (cC g cs) :=
  pe_mono (pe_callB hc hg hm hv ha hn hdb he hpl) fun _ _ _ k => useC k
theorem s_callTy {T : String} {x : Str} {p : Pos} {g : GL} (hc : CallR X (.type T) (lVs (wd X) g)) (hg : Gl X x) (hm : X.mg x = none) (hv : bootBuiltins x = some (.type T)) (ha : SA X Wx (a :: es) cs) (hn : x ≠ "__name__" := by decide) (hdb : (x == ("__debug__" : Str)) = false := by decide)
    (he : starEach (a :: es) X.env = (false, eval a X.env) :: starEach es X.env := by rfl) (hpl : (backTo pos (starEach es X.env)).any (·.1) = false := by rfl) : SE X Wx (.Call (.Name x p) (a :: es) [] pos) (cC g cs) :=
  pe_mono (pe_callTy hc hg hm hv ha hn hdb he hpl) fun _ _ _ k => useC k
end
end Sx

set_option Elab.async false
set_option linter.all false
set_option maxRecDepth 100000
namespace Sx
open PySem PySem.Spec PyProof.Rows L2

theorem Res.bind_assoc {α β γ : Type} (r : Res α) (f : α → Hc → Res β) (g : β → Hc → Res γ) : (r.bind f).bind g = r.bind fun a h => (f a h).bind g := by
  cases r <;> rfl
def cB (a : CE) : CT := fun ρ h => (a ρ h).bind fun x h1 => match x with | .bl b => .ok b h1 | _ => .stuck
abbrev GB := D → Hc → Option Bool
def truD : GB := fun d h => match d with
  | .non => some false
  | .bl b => some b
  | .int i => some (i != 0)
  | .str x => if x.length ≤ sizeLine then some ((x.length : Int) != 0) else none
  | .tup ds => some (!ds.isEmpty)
  | .flst ds => some (!ds.isEmpty)
  | .ref n => match h[n]? with
    | some (_, .lst ds) => some (!ds.isEmpty)
    | _ => none
  | _ => none
def cTru (a : CE) : CT := fun ρ h => (a ρ h).bind fun x h1 => match truD x h1 with | some b => .ok b h1 | none => .stuck
def cNot (a : CT) : CT := fun ρ h => (a ρ h).bind fun b h1 => .ok (!b) h1
def cAnd (a b : CT) : CT := fun ρ h => (a ρ h).bind fun x h1 => match x with | true => b ρ h1 | false => .ok false h1
def cOr (a b : CT) : CT := fun ρ h => (a ρ h).bind fun x h1 => match x with | true => .ok true h1 | false => b ρ h1
def cIfE (t : CT) (a b : CE) : CE := fun ρ h => (t ρ h).bind fun x h1 => match x with | true => a ρ h1 | false => b ρ h1
def cAndV (a b : CE) : CE := fun ρ h => (a ρ h).bind fun x h1 => match x with | .bl true => b ρ h1 | .bl false => .ok (.bl false) h1 | _ => .stuck
def cOrV (a b : CE) : CE := fun ρ h => (a ρ h).bind fun x h1 => match x with | .bl true => .ok (.bl true) h1 | .bl false => b ρ h1 | _ => .stuck
def cNotV (a : CE) : CE := fun ρ h => (a ρ h).bind fun x h1 => match x with | .bl b => .ok (.bl (!b)) h1 | _ => .stuck
def cChain (g g' : G2) (a b c : CE) : CE := fun ρ h => (a ρ h).bind fun x h1 => (b ρ h1).bind fun y h2 => (g x y h2).res.bind fun z h3 => match z with
  | .bl true => (c ρ h3).bind fun w h4 => (g' y w h4).res
  | .bl false => .ok (.bl false) h3
  | _ => .stuck
section
variable {W : Wd} {μ : List Addr} {h : Hc} {H : Hp}
theorem isEmpty_len {α β : Type} {l : List α} {m : List β} (e : l.length = m.length) : l.isEmpty = m.isEmpty := by
  cases l <;> cases m <;> simp_all
theorem truD_ok {d : D} {v : V} {b : Bool} (x : R W μ h H) (r : RD W μ H d v) (e : truD d h = some b) : TruV W.K v H b := by
  cases d with
  | non => simp only [RD] at r; subst r; injection e with e; exact e.symm
  | bl k => simp only [RD] at r; subst r; injection e with e; exact e.symm
  | int i => simp only [RD] at r; subst r; injection e with e; exact e.symm
  | str z =>
    simp only [RD] at r; subst r; simp only [truD] at e
    split at e
    · rename_i hz; cases e; exact ⟨hz, rfl⟩
    · cases e
  | tup ds =>
    simp only [RD] at r
    obtain ⟨a, vs, rfl, e2, e3⟩ := r
    injection e with e; subst e
    exact .inr (.inl ⟨vs, e2.seq, by rw [isEmpty_len (RDs.len e3)]⟩)
  | flst ds =>
    simp only [RD] at r
    obtain ⟨a, vs, rfl, e2, e3⟩ := r
    injection e with e; subst e
    exact .inl ⟨vs, e2.seq, by rw [isEmpty_len (RDs.len e3)]⟩
  | ref n =>
    simp only [RD] at r
    obtain ⟨a, e1, rfl⟩ := r
    obtain ⟨⟨l, o⟩, e2, ro⟩ := x.at e1
    cases o with
    | lst ds =>
      simp only [truD, e2] at e; injection e with e; subst e
      obtain ⟨vs, e3, e4⟩ := ro
      exact .inl ⟨vs, SqL.of e3, by rw [isEmpty_len (RDs.len e4)]⟩
    | _ => simp only [truD, e2] at e; cases e
  | _ => cases e
end
section
variable {X : Cx} {Wx : WX} {a b c : Expr} {ca cb cc : CE} {ta tb : CT} {pos : Pos} {rest : List Expr}
theorem s_truth (ha : SE X Wx a ca) (he : ∀ whole, isTrue a X.env whole = (do let v ← whole; standAt a.pos; holding [v] (truthy v)) := by intro _; rfl) : ST X Wx a (cTru ca) := by
  refine pt_mono (pt_truth ha he) fun σ H Q ⟨μ, ρ, h, r, rs, k⟩ => ?_
  refine ⟨μ, ρ, h, r, rs, (kR.bind r k).imp fun v H1 ⟨x, μ1, h1, _, r1, e1, d1, k1⟩ => ?_⟩
  cases e : truD x h1 with
  | none => rw [e] at k1; exact False.elim k1
  | some q =>
    rw [e] at k1
    exact ⟨q, truD_ok r1 d1 e, k1 μ1 H1 q r1 .refl rfl⟩
theorem s_cmpT {op : CmpOp} {g : G2} (ho : OpR X (compareOp op) (lV2 (wd X) g)) (ha : SE X Wx a ca) (hb : SE X Wx b cb) (hm : behindInMarks op b = false := by first | exact nomark _ | rfl) : ST X Wx (.Compare a [op] [b] pos) (cB (c2 g ca cb)) := by
  refine pt_mono (pt_cmpR ho ha hb hm) fun σ H Q ⟨μ, ρ, h, r, rs, k⟩ => ?_
  refine use2 ⟨μ, ρ, h, r, rs, (kR.bind r k).imp fun v H1 ⟨x, μ1, h1, _, r1, e1, d1, k1⟩ => ?_⟩
  cases x with
  | bl q =>
    simp only [RD] at d1; subst d1
    exact ⟨q, rfl, k1 μ1 H1 q r1 .refl rfl⟩
  | _ => exact False.elim k1
theorem s_chainT {op op' : CmpOp} {g g' : G2} (ho : OpR X (compareOp op) (lV2 (wd X) g)) (ho' : OpR X (compareOp op') (lV2 (wd X) g')) (ha : SE X Wx a ca) (hb : SE X Wx b cb) (hc : SE X Wx c cc)
    (hm : lastMarks [op, op'] [b, c] = false := by with_unfolding_all rfl) : ST X Wx (.Compare a [op, op'] [b, c] pos) (cB (cChain g g' ca cb cc)) := by
  refine pt_mono (pt_chain ho ho' ha hb hc hm) fun σ H Q ⟨μ, ρ, h, r, rs, k⟩ => ?_
  have k0 : kR rB (wd X) Wx μ h H σ Q ((ca ρ h).bind fun x h1 => (cb ρ h1).bind fun y h2 => (g x y h2).res.bind fun z h3 => (match z with
    | .bl true => (cc ρ h3).bind fun w h4 => (g' y w h4).res
    | .bl false => .ok (.bl false) h3
    | _ => .stuck : Res Sx.D).bind fun x h1 => match x with | .bl b => .ok b h1 | _ => .stuck) := by
    have e : cB (cChain g g' ca cb cc) ρ h = _ := rfl
    unfold cB cChain at k
    simpa only [Res.bind_assoc] using k
  refine ⟨μ, ρ, h, r, rs, (kR.bind r k0).imp fun v H1 ⟨x, μ1, h1, _, r1, e1, d1, k1⟩ => ?_⟩
  refine ⟨μ1, ρ, h1, r1, rs.ext e1 r, (kR.bind r1 k1).imp fun u H2 ⟨y, μ2, h2, _, r2, e2, d2, k2⟩ => ?_⟩
  refine ⟨μ2, h2, x, y, r2, RD.ext e2 r1 x v d1, d2, kO.of ((kR.bind r2 k2).imp fun z H3 ⟨z', μ3, h3, _, r3, e3, d3, k3⟩ => ?_)⟩
  cases z' with
  | bl q =>
    simp only [RD] at d3; subst d3
    refine ⟨q, rfl, ?_⟩
    cases q with
    | true =>
      rw [if_pos rfl]
      have k4 : kR rB (wd X) Wx μ3 h3 H3 σ Q ((cc ρ h3).bind fun w h4 => (g' y w h4).res.bind fun x h1 => match x with | .bl b => .ok b h1 | _ => .stuck) := by
        simpa only [Res.bind_assoc] using k3
      refine ⟨μ3, ρ, h3, r3, ((rs.ext e1 r).ext e2 r1).ext e3 r2, (kR.bind r3 k4).imp fun w H4 ⟨w', μ4, h4, _, r4, e4, d4, k4⟩ => ?_⟩
      refine ⟨μ4, h4, y, w', r4, RD.ext e4 r3 y u (RD.ext e3 r2 y u d2), d4, kO.of ((kR.bind r4 k4).imp fun z5 H5 ⟨z6, μ5, h5, _, r5, e5, d5, k5⟩ => ?_)⟩
      cases z6 with
      | bl q5 =>
        simp only [RD] at d5; subst d5
        exact ⟨q5, rfl, k5 μ5 H5 q5 r5 .refl rfl⟩
      | _ => exact False.elim k5
    | false =>
      rw [if_neg Bool.false_ne_true]
      exact ⟨false, rfl, k3 μ3 H3 false r3 .refl rfl⟩
  | _ => exact False.elim k3
theorem s_not (ha : ST X Wx a ta) : ST X Wx (.UnaryOp .Not a pos) (cNot ta) := by
  refine pt_mono (pt_not ha) fun σ H Q ⟨μ, ρ, h, r, rs, k⟩ => ?_
  exact ⟨μ, ρ, h, r, rs, (kR.bind r k).imp fun v H1 ⟨x, μ1, h1, _, r1, e1, d1, k1⟩ => k1 μ1 H1 _ r1 .refl (by rw [d1])⟩
theorem s_or1 (ha : ST X Wx a ta) : SW X Wx (.BoolOp .Or [a] pos) ta := pw_or1 ha
theorem s_or (ha : ST X Wx a ta) (hb : SW X Wx (.BoolOp .Or (b :: rest) pos) tb) : SW X Wx (.BoolOp .Or (a :: b :: rest) pos) (cOr ta tb) := by
  refine pw_mono (pw_or ha hb) fun σ H Q ⟨μ, ρ, h, r, rs, k⟩ => ?_
  refine ⟨μ, ρ, h, r, rs, (kR.bind r k).imp fun v H1 ⟨x, μ1, h1, _, r1, e1, d1, k1⟩ => ?_⟩
  have d1' : v = x := d1
  subst d1'
  cases v with
  | true => rw [if_pos rfl]; exact k1 μ1 H1 true r1 .refl rfl
  | false => rw [if_neg Bool.false_ne_true]; exact ⟨μ1, ρ, h1, r1, rs.ext e1 r, k1⟩
theorem s_pw (h : SW X Wx a ta) : ST X Wx a ta := h.pt
theorem s_oneV {op} (ha : SE X Wx a ca) : SE X Wx (.BoolOp op [a] pos) ca := pe_one ha
theorem s_andV (ha : SE X Wx a ca) (hb : SE X Wx (.BoolOp .And (b :: rest) pos) cb) : SE X Wx (.BoolOp .And (a :: b :: rest) pos) (cAndV ca cb) := by
  refine pe_mono (pe_and ha hb) fun σ H Q ⟨μ, ρ, h, r, rs, k⟩ => ?_
  refine ⟨μ, ρ, h, r, rs, (kR.bind r k).imp fun v H1 ⟨x, μ1, h1, _, r1, e1, d1, k1⟩ => ?_⟩
  cases x with
  | bl q =>
    simp only [RD] at d1; subst d1
    refine ⟨q, rfl, ?_⟩
    cases q with
    | true => rw [if_pos rfl]; exact ⟨μ1, ρ, h1, r1, rs.ext e1 r, k1⟩
    | false => rw [if_neg Bool.false_ne_true]; exact k1 μ1 H1 _ r1 .refl (by simp only [RD])
  | _ => exact False.elim k1
theorem s_notV (ha : SE X Wx a ca) : SE X Wx (.UnaryOp .Not a pos) (cNotV ca) := by
  refine pe_mono (pe_not ha) fun σ H Q ⟨μ, ρ, h, r, rs, k⟩ => ?_
  refine ⟨μ, ρ, h, r, rs, (kR.bind r k).imp fun v H1 ⟨x, μ1, h1, _, r1, e1, d1, k1⟩ => ?_⟩
  cases x with
  | bl q =>
    simp only [RD] at d1; subst d1
    exact ⟨q, rfl, k1 μ1 H1 _ r1 .refl (by simp only [RD])⟩
  | _ => exact False.elim k1
theorem s_ifE {t : Expr} (ht : ST X Wx t ta) (ha : SE X Wx a ca) (hb : SE X Wx b cb) : SE X Wx (.IfExp t a b pos) (cIfE ta ca cb) := by
  refine pe_mono (pe_ifExp ht ha hb) fun σ H Q ⟨μ, ρ, h, r, rs, k⟩ => ?_
  refine ⟨μ, ρ, h, r, rs, (kR.bind r k).imp fun v H1 ⟨x, μ1, h1, _, r1, e1, d1, k1⟩ => ?_⟩
  have d1' : v = x := d1
  subst d1'
  cases v with
  | true => rw [if_pos rfl]; exact ⟨μ1, ρ, h1, r1, rs.ext e1 r, k1⟩
  | false => rw [if_neg Bool.false_ne_true]; exact ⟨μ1, ρ, h1, r1, rs.ext e1 r, k1⟩
end

def ofR {α : Type} (r : Res α) (ρ : Rho) (f : α → Hc → ResS) : ResS := match r with
  | .ok a h => f a h
  | .exn c x h => .ok (.exn c x) ρ h
  | .stuck => .stuck
def cSkip : CS := fun ρ h => .ok .nx ρ h
def cSeq (a b : CS) : CS := fun ρ h => match a ρ h with
  | .ok .nx ρ' h' => b ρ' h'
  | r => r
def cDrop (a : CE) : CS := fun ρ h => ofR (a ρ h) ρ fun _ h1 => .ok .nx ρ h1
def cRet (a : CE) : CS := fun ρ h => ofR (a ρ h) ρ fun d h1 => .ok (.ret d) ρ h1
def cRetN : CS := fun ρ h => .ok (.ret .non) ρ h
def cBk : CS := fun ρ h => .ok .bk ρ h
def cCt : CS := fun ρ h => .ok .ct ρ h
def cSet (i : Nat) (a : CE) : CS := fun ρ h => ofR (a ρ h) ρ fun d h1 => .ok .nx (ρ.set i (some d)) h1
def cIf (t : CT) (a b : CS) : CS := fun ρ h => ofR (t ρ h) ρ fun x h1 => match x with | true => a ρ h1 | false => b ρ h1
def cPar (i j : Nat) (a b : CE) : CS := fun ρ h => ofR (a ρ h) ρ fun x h1 => ofR (b ρ h1) ρ fun y h2 => .ok .nx ((ρ.set i (some x)).set j (some y)) h2
def cWhile : Nat → CT → CS → CS
  | 0, _, _ => fun _ _ => .stuck
  | n + 1, t, b => fun ρ h => ofR (t ρ h) ρ fun x h1 => match x with
    | false => .ok .nx ρ h1
    | true => match b ρ h1 with
      | .ok .nx ρ2 h2 => cWhile n t b ρ2 h2
      | .ok .ct ρ2 h2 => cWhile n t b ρ2 h2
      | .ok .bk ρ2 h2 => .ok .nx ρ2 h2
      | r => r
section
variable {α β : Type} {rel : List Addr → Hp → α → β → Prop} {W : Wd} {Wx : WX} {μ μ1 : List Addr} {h h1 : Hc} {H H1 : Hp} {σ : L2.St} {ρ : Rho} {D D' : Ends}
theorem kS.shift {r : ResS} (x : R W μ h H) (E : Ext μ h H μ1 h1 H1) (k : kS W Wx μ h H D r) : kS W Wx μ1 h1 H1 D r := by
  cases r with
  | ok f ρ' h' => exact fun μ' H' σ' y z w => k μ' H' σ' y (E.trans x z) w
  | stuck => exact k
theorem kS.bind {r : Res α} {f : α → Hc → ResS} (x : R W μ h H) (rs : RS W μ H ρ σ) (k : kS W Wx μ h H D (ofR r ρ f)) :
    kR rel W Wx μ h H σ (fun b H1 => ∃ a μ1 h1, r = .ok a h1 ∧ R W μ1 h1 H1 ∧ Ext μ h H μ1 h1 H1 ∧ rel μ1 H1 a b ∧ kS W Wx μ1 h1 H1 D (f a h1)) r := by
  cases r with
  | ok a h1 => exact fun μ1 H1 b y z w => ⟨a, μ1, h1, rfl, y, z, w, kS.shift x z k⟩
  | exn c d h' => exact fun μ' H' C dd v a y z b e => k μ' H' σ y z (rs.ext z x) C dd v a b e
  | stuck => exact k
theorem kS.nx {ρ' : Rho} (x : R W μ h H) (rs : RS W μ H ρ' σ) (k : kS W Wx μ h H D (.ok .nx ρ' h)) : D.nx σ H := k μ H σ x .refl rs
theorem kS.retn {d : Sx.D} {v : V} (x : R W μ h H) (rs : RS W μ H ρ σ) (k : kS W Wx μ h H D (.ok (.ret d) ρ h)) (rd : RD W μ H d v) : D.rt v H := k μ H σ x .refl rs v rd
theorem RS.put {d : Sx.D} {v : V} (rs : RS W μ H ρ σ) (rd : RD W μ H d v) (i : Nat) : RS W μ H (ρ.set i (some d)) (σ.set i (some v)) := by
  refine ⟨by simp [rs.1], fun j e q => ?_⟩
  by_cases hj : i = j
  · subst hj
    by_cases hi : i < ρ.length
    · rw [List.getElem?_set_self hi] at q
      cases q
      exact ⟨v, by rw [List.getElem?_set_self (by rw [← rs.1]; exact hi)], .inl rd⟩
    · rw [List.getElem?_eq_none (by simp; omega)] at q; cases q
  · rw [List.getElem?_set_ne hj] at q
    obtain ⟨w, e1, e2⟩ := rs.2 j e q
    exact ⟨w, by rw [List.getElem?_set_ne hj]; exact e1, e2⟩
end
section
variable {X : Cx} {Wx : WX} {st : Stmt} {rest : List Stmt} {e a b : Expr} {ce ca cb : CE} {t : Expr} {ct : CT} {cs cr : CS} {pos : Pos}
theorem ss_nil : SSs X Wx [] cSkip := pss_mono pss_nil fun D σ H ⟨μ, ρ, h, r, rs, k⟩ => k.nx r rs
theorem ss_cons (h1 : SS X Wx st cs) (h2 : SSs X Wx rest cr) : SSs X Wx (st :: rest) (cSeq cs cr) := by
  refine pss_mono (pss_cons h1 h2) fun D σ H ⟨μ, ρ, h, r, rs, k⟩ => ?_
  refine ⟨μ, ρ, h, r, rs, ?_⟩
  unfold cSeq at k
  cases e : cs ρ h with
  | stuck => rw [e] at k; exact k
  | ok f ρ' h' =>
    rw [e] at k
    cases f with
    | nx => exact fun μ' H' σ' y z w => ⟨μ', ρ', h', y, w, kS.shift r z k⟩
    | bk => exact k
    | ct => exact k
    | ret d => exact k
    | exn c x => exact k
theorem ss_one (h1 : SS X Wx st cs) : SSs X Wx [st] cs := pss_one h1
theorem s_brk : SS X Wx (.Break pos) cBk := ps_mono ps_break fun D σ H ⟨μ, ρ, h, r, rs, k⟩ => k μ H σ r .refl rs
theorem s_drop (he : SE X Wx e ce) (hs : swapsWith e none pos.line X.env = pure false := by rfl) : SS X Wx (.Expr e pos) (cDrop ce) := by
  refine ps_mono (ps_expr he hs) fun D σ H ⟨μ, ρ, h, r, rs, k⟩ => ?_
  exact ⟨μ, ρ, h, r, rs, (kS.bind r rs k).imp fun v H1 ⟨x, μ1, h1, _, r1, e1, d1, k1⟩ => k1.nx r1 (rs.ext e1 r)⟩
theorem s_ret (he : SE X Wx e ce) : SS X Wx (.Return (some e) pos) (cRet ce) := by
  refine ps_mono (ps_ret he) fun D σ H ⟨μ, ρ, h, r, rs, k⟩ => ?_
  exact ⟨μ, ρ, h, r, rs, (kS.bind r rs k).imp fun v H1 ⟨x, μ1, h1, _, r1, e1, d1, k1⟩ => kS.retn r1 (rs.ext e1 r) k1 d1⟩
theorem s_set {i : Nat} {x : Str} {pos' : Pos} (hN : X.N.Nodup) (he : SE X Wx e ce) (hi : X.N[i]? = some x := by rfl) (hx : Loc X.env.scope x := by first | exact Or.inl rfl | exact Or.inr rfl) (hs : swapsWith e (some (.Name x pos')) pos.line X.env = pure false := by rfl)
    (hf : X.fn x = true ∨ X.env.scope.names.lookup x = some .local := by first | exact .inl rfl | exact .inr rfl) : SS X Wx (.Assign [.Name x pos'] e pos) (cSet i ce) := by
  refine ps_mono (ps_set hN hi hx he hs hf) fun D σ H ⟨μ, ρ, h, r, rs, k⟩ => ?_
  exact ⟨μ, ρ, h, r, rs, (kS.bind r rs k).imp fun v H1 ⟨x, μ1, h1, _, r1, e1, d1, k1⟩ => k1.nx r1 ((rs.ext e1 r).put d1 i)⟩
theorem s_if {xs ys : List Stmt} {cx cy : CS} (ht : ST X Wx t ct) (ha : SSs X Wx xs cx) (hb : SSs X Wx ys cy) : SS X Wx (.If t xs ys pos) (cIf ct cx cy) := by
  refine ps_mono (ps_if ht ha hb) fun D σ H ⟨μ, ρ, h, r, rs, k⟩ => ?_
  refine ⟨μ, ρ, h, r, rs, (kS.bind r rs k).imp fun v H1 ⟨x, μ1, h1, _, r1, e1, d1, k1⟩ => ?_⟩
  have d1' : v = x := d1
  subst d1'
  cases v with
  | true => rw [if_pos rfl]; exact ⟨μ1, ρ, h1, r1, rs.ext e1 r, k1⟩
  | false => rw [if_neg Bool.false_ne_true]; exact ⟨μ1, ρ, h1, r1, rs.ext e1 r, k1⟩
theorem s_par {i j : Nat} {x y : Str} {px py pt : Pos} {kt k2 pt2} (hc : X.calm = true) (hN : X.N.Nodup) (ha : SE X Wx a ca) (hb : SE X Wx b cb) (hi : X.N[i]? = some x := by rfl) (hj : X.N[j]? = some y := by rfl) (hij : i ≠ j := by decide)
    (hx : X.env.scope.names.lookup x = some .local := by rfl) (hy : X.env.scope.names.lookup y = some .local := by rfl)
    (hw : swappedStores [.Tuple [.Name x px, .Name y py] kt pt] (.Tuple [a, b] k2 pt2) X.env = pure (some [x, y]) := by rfl)
    (hs : swapsWithSole [.Tuple [.Name x px, .Name y py] kt pt] (.Tuple [a, b] k2 pt2) pos.line X.env = pure false := by rfl)
    (hs1 : starEach [a, b] X.env = (false, eval a X.env) :: starEach [b] X.env := by rfl) (hs2 : starEach [b] X.env = (false, eval b X.env) :: starEach [] X.env := by rfl) :
    SS X Wx (.Assign [.Tuple [.Name x px, .Name y py] kt pt] (.Tuple [a, b] k2 pt2) pos) (cPar i j ca cb) := by
  refine ps_mono (ps_par hc hN hi hj hij hx hy (pa_cons ha (pa_cons hb pa_nil hs2) hs1) hw hs) fun D σ H ⟨μ, ρ, h, r, rs, k⟩ => ?_
  refine ⟨μ, ρ, h, r, rs, (kS.bind r rs k).imp fun v H1 ⟨x, μ1, h1, _, r1, e1, d1, k1⟩ => ?_⟩
  refine ⟨μ1, ρ, h1, r1, rs.ext e1 r, (kS.bind r1 (rs.ext e1 r) k1).imp fun u H2 ⟨y, μ2, h2, _, r2, e2, d2, k2⟩ => ?_⟩
  exact ⟨v, u, rfl, k2.nx r2 ((((rs.ext e1 r).ext e2 r1).put (RD.ext e2 r1 x v d1) i).put d2 j)⟩
theorem s_while {xs : List Stmt} {cx : CS} (n : Nat) (hp : PassesOwn (model X.prog X.w) X.A X.env X.xe) (ht : ST X Wx t ct) (hb : SSs X Wx xs cx) : SS X Wx (.While t xs [] pos) (cWhile n ct cx) := by
  refine ps_mono (ps_while hp ht hb) fun D σ H k => ?_
  refine ⟨fun m σ H => lS (wd X) Wx (cWhile m ct cx) D σ H, ⟨n, k⟩, fun m σ H k => ?_⟩
  obtain ⟨μ, ρ, h, r, rs, k⟩ := k
  cases m with
  | zero => exact False.elim k
  | succ m =>
    refine ⟨μ, ρ, h, r, rs, (kS.bind r rs k).imp fun v H1 ⟨x, μ1, h1, _, r1, e1, d1, k1⟩ => ?_⟩
    have d1' : v = x := d1
    subst d1'
    cases v with
    | false => rw [if_neg Bool.false_ne_true]; exact k1.nx r1 (rs.ext e1 r)
    | true =>
      rw [if_pos rfl]
      refine ⟨fun σ' H' => lS (wd X) Wx (cWhile m ct cx) D σ' H', fun σ' H' q => ⟨m, Nat.lt_succ_self m, q⟩, μ1, ρ, h1, r1, rs.ext e1 r, ?_⟩
      have k2 : kS (wd X) Wx μ1 h1 H1 D (match cx ρ h1 with | .ok .nx ρ2 h2 => cWhile m ct cx ρ2 h2 | .ok .ct ρ2 h2 => cWhile m ct cx ρ2 h2 | .ok .bk ρ2 h2 => .ok .nx ρ2 h2 | r => r) := k1
      cases e : cx ρ h1 with
      | stuck => rw [e] at k2; exact k2
      | ok f ρ' h' =>
        rw [e] at k2
        cases f with
        | nx => exact fun μ' H' σ' y z w => ⟨μ', ρ', h', y, w, kS.shift r1 z k2⟩
        | ct => exact fun μ' H' σ' y z w => ⟨μ', ρ', h', y, w, kS.shift r1 z k2⟩
        | bk => exact fun μ' H' σ' y z w => k2 μ' H' σ' y z w
        | ret d => exact k2
        | exn c x => exact k2
end
end Sx

set_option Elab.async false
set_option linter.all false
set_option maxRecDepth 100000
namespace Sx
open PySem PySem.Spec PyProof.Rows L2

def asSeq (d : D) (h : Hc) : Option (List D) := match d with
  | .tup ds => some ds
  | .flst ds => some ds
  | .ref n => match h[n]? with
    | some (_, .lst ds) => some ds
    | _ => none
  | _ => none
def intsOf : List D → Option (List Int)
  | [] => some []
  | .int i :: r => match intsOf r with | some l => some (i :: l) | none => none
  | _ :: _ => none
def blsOf : List D → Option (List Bool)
  | [] => some []
  | .bl i :: r => match blsOf r with | some l => some (i :: l) | none => none
  | _ :: _ => none
section
variable {W : Wd} {μ : List Addr} {h : Hc} {H : Hp} {d : D} {v : V} {ds : List D} {vs : List V}
theorem asSeq_ok (x : R W μ h H) (r : RD W μ H d v) (e : asSeq d h = some ds) : ∃ a vs, v = .ref a ∧ (SqL W.K H a vs ∨ SqT W.K H a vs) ∧ RDs W μ H ds vs := by
  cases d with
  | tup es =>
    injection e with e; subst e
    simp only [RD] at r
    obtain ⟨a, vs, rfl, e2, e3⟩ := r
    exact ⟨a, vs, rfl, .inr e2.seq, e3⟩
  | flst es =>
    injection e with e; subst e
    simp only [RD] at r
    obtain ⟨a, vs, rfl, e2, e3⟩ := r
    exact ⟨a, vs, rfl, .inl e2.seq, e3⟩
  | ref n =>
    simp only [RD] at r
    obtain ⟨a, e1, rfl⟩ := r
    obtain ⟨⟨l, o⟩, e2, ro⟩ := x.at e1
    cases o with
    | lst es =>
      simp only [asSeq, e2] at e; injection e with e; subst e
      obtain ⟨vs, e3, e4⟩ := ro
      exact ⟨a, vs, rfl, .inl (SqL.of e3), e4⟩
    | _ => simp only [asSeq, e2] at e; cases e
  | _ => cases e
theorem intsOf_ok : ∀ {ds : List D} {vs : List V} {ns : List Int}, RDs W μ H ds vs → intsOf ds = some ns → vs = ns.map V.int ∧ ds = ns.map D.int
  | [], vs, ns, r, e => by
    simp only [RDs] at r; subst r
    injection e with e; subst e; exact ⟨rfl, rfl⟩
  | d :: ds, vs, ns, r, e => by
    simp only [RDs] at r
    obtain ⟨v, t, rfl, r1, r2⟩ := r
    cases d with
    | int i =>
      simp only [intsOf] at e
      cases q : intsOf ds with
      | none => rw [q] at e; cases e
      | some l =>
        rw [q] at e
        injection e with e; subst e
        simp only [RD] at r1; subst r1
        obtain ⟨a, b⟩ := intsOf_ok r2 q
        rw [a, b]; exact ⟨rfl, rfl⟩
    | _ => cases e
theorem blsOf_ok : ∀ {ds : List D} {vs : List V} {ns : List Bool}, RDs W μ H ds vs → blsOf ds = some ns → vs = ns.map V.bl
  | [], vs, ns, r, e => by
    simp only [RDs] at r; subst r
    injection e with e; subst e; rfl
  | d :: ds, vs, ns, r, e => by
    simp only [RDs] at r
    obtain ⟨v, t, rfl, r1, r2⟩ := r
    cases d with
    | bl i =>
      simp only [blsOf] at e
      cases q : blsOf ds with
      | none => rw [q] at e; cases e
      | some l =>
        rw [q] at e
        injection e with e; subst e
        simp only [RD] at r1; subst r1
        rw [blsOf_ok r2 q]; rfl
    | _ => cases e
end

def small64b (i : Int) : Bool := decide (-(2 ^ 64) < i) && decide (i < 2 ^ 64)
def mulOk (i j : Int) : Bool := small64b i || small64b j || Nat.ble (i.natAbs.log2 + j.natAbs.log2 + 1) 1000000
def divOk (j : Int) : Bool := (j != 0 && Nat.blt j.natAbs 1073741824) || (decide (0 < j) && Nat.blt j.natAbs.log2 9000)
def gSub : G2 := fun x y h => match x, y with
  | .int i, .int j => some (.int (i - j), h)
  | _, _ => none
def repD (k : Int) (ds : List D) : List D := (List.replicate k.toNat ds).flatten
def repOk (k : Int) (ds : List D) : Bool := decide (-1000 ≤ k) && decide (k ≤ 1000) && decide (ds.length ≤ 1000)
def gMul : G2 := fun x y h => match x, y with
  | .int i, .int j => if mulOk i j then some (.int (i * j), h) else none
  | .tup ds, .int k => if repOk k ds then some (.tup (repD k ds), h) else none
  | .ref n, .int k => match h[n]? with
    | some (_, .lst ds) => if decide (-(2 ^ 63) ≤ k) && decide (k < 2 ^ 63) && decide (ds.length * k.toNat ≤ sizeLine) then some (.ref h.length, h ++ [(false, .lst (repD k ds))]) else none
    | _ => none
  | _, _ => none
def gDiv : G2 := fun x y h => match x, y with
  | .int i, .int j => if divOk j then some (.int (i.fdiv j), h) else none
  | _, _ => none
def gMod : G2 := fun x y h => match x, y with
  | .int i, .int j => if j = 0 then none else some (.int (i.fmod j), h)
  | _, _ => none
def gPow : G2 := fun x y h => match x, y with
  | .int i, .int j => if decide (0 ≤ j) && decide (j ≤ 1000000) && Nat.blt i.natAbs (2 ^ 64) then some (.int (i ^ j.toNat), h) else none
  | _, _ => none
def gNeg : G1 := fun x h => match x with
  | .int i => some (.int (-i), h)
  | _ => none
def gLt : G2 := fun x y h => match x, y with | .int i, .int j => some (.bl (decide (i < j)), h) | _, _ => none
def gLe : G2 := fun x y h => match x, y with | .int i, .int j => some (.bl (decide (i ≤ j)), h) | _, _ => none
def gGt : G2 := fun x y h => match x, y with | .int i, .int j => some (.bl (decide (j < i)), h) | _, _ => none
def gGe : G2 := fun x y h => match x, y with | .int i, .int j => some (.bl (decide (j ≤ i)), h) | _, _ => none
def gAdd : G2 := fun x y h => match x, y with
  | .int i, .int j => some (.int (i + j), h)
  | .str a, .str b => if a.length + b.length ≤ sizeLine then some (.str (a ++ b), h) else none
  | .tup a, .tup b => if a.length + b.length ≤ sizeLine then some (.tup (a ++ b), h) else none
  | .ref m, .ref n => match h[m]?, h[n]? with
    | some (_, .lst a), some (_, .lst b) => if a.length + b.length ≤ sizeLine then some (.ref h.length, h ++ [(false, .lst (a ++ b))]) else none
    | _, _ => none
  | _, _ => none
theorem opI2 {X : Cx} {f : Value → Value → Sem Value} {C : Int → Int → Prop} {F : Int → Int → Int} {g : G2} (ho : OpR X f (rI C fun i j => .int (F i j)))
    (hg : ∀ x y h o, g x y h = some o → ∃ i j, x = .int i ∧ y = .int j ∧ C i j ∧ o = (.int (F i j), h)) : OpR X f (lV2 (wd X) g) := by
  intro pins s σ H x y v u Q I rx ry k
  obtain ⟨μ, h, dx, dy, r, d1, d2, k⟩ := k
  cases e : g dx dy h with
  | none => rw [e] at k; exact False.elim k
  | some o =>
    rw [e] at k
    obtain ⟨i, j, rfl, rfl, c, rfl⟩ := hg _ _ _ _ e
    simp only [RD] at d1 d2; subst d1; subst d2
    exact ho pins s σ H _ _ v u Q I rx ry ⟨i, j, rfl, rfl, c, k.here r (by simp only [RD])⟩
theorem opB2 {X : Cx} {f : Value → Value → Sem Value} {F : Int → Int → Bool} {g : G2} (ho : OpR X f (rI0 fun i j => .bl (F i j)))
    (hg : ∀ x y h o, g x y h = some o → ∃ i j, x = .int i ∧ y = .int j ∧ o = (.bl (F i j), h)) : OpR X f (lV2 (wd X) g) := by
  intro pins s σ H x y v u Q I rx ry k
  obtain ⟨μ, h, dx, dy, r, d1, d2, k⟩ := k
  cases e : g dx dy h with
  | none => rw [e] at k; exact False.elim k
  | some o =>
    rw [e] at k
    obtain ⟨i, j, rfl, rfl, rfl⟩ := hg _ _ _ _ e
    simp only [RD] at d1 d2; subst d1; subst d2
    exact ho pins s σ H _ _ v u Q I rx ry ⟨i, j, rfl, rfl, k.here r (by simp only [RD])⟩
section
variable {X : Cx}
theorem o_sub : OpR X (binaryOp .Sub) (lV2 (wd X) gSub) := opI2 (C := fun _ _ => True) (F := fun i j => i - j) (fun pins s σ H x y v u Q I rx ry ⟨i, j, e1, e2, _, q⟩ => op_sub pins s σ H x y v u Q I rx ry ⟨i, j, e1, e2, q⟩) fun x y h o e => by
  unfold gSub at e; split at e
  · injection e with e; exact ⟨_, _, rfl, rfl, trivial, e.symm⟩
  · cases e
theorem o_lt : OpR X (compareOp .Lt) (lV2 (wd X) gLt) := opB2 op_lt fun x y h o e => by
  unfold gLt at e; split at e
  · injection e with e; exact ⟨_, _, rfl, rfl, e.symm⟩
  · cases e
theorem o_le : OpR X (compareOp .LtE) (lV2 (wd X) gLe) := opB2 op_le fun x y h o e => by
  unfold gLe at e; split at e
  · injection e with e; exact ⟨_, _, rfl, rfl, e.symm⟩
  · cases e
theorem o_gt : OpR X (compareOp .Gt) (lV2 (wd X) gGt) := opB2 op_gt fun x y h o e => by
  unfold gGt at e; split at e
  · injection e with e; exact ⟨_, _, rfl, rfl, e.symm⟩
  · cases e
theorem o_ge : OpR X (compareOp .GtE) (lV2 (wd X) gGe) := opB2 op_ge fun x y h o e => by
  unfold gGe at e; split at e
  · injection e with e; exact ⟨_, _, rfl, rfl, e.symm⟩
  · cases e
theorem divOk_cases {j : Int} (h : divOk j = true) : CDivN 0 j ∨ CDivW 0 j := by
  unfold divOk at h
  simp only [Bool.or_eq_true, Bool.and_eq_true, bne_iff_ne, ne_eq, decide_eq_true_eq, Nat.blt_eq] at h
  rcases h with ⟨a, b⟩ | ⟨a, b⟩
  · exact .inl ⟨a, b⟩
  · exact .inr ⟨a, b⟩
theorem o_div : OpR X (binaryOp .FloorDiv) (lV2 (wd X) gDiv) := by
  intro pins s σ H x y v u Q I rx ry k
  obtain ⟨μ, h, dx, dy, r, d1, d2, k⟩ := k
  cases dx with
  | int i =>
    cases dy with
    | int j =>
      simp only [RD] at d1 d2; subst d1; subst d2
      simp only [gDiv] at k
      split at k
      · rename_i hj
        have kk := k.here r (v := .int (i.fdiv j)) (by simp only [RD])
        rcases divOk_cases hj with c | c
        · exact op_fdivN pins s σ H _ _ v u Q I rx ry ⟨i, j, rfl, rfl, c, kk⟩
        · exact op_fdivW pins s σ H _ _ v u Q I rx ry ⟨i, j, rfl, rfl, c, by rw [Int.fdiv_eq_ediv_of_nonneg i (Int.le_of_lt c.1)] at kk; exact kk⟩
      · exact False.elim k
    | _ => exact False.elim k
  | _ => exact False.elim k
theorem o_mod : OpR X (binaryOp .Mod) (lV2 (wd X) gMod) := opI2 op_modN fun x y h o e => by
  unfold gMod at e; split at e
  · split at e
    · cases e
    · rename_i hj; injection e with e; exact ⟨_, _, rfl, rfl, hj, e.symm⟩
  · cases e
theorem o_pow : OpR X (binaryOp .Pow) (lV2 (wd X) gPow) := opI2 op_pow fun x y h o e => by
  unfold gPow at e; split at e
  · split at e
    · rename_i i j hj
      simp only [Bool.and_eq_true, decide_eq_true_eq, Nat.blt_eq] at hj
      injection e with e
      exact ⟨_, _, rfl, rfl, ⟨hj.1.1, hj.1.2, hj.2⟩, e.symm⟩
    · cases e
  · cases e
theorem o_neg : UnR X (unaryOp .USub) (lV1 (wd X) gNeg) := by
  intro pins s σ H x v Q I rx k
  obtain ⟨μ, h, dx, r, d1, k⟩ := k
  cases dx with
  | int i =>
    simp only [RD] at d1; subst d1
    exact un_neg pins s σ H _ v Q I rx ⟨i, rfl, k.here r (by simp only [RD])⟩
  | _ => exact False.elim k
end

section
variable {X : Cx} {W : Wd} {μ : List Addr} {h : Hc} {H : Hp} {d : D} {v : V} {ds es : List D} {vs : List V}
theorem RDs.rep (r : RDs W μ H ds vs) (n : Nat) : RDs W μ H (List.replicate n ds).flatten (List.replicate n vs).flatten := by
  induction n with
  | zero => simp [RDs]
  | succ n ih => rw [List.replicate_succ, List.replicate_succ, List.flatten_cons, List.flatten_cons]; exact r.append ih
theorem o_add : OpR X (binaryOp .Add) (lV2 (wd X) gAdd) := by
  intro pins s σ H x y v u Q I rx ry k
  obtain ⟨μ, h, dx, dy, r, d1, d2, k⟩ := k
  cases dx with
  | int i =>
    cases dy with
    | int j =>
      simp only [RD] at d1 d2; subst d1; subst d2
      exact op_add pins s σ H _ _ v u Q I rx ry ⟨i, j, rfl, rfl, k.here r (by simp only [RD])⟩
    | _ => exact False.elim k
  | str a =>
    cases dy with
    | str b =>
      simp only [RD] at d1 d2; subst d1; subst d2
      simp only [gAdd] at k
      split at k
      · rename_i hz
        exact op_add_str pins s σ H _ _ v u Q I rx ry ⟨a, b, rfl, rfl, hz, k.here r (by simp only [RD])⟩
      · exact False.elim k
    | _ => exact False.elim k
  | tup a =>
    cases dy with
    | tup b =>
      simp only [gAdd] at k
      split at k
      · rename_i hz
        have d10 := d1
        have d20 := d2
        simp only [RD] at d1 d2
        obtain ⟨p, xs, rfl, t1, r1⟩ := d1
        obtain ⟨q, ys, rfl, t2, r2⟩ := d2
        cases rx
        cases ry
        obtain ⟨its, v1, p1, z1⟩ := I.tuple t1.seq
        obtain ⟨its2, v2, p2, z2⟩ := I.tuple t2.seq
        by_cases ha : a = []
        · subst ha
          simp only [RDs] at r1; subst r1
          cases v1
          exact cat_tup0 p1 p2 ⟨.ref q, H, I, rfl, k.here r d20⟩
        · have ha' : its ≠ [] := fun z => by
            subst z
            cases v1
            cases a with
            | nil => exact ha rfl
            | cons _ _ => have := r1.len; simp at this
          refine HT.cat_tup p1 p2 ha' (fun z => ⟨.ref p, H, I, rfl, ?_⟩) (fun z => ?_) (by rw [← v1.length, ← v2.length, ← r1.len, ← r2.len]; exact hz)
          · subst z
            cases v2
            cases b with
            | nil => rw [List.append_nil] at k; exact k.here r d10
            | cons _ _ => have := r2.len; simp at this
          · exact ⟨.ref s.heap.objs.size, _, laidTup (t := s.toks) I (v1.append v2) (by rw [List.length_append, ← r1.len, ← r2.len]; exact hz), rfl, k.tup r (r1.append r2) (I.hok.fresh (Nat.le_refl _)) rfl⟩
      · exact False.elim k
    | _ => exact False.elim k
  | ref m =>
    cases dy with
    | ref n =>
      simp only [RD] at d1 d2
      obtain ⟨p, e1, rfl⟩ := d1
      obtain ⟨q, e2, rfl⟩ := d2
      obtain ⟨⟨l1, o1⟩, g1, ro1⟩ := r.at e1
      obtain ⟨⟨l2, o2⟩, g2, ro2⟩ := r.at e2
      cases o1 with
      | lst a =>
        cases o2 with
        | lst b =>
          simp only [gAdd, g1, g2] at k
          split at k
          · rename_i hz
            obtain ⟨xs, q1, r1⟩ := ro1
            obtain ⟨ys, q2, r2⟩ := ro2
            exact op_cat pins s σ H _ _ v u Q I rx ry ⟨p, q, xs, ys, rfl, rfl, q1, q2, by rw [← r1.len, ← r2.len]; exact hz, fun a ha => k.lst r (r1.append r2) ha⟩
          · exact False.elim k
        | _ => simp only [gAdd, g1, g2] at k; exact False.elim k
      | _ => cases o2 <;> (simp only [gAdd, g1, g2] at k; exact False.elim k)
    | _ => exact False.elim k
  | _ => exact False.elim k
end
end Sx

set_option Elab.async false
set_option linter.all false
set_option maxRecDepth 100000
namespace Sx
open PySem PySem.Spec PyProof.Rows L2

theorem tmul_same (l : Addr) (items : Array Value) (n : Nat) (dd : Option Addr) (sl : Array (Option Value)) (x : Int) (u : Tok) (c0 : (decide (x < -(2 ^ 63)) || decide (x ≥ 2 ^ 63)) = false) (c1 : (items.isEmpty || x == 1) = true) :
    Meets (Builtin.«tuple.__mul__» ⟨[.ref l, .int x u], []⟩) (fun _ R s => s.heap.get? l = some { cls := .type "tuple", dict := dd, data := .seq items n, slots := sl } ∧ R (.ok (.ret (Value.ref l))) s) :=
  .of_wp fun prog w A R s h => by
    obtain ⟨hp, g, d, tk, os⟩ := s
    obtain ⟨hl, h⟩ := h
    have f1 := AutoSeq1.idx_int
    wp_walk using wpAny_loadPart' hl
    repeat (first
      | (refine wpAny_ite_false (decide_eq_false (by rw [c0]; exact Bool.false_ne_true)) ?_; wp_walk using wpAny_loadPart' hl)
      | (refine wpAny_ite_true (decide_eq_true (by rw [c1])) ?_; wp_walk using wpAny_loadPart' hl))
    exact ⟨_, rfl, h⟩
theorem tmul_none (l : Addr) (items : Array Value) (n : Nat) (dd : Option Addr) (sl : Array (Option Value)) (x : Int) (u : Tok) (c0 : (decide (x < -(2 ^ 63)) || decide (x ≥ 2 ^ 63)) = false) (c1 : (items.isEmpty || x == 1) = false) (c2 : (decide (x ≤ 0) || items.isEmpty) = true) :
    Meets (Builtin.«tuple.__mul__» ⟨[.ref l, .int x u], []⟩) (fun _ R s => s.heap.get? l = some { cls := .type "tuple", dict := dd, data := .seq items n, slots := sl } ∧
      R (.ok (.ret (Value.ref s.heap.objs.size))) { s with heap := s.heap.push { cls := Value.type "tuple", data := Data.seq #[] }, toks := s.toks }) :=
  .of_wp fun prog w A R s h => by
    obtain ⟨hp, g, d, tk, os⟩ := s
    obtain ⟨hl, h⟩ := h
    have f1 := AutoSeq1.idx_int
    wp_walk using wpAny_loadPart' hl
    repeat (first
      | (refine wpAny_ite_false (decide_eq_false (by rw [c0]; exact Bool.false_ne_true)) ?_; wp_walk using wpAny_loadPart' hl)
      | (refine wpAny_ite_false (decide_eq_false (by rw [c1]; exact Bool.false_ne_true)) ?_; wp_walk using wpAny_loadPart' hl)
      | (refine wpAny_ite_true (decide_eq_true (by rw [c2])) ?_; wp_walk using wpAny_loadPart' hl))
    exact ⟨_, rfl, h⟩

section
variable {X : Cx} {W : Wd} {μ : List Addr} {h : Hc} {H : Hp} {d : D} {v : V} {ds es : List D} {vs : List V}
theorem mulOk_ok {i j : Int} (q : mulOk i j = true) : CMul i j ∨ CMulW i j := by
  unfold mulOk small64b at q
  simp only [Bool.or_eq_true, Bool.and_eq_true, decide_eq_true_eq, Nat.ble_eq] at q
  rcases q with (q | q) | q
  · exact .inl (.inl q)
  · exact .inl (.inr q)
  · exact .inr (by unfold CMulW; omega)
theorem RD.cast {e : D} (q : d = e) (r : RD W μ H d v) : RD W μ H e v := q ▸ r
theorem repD_one : repD 1 ds = ds := by simp [repD]
theorem repD_le {k : Int} (hk : k ≤ 0) : repD k ds = [] := by
  have : k.toNat = 0 := by omega
  simp [repD, this]
theorem o_mul : OpR X (binaryOp .Mult) (lV2 (wd X) gMul) := by
  intro pins s σ H x y v u Q I rx ry k
  obtain ⟨μ, h, dx, dy, r, d1, d2, k⟩ := k
  cases dx with
  | int i =>
    cases dy with
    | int j =>
      simp only [RD] at d1 d2; subst d1; subst d2
      simp only [gMul] at k
      split at k
      · rename_i hj
        have kk := k.here r (v := .int (i * j)) (by simp only [RD])
        rcases mulOk_ok hj with c | c
        · exact op_mul pins s σ H _ _ v u Q I rx ry ⟨i, j, rfl, rfl, c, kk⟩
        · exact op_mulW pins s σ H _ _ v u Q I rx ry ⟨i, j, rfl, rfl, c, kk⟩
      · exact False.elim k
    | _ => exact False.elim k
  | tup a =>
    cases dy with
    | int c =>
      have d10 := d1
      simp only [RD] at d1 d2; subst d2
      obtain ⟨p, xs, rfl, t1, r1⟩ := d1
      cases rx
      obtain ⟨t, rfl⟩ := ry
      simp only [gMul] at k
      split at k
      · rename_i hz
        unfold repOk at hz
        simp only [Bool.and_eq_true, decide_eq_true_eq] at hz
        obtain ⟨⟨h1, h2⟩, h3⟩ := hz
        obtain ⟨its, v1, ⟨⟨cls, dd, data, sl⟩, ho, hc, n, hd⟩, z1⟩ := I.tuple t1.seq
        simp only at hc hd
        subst hc hd
        have hlen : its.length = a.length := by rw [← v1.length, r1.len]
        have c0 : (decide (c < -(2 ^ 63)) || decide (c ≥ 2 ^ 63)) = false := by
          rw [decide_eq_false (by omega), decide_eq_false (by omega)] <;> rfl
        refine wpAny_binaryOp_repeat_ref (T := "tuple") (U := "int") (by decide) ⟨_, ho, rfl⟩ (fun s' => typeIs_int s' c t) noFill_tuple_mul F.fills_int_mul F.slot_int_rmul repeat_tuple F.slot_int_index.lookup
          (call_meets F.slot_int_rmul (typeIs_int s c t) F.entry_int_rmul (F.args_int_rmul_2 _ _) (int_rmul_tuple c t p its.toArray n dd sl) ⟨ho, rfl, ⟨_, ho, rfl⟩, ?_⟩)
        by_cases hs : (its.toArray.isEmpty || c == 1) = true
        · refine call_meets F.slot_tuple_mul ⟨_, ho, rfl⟩ F.entry_tuple_mul (F.args_tuple_mul_2 _ _) (tmul_same p its.toArray n dd sl c t c0 hs) ⟨ho, ?_⟩
          refine ⟨.ref p, H, I, rfl, k.here r (RD.cast ?_ d10)⟩
          simp only [Bool.or_eq_true, beq_iff_eq] at hs
          rcases hs with hs | hs
          · have : a = [] := by
              cases its with
              | nil => exact List.eq_nil_of_length_eq_zero hlen.symm
              | cons _ _ => simp at hs
            subst this; simp [repD]
          · subst hs; rw [repD_one]
        · have hs' : (its.toArray.isEmpty || c == 1) = false := by simpa using hs
          by_cases hn : (decide (c ≤ 0) || its.toArray.isEmpty) = true
          · refine call_meets F.slot_tuple_mul ⟨_, ho, rfl⟩ F.entry_tuple_mul (F.args_tuple_mul_2 _ _) (tmul_none p its.toArray n dd sl c t c0 hs' hn) ⟨ho, ?_⟩
            have hc : c ≤ 0 := by
              simp only [Bool.or_eq_true, decide_eq_true_eq] at hn
              rcases hn with hn | hn
              · exact hn
              · rw [hn, Bool.true_or] at hs'; cases hs'
            rw [repD_le hc] at k
            exact ⟨.ref s.heap.objs.size, _, laidTup (its := []) (t := s.toks) I .nil (Nat.zero_le _), rfl, k.tup r RDs.nil (I.hok.fresh (Nat.le_refl _)) rfl⟩
          · have hn' : (decide (c ≤ 0) || its.toArray.isEmpty) = false := by simpa using hn
            have hle : ((its.toArray.size : Nat) : Int) * c ≤ 1000000 := by
              have a1 : ((its.toArray.size : Nat) : Int) * c ≤ 1000 * c := Int.mul_le_mul_of_nonneg_right (by rw [List.size_toArray]; omega) (by simp at hn'; omega)
              omega
            have flen : (List.replicate c.toNat its).flatten.length ≤ sizeLine := by
              rw [PyProof.Rows.lm_len_rep_flat, sizeLine_eq]
              have a1 : c.toNat * its.length ≤ 1000 * 1000 := Nat.mul_le_mul (by omega) (by omega)
              omega
            have c4 : Builtin.Tuple.tupleTooMany (((its.toArray.size : Nat) : Int) * c) = false := by
              unfold Builtin.Tuple.tupleTooMany
              rw [sizeLine_eq]
              exact decide_eq_false (by omega)
            refine call_meets F.slot_tuple_mul ⟨_, ho, rfl⟩ F.entry_tuple_mul (F.args_tuple_mul_2 _ _) (tuple_mulW p its.toArray n dd sl c t c0 hs' hn' (by omega) c4 (by rw [size_rep, List.size_toArray]; exact flen)) ⟨ho, ?_⟩
            rw [size_rep]
            have vv := v1.rep c.toNat
            have hl2 : (List.replicate c.toNat xs).flatten.length = (List.replicate c.toNat its).flatten.length := vv.length
            exact ⟨.ref s.heap.objs.size, _, laidTup (t := s.toks) I vv (by rw [hl2]; exact flen), rfl, k.tup r (r1.rep c.toNat) (I.hok.fresh (Nat.le_refl _)) rfl⟩
      · exact False.elim k
    | _ => exact False.elim k
  | ref m =>
    cases dy with
    | int c =>
      simp only [RD] at d1 d2; subst d2
      obtain ⟨p, e1, rfl⟩ := d1
      obtain ⟨⟨l1, o1⟩, g1, ro1⟩ := r.at e1
      cases o1 with
      | lst a =>
        simp only [gMul, g1] at k
        split at k
        · rename_i hz
          simp only [Bool.and_eq_true, decide_eq_true_eq] at hz
          obtain ⟨xs, q1, r1⟩ := ro1
          exact op_rep pins s σ H _ _ v u Q I rx ry ⟨p, c, xs, rfl, rfl, q1, hz.1.1, hz.1.2, by rw [← r1.len]; exact hz.2, fun a ha => k.lst r (r1.rep c.toNat) ha⟩
        · exact False.elim k
      | _ => simp only [gMul, g1] at k; exact False.elim k
    | _ => exact False.elim k
  | _ => exact False.elim k
end
end Sx

set_option Elab.async false
set_option linter.all false
set_option maxRecDepth 100000
namespace Sx
open PySem PySem.Spec PyProof.Rows L2

def mapO {α β : Type} (f : α → Option β) : List α → Option (List β)
  | [] => some []
  | a :: r => match f a with
    | some b => match mapO f r with
      | some l => some (b :: l)
      | none => none
    | none => none
def toP (h : Hc) : Nat → D → Option PyData
  | _, .non => some .none
  | _, .bl b => some (.bool b)
  | _, .int i => some (.int i)
  | _, .str x => some (.str x)
  | n + 1, .tup ds => match mapO (toP h n) ds with | some l => some (.tuple l) | none => none
  | n + 1, .flst ds => match mapO (toP h n) ds with | some l => some (.list l) | none => none
  | n + 1, .ref m => match h[m]? with
    | some (_, .lst ds) => match mapO (toP h n) ds with | some l => some (.list l) | none => none
    | _ => none
  | _, _ => none
def toS (d : D) (h : Hc) : Option PyData := match toP h 9 d with
  | some p => if SeqAt.shaped p then some p else none
  | none => none
section
variable {W : Wd} {μ : List Addr} {h : Hc} {H : Hp}
theorem mapO_dp {f : D → Option PyData} (hf : ∀ d v p, RD W μ H d v → f d = some p → Dp W.K H v p) : ∀ (ds : List D) (vs : List V) (ps : List PyData), RDs W μ H ds vs → mapO f ds = some ps → DpAll W.K H vs ps
  | [], vs, ps, r, e => by
    simp only [RDs] at r; subst r
    injection e with e; subst e; exact .nil
  | d :: ds, vs, ps, r, e => by
    simp only [RDs] at r
    obtain ⟨v, t, rfl, r1, r2⟩ := r
    simp only [mapO] at e
    cases q : f d with
    | none => rw [q] at e; cases e
    | some b =>
      rw [q] at e
      cases q2 : mapO f ds with
      | none => rw [q2] at e; cases e
      | some l =>
        rw [q2] at e
        injection e with e; subst e
        exact .cons (hf d v b r1 q) (mapO_dp hf ds t l r2 q2)
theorem toP_dp (x : R W μ h H) : ∀ (n : Nat) (d : D) (v : V) (p : PyData), RD W μ H d v → toP h n d = some p → Dp W.K H v p := by
  intro n
  induction n with
  | zero =>
    intro d v p r e
    cases d with
    | non => simp only [RD] at r; subst r; injection e with e; subst e; exact .non
    | bl b => simp only [RD] at r; subst r; injection e with e; subst e; exact .bl b
    | int b => simp only [RD] at r; subst r; injection e with e; subst e; exact .int b
    | str b => simp only [RD] at r; subst r; injection e with e; subst e; exact .str b
    | _ => cases e
  | succ n ih =>
    intro d v p r e
    cases d with
    | non => simp only [RD] at r; subst r; injection e with e; subst e; exact .non
    | bl b => simp only [RD] at r; subst r; injection e with e; subst e; exact .bl b
    | int b => simp only [RD] at r; subst r; injection e with e; subst e; exact .int b
    | str b => simp only [RD] at r; subst r; injection e with e; subst e; exact .str b
    | tup ds =>
      simp only [RD] at r
      obtain ⟨a, vs, rfl, t, r1⟩ := r
      simp only [toP] at e
      cases q : mapO (toP h n) ds with
      | none => rw [q] at e; cases e
      | some l => rw [q] at e; injection e with e; subst e; exact .tup t.seq (mapO_dp ih ds vs l r1 q)
    | flst ds =>
      simp only [RD] at r
      obtain ⟨a, vs, rfl, t, r1⟩ := r
      simp only [toP] at e
      cases q : mapO (toP h n) ds with
      | none => rw [q] at e; cases e
      | some l => rw [q] at e; injection e with e; subst e; exact .lst t.seq (mapO_dp ih ds vs l r1 q)
    | ref m =>
      simp only [RD] at r
      obtain ⟨a, e1, rfl⟩ := r
      obtain ⟨⟨l1, o1⟩, g1, ro1⟩ := x.at e1
      cases o1 with
      | lst ds =>
        obtain ⟨vs, q1, r1⟩ := ro1
        simp only [toP, g1] at e
        cases q : mapO (toP h n) ds with
        | none => rw [q] at e; cases e
        | some l => rw [q] at e; injection e with e; subst e; exact .lst (SqL.of q1) (mapO_dp ih ds vs l r1 q)
      | _ => simp only [toP, g1] at e; cases e
    | _ => cases e
theorem toS_dp (x : R W μ h H) {d : D} {v : V} {p : PyData} (r : RD W μ H d v) (e : toS d h = some p) : Dp W.K H v p ∧ SeqAt.shaped p = true := by
  unfold toS at e
  cases q : toP h 9 d with
  | none => rw [q] at e; cases e
  | some p' =>
    rw [q] at e
    simp only at e
    split at e
    · rename_i hs; injection e with e; subst e; exact ⟨toP_dp x 9 d v p' r q, hs⟩
    · cases e
end
def eqD (x y : D) (h : Hc) : Option Bool := match toS x h with
  | some p => match toS y h with
    | some q => some (PyData.eqv p q)
    | none => none
  | none => none
def gEq : G2 := fun x y h => match eqD x y h with | some b => some (.bl b, h) | none => none
def gNe : G2 := fun x y h => match eqD x y h with | some b => some (.bl (!b), h) | none => none
section
variable {X : Cx}
theorem o_eq (hu : X.A.units + 64 < cLine) : OpR X (compareOp .Eq) (lV2 (wd X) gEq) := by
  intro pins s σ H x y v u Q I rx ry k
  obtain ⟨μ, h, dx, dy, r, d1, d2, k⟩ := k
  unfold gEq eqD at k
  cases e1 : toS dx h with
  | none => rw [e1] at k; exact False.elim k
  | some p =>
    cases e2 : toS dy h with
    | none => rw [e1, e2] at k; exact False.elim k
    | some q =>
      rw [e1, e2] at k
      obtain ⟨a1, b1⟩ := toS_dp r d1 e1
      obtain ⟨a2, b2⟩ := toS_dp r d2 e2
      exact op_eqD hu pins s σ H x y v u Q I rx ry ⟨p, q, a1, a2, b1, b2, k.here r (by simp only [RD])⟩
theorem o_ne (hu : X.A.units + 64 < cLine) : OpR X (compareOp .NotEq) (lV2 (wd X) gNe) := by
  intro pins s σ H x y v u Q I rx ry k
  obtain ⟨μ, h, dx, dy, r, d1, d2, k⟩ := k
  unfold gNe eqD at k
  cases e1 : toS dx h with
  | none => rw [e1] at k; exact False.elim k
  | some p =>
    cases e2 : toS dy h with
    | none => rw [e1, e2] at k; exact False.elim k
    | some q =>
      rw [e1, e2] at k
      obtain ⟨a1, b1⟩ := toS_dp r d1 e1
      obtain ⟨a2, b2⟩ := toS_dp r d2 e2
      exact op_neD hu pins s σ H x y v u Q I rx ry ⟨p, q, a1, a2, b1, b2, k.here r (by simp only [RD])⟩
theorem roomIn {A : Around} {d : PyData} {n : Nat} (sd : SeqAt.shaped d = true) (hu : A.units + 65 < cLine) : A.units + 1 + min n d.depth < cLine := by
  have h1 := SeqAt.depth_of_shaped sd
  have h2 : min n d.depth ≤ d.depth := Nat.min_le_right _ _
  omega
end

def gIx : G2 := fun x y h => match y with
  | .int i => match x with
    | .str z => match (if z.length ≤ sizeLine then atI z.cps.toList i else none) with
      | some c => some (.str ⟨#[c]⟩, h)
      | none => none
    | _ => match asSeq x h with
      | some ds => match atI ds i with
        | some d => some (d, h)
        | none => none
      | none => none
  | _ => none
theorem atI_RD {W : Wd} {μ : List Addr} {H : Hp} {ds : List D} {vs : List V} {i : Int} {d : D} (r : RDs W μ H ds vs) (e : atI ds i = some d) : ∃ v, atI vs i = some v ∧ RD W μ H d v := by
  unfold atI at e ⊢
  rw [← r.len]
  cases q : ixN ds.length i with
  | none => rw [q] at e; cases e
  | some j =>
    rw [q] at e
    obtain ⟨v, h1, h2⟩ := r.get (show ds[j]? = some d from e)
    exact ⟨v, h1, h2⟩
section
variable {X : Cx} {Wx : WX} {a b : Expr} {ca cb : CE} {pos p2 : Pos} {lo hi : Option Expr} {cl cu : Option CE}
theorem i_ix : IxR X (lV2 (wd X) gIx) := by
  intro value slice pins s σ H x y v u Q I rx ry k hs
  obtain ⟨μ, h, dx, dy, r, d1, d2, k⟩ := k
  cases dy with
  | int i =>
    simp only [RD] at d2; subst d2
    have seq : (∃ ds d, asSeq dx h = some ds ∧ atI ds i = some d ∧ kO (wd X) μ h H Q (some (d, h))) → rIx X.K x (.int i) H Q := by
      rintro ⟨ds, d, e, e2, k⟩
      obtain ⟨p, vs, rfl, hq, rs⟩ := asSeq_ok r d1 e
      obtain ⟨w, e3, rw'⟩ := atI_RD rs e2
      rcases hq with hq | hq
      · exact .inl ⟨p, vs, i, w, rfl, rfl, hq, e3, k.here r rw'⟩
      · exact .inr (.inl ⟨p, vs, i, w, rfl, rfl, hq, e3, k.here r rw'⟩)
    have fin : rIx X.K x (.int i) H Q := by
      unfold gIx at k
      simp only at k
      split at k
      · rename_i z
        simp only [RD] at d1; subst d1
        split at k
        · rename_i c hc
          split at hc
          · rename_i hz
            exact .inr (.inr ⟨z, i, c, rfl, rfl, hz, hc, k.here r (by simp only [RD])⟩)
          · cases hc
        · exact False.elim k
      · split at k
        · rename_i ds e
          split at k
          · rename_i d e2
            exact seq ⟨ds, d, e, e2, k⟩
          · exact False.elim k
        · exact False.elim k
    exact ix_seq value slice pins s σ H x _ v u Q I rx ry fin hs
  | _ => exact False.elim k
theorem s_ix {g : G2} (hr : IxR X (lV2 (wd X) g)) (ha : SE X Wx a ca) (hb : SE X Wx b cb) (hs : PlainIx b := by exact fun _ _ => rfl) : SE X Wx (.Subscript a b pos) (c2 g ca cb) :=
  pe_mono (pe_ix hr ha hb hs) fun _ _ _ k => use2 k
def cPart (c : Option CE) : Rho → Hc → Res (Option Int) := fun ρ h => match c with | none => .ok none h | some c => (c ρ h).bind fun e h2 => match e with | .int i => .ok (some i) h2 | _ => .stuck
def cutD (ds : List D) (l u : Option Int) : List D := (ds.drop (HT.sIx ds.length 0 l)).take (HT.sIx ds.length ds.length u - HT.sIx ds.length 0 l)
def gSl (d : D) (l u : Option Int) (h : Hc) : VO := match d with
  | .tup ds => some (.tup (cutD ds l u), h)
  | _ => match asSeq d h with
    | some ds => some (.ref h.length, h ++ [(false, .lst (cutD ds l u))])
    | none => none
def cCut (x : CE) (lo hi : Option CE) : CE := fun ρ h => (x ρ h).bind fun d h1 => (cPart lo ρ h1).bind fun l h2 => (cPart hi ρ h2).bind fun u h3 => (gSl d l u h3).res
end
end Sx

set_option Elab.async false
set_option linter.all false
set_option maxRecDepth 100000
namespace Sx
open PySem PySem.Spec PyProof.Rows L2

section
variable {prog : Program} {w : World} {A : Around} {E : Value → Shared → Prop} {s : Shared} {l : Addr} {xs : Array (Int × Tok)} {Q : Value → Shared → Prop}
theorem iterTup (hl : s.heap.IsTuple l (intItems xs))
    (h : ∀ s₂ : Shared, s₂ = { s with heap := s.heap.push { cls := .type "tuple_iterator", data := .fields #[.ref l, .int 0 0] } } →
      (s₂.heap.IsTupleIter s.heap.objs.size l 0 ∧ s₂.heap.IsTuple l (intItems xs)) → (∀ b ∈ [s.heap.objs.size, l], b < s₂.heap.objs.size) → l ≠ s.heap.objs.size → Q (.ref s.heap.objs.size) s₂) :
    wpAny (model prog w) A (pyIter (.ref l)) Q E s := by
  have hlt : l < s.heap.objs.size := by obtain ⟨_, e, _⟩ := hl; exact Heap.lt_size e
  refine wpAny_pyIter_tuple hl (h _ rfl ⟨⟨_, Heap.get?_push_size _ rfl, rfl, rfl⟩, hl.push _⟩ (fun b hb => ?_) (Nat.ne_of_lt hlt))
  show b < (s.heap.push _).objs.size
  rw [Heap.size_push]
  simp only [List.mem_cons, List.not_mem_nil, or_false] at hb
  rcases hb with rfl | rfl
  · exact Nat.lt_succ_self _
  · exact Nat.lt_succ_of_lt hlt
theorem keptOld {o : Obj} {h' : Heap} (hk : ∀ b ob, b ∉ [s.heap.objs.size] → (s.heap.push o).get? b = some ob → h'.get? b = some ob) : ∀ b ob, s.heap.get? b = some ob → h'.get? b = some ob := fun b ob e =>
  hk b ob (fun hm => by simp only [List.mem_cons, List.not_mem_nil, or_false] at hm; exact absurd (hm ▸ Heap.lt_size e) (Nat.lt_irrefl _)) (Heap.get?_push_of_some _ e)
theorem sumTup {its : List Value} {ns : List Int} (hh : A.handled = none) (hl : s.heap.IsTuple l its.toArray) (hi : IntsAre its ns)
    (h : ∀ h' tk t', (∀ b o, s.heap.get? b = some o → h'.get? b = some o) → Q (.int ns.sum t') { s with heap := h', toks := tk }) : wpAny (model prog w) A (call (.builtin "sum") [.ref l]) Q E s := by
  obtain ⟨xs, e⟩ := hi.allInts.items
  have hn : numsOf (intItems xs).toList = ns := by rw [← e]; exact hi.numsOf
  rw [nums_intItems] at hn
  rw [e] at hl
  refine call_sum_walkG (iterTup hl fun s₂ e st hfp hlI => ?_)
  subst e
  refine ⟨_, _, _, _, _, _, numAt xs, rfl, Walks.tuple (A := A.in1) hh _ l hlI (intItems xs), st, hfp, (fun _ _ => intItems_at), fun h' tk t' hk => ?_⟩
  have q := h h' tk t' (keptOld hk)
  rw [preSum_eq, List.take_of_length_le (by simp [intItems]), hn]
  exact q
theorem maxTup {its : List Value} {ns : List Int} (hh : A.handled = none) (hl : s.heap.IsTuple l its.toArray) (hi : IntsAre its ns) (hne : 0 < ns.length)
    (h : ∀ h' tk M t', (∀ b o, s.heap.get? b = some o → h'.get? b = some o) → M ∈ ns → (∀ a, a ∈ ns → a ≤ M) → Q (.int M t') { s with heap := h', toks := tk }) : wpAny (model prog w) A (call (.builtin "max") [.ref l]) Q E s := by
  obtain ⟨xs, e⟩ := hi.allInts.items
  have hn : numsOf (intItems xs).toList = ns := by rw [← e]; exact hi.numsOf
  rw [nums_intItems] at hn
  subst hn
  rw [e] at hl
  have hsz : 0 < xs.size := by simpa using hne
  refine call_max_walk (iterTup hl fun s₂ e st hfp hlI => ?_)
  subst e
  refine ⟨_, _, _, _, _, _, _, rfl, Walks.tuple (A := A.in1) hh _ l hlI (intItems xs), st, hfp, by simpa [intItems] using hsz, CmpOf.ints_gt (numAt xs) (fun _ _ => intItems_at), fun v h' tk hP hk => ?_⟩
  have hP' : (intItems xs)[argBest (fun i j => decide (numAt xs i > numAt xs j)) (xs.size - 1)]? = some v := by simpa [intItems] using hP
  obtain ⟨t, rfl⟩ := intItems_at hP'
  obtain ⟨h1, h2⟩ := argBest_gt (numAt xs) (xs.size - 1)
  refine h h' tk _ t (keptOld hk) ?_ fun a ha => ?_
  · rw [numAt_eq]; exact PySem.getD_mem (by rw [List.length_map, Array.length_toList]; omega)
  · obtain ⟨j, hj, rfl⟩ := mem_getD ha
    rw [List.length_map, Array.length_toList] at hj
    rw [← numAt_eq]; exact h2 j (by omega)
theorem minTup {its : List Value} {ns : List Int} (hh : A.handled = none) (hl : s.heap.IsTuple l its.toArray) (hi : IntsAre its ns) (hne : 0 < ns.length)
    (h : ∀ h' tk M t', (∀ b o, s.heap.get? b = some o → h'.get? b = some o) → M ∈ ns → (∀ a, a ∈ ns → M ≤ a) → Q (.int M t') { s with heap := h', toks := tk }) : wpAny (model prog w) A (call (.builtin "min") [.ref l]) Q E s := by
  obtain ⟨xs, e⟩ := hi.allInts.items
  have hn : numsOf (intItems xs).toList = ns := by rw [← e]; exact hi.numsOf
  rw [nums_intItems] at hn
  subst hn
  rw [e] at hl
  have hsz : 0 < xs.size := by simpa using hne
  refine call_min_walk (iterTup hl fun s₂ e st hfp hlI => ?_)
  subst e
  refine ⟨_, _, _, _, _, _, _, rfl, Walks.tuple (A := A.in1) hh _ l hlI (intItems xs), st, hfp, by simpa [intItems] using hsz, CmpOf.ints_lt (numAt xs) (fun _ _ => intItems_at), fun v h' tk hP hk => ?_⟩
  have hP' : (intItems xs)[argBest (fun i j => decide (numAt xs i < numAt xs j)) (xs.size - 1)]? = some v := by simpa [intItems] using hP
  obtain ⟨t, rfl⟩ := intItems_at hP'
  obtain ⟨h1, h2⟩ := argBest_lt (numAt xs) (xs.size - 1)
  refine h h' tk _ t (keptOld hk) ?_ fun a ha => ?_
  · rw [numAt_eq]; exact PySem.getD_mem (by rw [List.length_map, Array.length_toList]; omega)
  · obtain ⟨j, hj, rfl⟩ := mem_getD ha
    rw [List.length_map, Array.length_toList] at hj
    rw [← numAt_eq]; exact h2 j (by omega)
end

def gLen : GL := fun xs h => match xs with
  | [.str z] => if z.length ≤ sizeLine then some (.int z.length, h) else none
  | [d] => match asSeq d h with | some ds => some (.int ds.length, h) | none => none
  | _ => none
def gInt : GL := fun xs h => match xs with
  | [.int i] => some (.int i, h)
  | [.bl true] => some (.int 1, h)
  | [.bl false] => some (.int 0, h)
  | _ => none
def maxL : List Int → Int
  | [] => 0
  | [a] => a
  | a :: b :: r => let m := maxL (b :: r); if a < m then m else a
def minL : List Int → Int
  | [] => 0
  | [a] => a
  | a :: b :: r => let m := minL (b :: r); if m < a then m else a
theorem maxL_mem : ∀ {l : List Int}, l ≠ [] → maxL l ∈ l ∧ ∀ a ∈ l, a ≤ maxL l
  | [], h => absurd rfl h
  | [a], _ => by simp [maxL]
  | a :: b :: r, _ => by
    obtain ⟨h1, h2⟩ := maxL_mem (l := b :: r) (by simp)
    simp only [maxL]
    split
    · rename_i q
      refine ⟨List.mem_cons_of_mem _ h1, fun x hx => ?_⟩
      rcases List.mem_cons.mp hx with rfl | hx
      · exact Int.le_of_lt q
      · exact h2 x hx
    · rename_i q
      refine ⟨List.mem_cons_self, fun x hx => ?_⟩
      rcases List.mem_cons.mp hx with rfl | hx
      · exact Int.le_refl _
      · exact Int.le_trans (h2 x hx) (Int.not_lt.mp q)
theorem minL_mem : ∀ {l : List Int}, l ≠ [] → minL l ∈ l ∧ ∀ a ∈ l, minL l ≤ a
  | [], h => absurd rfl h
  | [a], _ => by simp [minL]
  | a :: b :: r, _ => by
    obtain ⟨h1, h2⟩ := minL_mem (l := b :: r) (by simp)
    simp only [minL]
    split
    · rename_i q
      refine ⟨List.mem_cons_of_mem _ h1, fun x hx => ?_⟩
      rcases List.mem_cons.mp hx with rfl | hx
      · exact Int.le_of_lt q
      · exact h2 x hx
    · rename_i q
      refine ⟨List.mem_cons_self, fun x hx => ?_⟩
      rcases List.mem_cons.mp hx with rfl | hx
      · exact Int.le_refl _
      · exact Int.le_trans (Int.not_lt.mp q) (h2 x hx)
def gMax : GL := fun xs h => match xs with
  | [.int i, .int j] => some (.int (if j > i then j else i), h)
  | [d] => match asSeq d h with
    | some ds => match intsOf ds with
      | some [] => none
      | some ns => some (.int (maxL ns), h)
      | none => none
    | none => none
  | _ => none
def gMin : GL := fun xs h => match xs with
  | [.int i, .int j] => some (.int (if j < i then j else i), h)
  | [d] => match asSeq d h with
    | some ds => match intsOf ds with
      | some [] => none
      | some ns => some (.int (minL ns), h)
      | none => none
    | none => none
  | _ => none
def gSum : GL := fun xs h => match xs with
  | [d] => match asSeq d h with
    | some ds => match intsOf ds with
      | some ns => some (.int ns.sum, h)
      | none => none
    | none => none
  | _ => none
def isTup : D → Bool | .tup _ => true | _ => false
def gAll : GL := fun xs h => match xs with
  | [d] => match (if isTup d then none else asSeq d h) with
    | some ds => match blsOf ds with
      | some ns => some (.bl (ns.all id), h)
      | none => none
    | none => none
  | _ => none
def gTuple : GL := fun xs h => match xs with
  | [.tup ds] => some (.tup ds, h)
  | [d] => match asSeq d h with
    | some ds => some (.tup ds, h)
    | none => none
  | _ => none
def tyOf (d : D) (h : Hc) : Option String := match d with
  | .non => some "NoneType"
  | .bl _ => some "bool"
  | .int _ => some "int"
  | .str _ => some "str"
  | .tup _ => some "tuple"
  | .flst _ => some "list"
  | .ref n => match h[n]? with
    | some (_, .lst _) => some "list"
    | _ => none
  | _ => none
def isiB (a b : String) : Option Bool :=
  if b = "int" then (if a = "int" ∨ a = "bool" then some true else if a = "NoneType" ∨ a = "str" ∨ a = "tuple" ∨ a = "list" then some false else none)
  else if b = "bool" ∨ b = "str" ∨ b = "tuple" ∨ b = "list" then (if a = b then some true else if a = "NoneType" ∨ a = "bool" ∨ a = "int" ∨ a = "str" ∨ a = "tuple" ∨ a = "list" then some false else none)
  else none
theorem isiB_ok {a b : String} {r : Bool} (h : isiB a b = some r) : kitB a b = some r := by
  unfold isiB at h
  split at h
  · rename_i hb; subst hb
    split at h
    · rename_i ha; injection h with h; subst h
      rcases ha with rfl | rfl <;> decide +kernel
    · split at h
      · rename_i ha; injection h with h; subst h
        rcases ha with rfl | rfl | rfl | rfl <;> decide +kernel
      · cases h
  · split at h
    · rename_i hb
      split at h
      · rename_i ha; injection h with h; subst h; subst ha
        rcases hb with rfl | rfl | rfl | rfl <;> decide +kernel
      · rename_i hab
        split at h
        · rename_i ha; injection h with h; subst h
          rcases hb with rfl | rfl | rfl | rfl <;> rcases ha with rfl | rfl | rfl | rfl | rfl | rfl <;> first | exact absurd rfl hab | decide +kernel
        · cases h
    · cases h
def gIsi : GL := fun xs h => match xs with
  | [d, .ty b] => match tyOf d h with
    | some a => match isiB a b with
      | some r => some (.bl r, h)
      | none => none
    | none => none
  | _ => none
section
variable {W : Wd} {μ : List Addr} {h : Hc} {H : Hp}
theorem tyOf_ok (x : R W μ h H) {d : D} {v : V} {a : String} (r : RD W μ H d v) (e : tyOf d h = some a) : TyX W.K H v (.type a) := by
  cases d with
  | non => simp only [RD] at r; subst r; injection e with e; subst e; exact .base .non
  | bl b => simp only [RD] at r; subst r; injection e with e; subst e; exact .base (.bl b)
  | int b => simp only [RD] at r; subst r; injection e with e; subst e; exact .base (.int b)
  | str b => simp only [RD] at r; subst r; injection e with e; subst e; exact .base (.str b)
  | tup ds =>
    simp only [RD] at r; obtain ⟨p, vs, rfl, t, _⟩ := r
    injection e with e; subst e
    rcases t with ⟨o, e1, _⟩ | ⟨o, its, n, e1, e2, _⟩
    · exact .fTuple e1
    · exact .kTuple e1 e2
  | flst ds =>
    simp only [RD] at r; obtain ⟨p, vs, rfl, t, _⟩ := r
    injection e with e; subst e
    rcases t with ⟨o, e1⟩ | ⟨o, its, n, e1, e2, _⟩
    · exact .base (.frz e1)
    · exact .kList e1 e2
  | ref n =>
    simp only [RD] at r
    obtain ⟨p, e1, rfl⟩ := r
    obtain ⟨⟨l1, o1⟩, g1, ro1⟩ := x.at e1
    cases o1 with
    | lst ds =>
      simp only [tyOf, g1] at e; injection e with e; subst e
      obtain ⟨vs, q1, _⟩ := ro1
      exact .base (.lst q1)
    | _ => simp only [tyOf, g1] at e; cases e
  | _ => cases e
end
section
variable {X : Cx} {W : Wd} {μ : List Addr} {h : Hc} {H : Hp}
theorem rds1 {d : D} {xs : List V} (r : RDs W μ H [d] xs) : ∃ v, xs = [v] ∧ RD W μ H d v := by
  simp only [RDs] at r
  obtain ⟨v, t, rfl, a, rfl⟩ := r
  exact ⟨v, rfl, a⟩
theorem rds2 {d e : D} {xs : List V} (r : RDs W μ H [d, e] xs) : ∃ v w, xs = [v, w] ∧ RD W μ H d v ∧ RD W μ H e w := by
  simp only [RDs] at r
  obtain ⟨v, t, rfl, a, w, t2, rfl, b, rfl⟩ := r
  exact ⟨v, w, rfl, a, b⟩
theorem k_len : CallR X (.builtin "len") (lVs (wd X) gLen) := by
  intro pins s σ H xs us Q I r k
  obtain ⟨μ, h, ds, x, rs, k⟩ := k
  unfold gLen at k
  split at k
  · rename_i z
    obtain ⟨v, rfl, rd⟩ := rds1 rs
    simp only [RD] at rd; subst rd
    split at k
    · rename_i hz
      exact call_len pins s σ H _ us Q I r ⟨_, z.length, rfl, ⟨hz, rfl⟩, k.here x (by simp only [RD])⟩
    · exact False.elim k
  · rename_i d _
    obtain ⟨v, rfl, rd⟩ := rds1 rs
    split at k
    · rename_i es e
      obtain ⟨p, vs, rfl, hq, r2⟩ := asSeq_ok x rd e
      refine call_len pins s σ H _ us Q I r ⟨_, es.length, rfl, ?_, k.here x (by simp only [RD])⟩
      rcases hq with hq | hq
      · exact .inl ⟨vs, hq, r2.len⟩
      · exact .inr ⟨vs, hq, r2.len⟩
    · exact False.elim k
  · exact False.elim k
theorem k_int : CallR X (.type "int") (lVs (wd X) gInt) := by
  intro pins s σ H xs us Q I r k
  obtain ⟨μ, h, ds, x, rs, k⟩ := k
  unfold gInt at k
  split at k
  · obtain ⟨v, rfl, rd⟩ := rds1 rs
    simp only [RD] at rd; subst rd
    exact call_int1 pins s σ H _ us Q I r (.inl ⟨_, rfl, k.here x (by simp only [RD])⟩)
  · obtain ⟨v, rfl, rd⟩ := rds1 rs
    simp only [RD] at rd; subst rd
    exact call_int1 pins s σ H _ us Q I r (.inr ⟨_, rfl, k.here x (by simp only [RD]; rfl)⟩)
  · obtain ⟨v, rfl, rd⟩ := rds1 rs
    simp only [RD] at rd; subst rd
    exact call_int1 pins s σ H _ us Q I r (.inr ⟨_, rfl, k.here x (by simp only [RD]; rfl)⟩)
  · exact False.elim k
theorem uniqMax {ns : List Int} {m : Int} (hn : ns ≠ []) (h1 : m ∈ ns) (h2 : ∀ y, y ∈ ns → y ≤ m) : m = maxL ns :=
  Int.le_antisymm ((maxL_mem hn).2 m h1) (h2 _ (maxL_mem hn).1)
theorem uniqMin {ns : List Int} {m : Int} (hn : ns ≠ []) (h1 : m ∈ ns) (h2 : ∀ y, y ∈ ns → m ≤ y) : m = minL ns :=
  Int.le_antisymm (h2 _ (minL_mem hn).1) ((minL_mem hn).2 m h1)
theorem k_max (hc : X.calm = true) : CallR X (.builtin "max") (lVs (wd X) gMax) := by
  intro pins s σ H xs us Q I r k
  obtain ⟨μ, h, ds, x, rs, k⟩ := k
  unfold gMax at k
  split at k
  · obtain ⟨v, w, rfl, rd, re⟩ := rds2 rs
    simp only [RD] at rd re; subst rd; subst re
    exact call_max2 hc pins s σ H _ us Q I r ⟨_, _, rfl, k.here x (by simp only [RD])⟩
  · obtain ⟨v, rfl, rd⟩ := rds1 rs
    split at k
    · rename_i es e
      split at k
      · exact False.elim k
      · rename_i ns hne e2
        have hn : ns ≠ [] := hne
        have hn2 : 0 < ns.length := by cases ns with | nil => exact absurd rfl hn | cons _ _ => simp
        obtain ⟨p, vs, rfl, hq, r2⟩ := asSeq_ok x rd e
        obtain ⟨rfl, _⟩ := intsOf_ok r2 e2
        have kk : ∀ m, m ∈ ns → (∀ y, y ∈ ns → y ≤ m) → Q (.int m) H := fun m a b => by
          rw [uniqMax hn a b]; exact k.here x (by simp only [RD])
        rcases hq with hq | hq
        · exact cr_max hc pins s σ H _ us Q I r ⟨p, ns, rfl, hq, hn2, kk⟩
        · obtain ⟨its, v1, ht, _⟩ := I.tuple hq
          rw [Vals.ref1 r]
          exact maxTup (I.ok.hd hc) ht v1.ints hn2 fun h' tk m t' hk a b => ⟨.int _, H, I.kept hk, ⟨_, rfl⟩, kk m a b⟩
      · exact False.elim k
    · exact False.elim k
  · exact False.elim k
theorem k_min (hc : X.calm = true) : CallR X (.builtin "min") (lVs (wd X) gMin) := by
  intro pins s σ H xs us Q I r k
  obtain ⟨μ, h, ds, x, rs, k⟩ := k
  unfold gMin at k
  split at k
  · obtain ⟨v, w, rfl, rd, re⟩ := rds2 rs
    simp only [RD] at rd re; subst rd; subst re
    exact call_min2 hc pins s σ H _ us Q I r ⟨_, _, rfl, k.here x (by simp only [RD])⟩
  · obtain ⟨v, rfl, rd⟩ := rds1 rs
    split at k
    · rename_i es e
      split at k
      · exact False.elim k
      · rename_i ns hne e2
        have hn : ns ≠ [] := hne
        have hn2 : 0 < ns.length := by cases ns with | nil => exact absurd rfl hn | cons _ _ => simp
        obtain ⟨p, vs, rfl, hq, r2⟩ := asSeq_ok x rd e
        obtain ⟨rfl, _⟩ := intsOf_ok r2 e2
        have kk : ∀ m, m ∈ ns → (∀ y, y ∈ ns → m ≤ y) → Q (.int m) H := fun m a b => by
          rw [uniqMin hn a b]; exact k.here x (by simp only [RD])
        rcases hq with hq | hq
        · exact cr_min hc pins s σ H _ us Q I r ⟨p, ns, rfl, hq, hn2, kk⟩
        · obtain ⟨its, v1, ht, _⟩ := I.tuple hq
          rw [Vals.ref1 r]
          exact minTup (I.ok.hd hc) ht v1.ints hn2 fun h' tk m t' hk a b => ⟨.int _, H, I.kept hk, ⟨_, rfl⟩, kk m a b⟩
      · exact False.elim k
    · exact False.elim k
  · exact False.elim k
theorem k_sum (hc : X.calm = true) : CallR X (.builtin "sum") (lVs (wd X) gSum) := by
  intro pins s σ H xs us Q I r k
  obtain ⟨μ, h, ds, x, rs, k⟩ := k
  unfold gSum at k
  split at k
  · obtain ⟨v, rfl, rd⟩ := rds1 rs
    split at k
    · rename_i es e
      split at k
      · rename_i ns e2
        obtain ⟨p, vs, rfl, hq, r2⟩ := asSeq_ok x rd e
        obtain ⟨rfl, _⟩ := intsOf_ok r2 e2
        have kk : Q (.int ns.sum) H := k.here x (by simp only [RD])
        rcases hq with hq | hq
        · exact cr_sum hc pins s σ H _ us Q I r ⟨p, ns, rfl, hq, kk⟩
        · obtain ⟨its, v1, ht, _⟩ := I.tuple hq
          rw [Vals.ref1 r]
          exact sumTup (I.ok.hd hc) ht v1.ints fun h' tk t' hk => ⟨.int _, H, I.kept hk, ⟨_, rfl⟩, kk⟩
      · exact False.elim k
    · exact False.elim k
  · exact False.elim k
theorem notTup {d : D} {v : V} {h : Hc} {ds : List D} (x : R W μ h H) (r : RD W μ H d v) (e : (if isTup d then none else asSeq d h) = some ds) : ∃ a vs, v = .ref a ∧ SqL W.K H a vs ∧ RDs W μ H ds vs := by
  cases d with
  | tup es => cases e
  | flst es =>
    have e : some es = some ds := e
    injection e with e; subst e
    simp only [RD] at r
    obtain ⟨a, vs, rfl, e2, e3⟩ := r
    exact ⟨a, vs, rfl, e2.seq, e3⟩
  | ref n =>
    simp only [RD] at r
    obtain ⟨a, e1, rfl⟩ := r
    obtain ⟨⟨l, o⟩, e2, ro⟩ := x.at e1
    cases o with
    | lst es =>
      have e : asSeq (.ref n) h = some ds := e
      simp only [asSeq, e2] at e; injection e with e; subst e
      obtain ⟨vs, e3, e4⟩ := ro
      exact ⟨a, vs, rfl, SqL.of e3, e4⟩
    | _ =>
      have e : asSeq (.ref n) h = some ds := e
      simp only [asSeq, e2] at e; cases e
  | _ => cases e
theorem k_all (hc : X.calm = true) : CallR X (.builtin "all") (lVs (wd X) gAll) := by
  intro pins s σ H xs us Q I r k
  obtain ⟨μ, h, ds, x, rs, k⟩ := k
  unfold gAll at k
  split at k
  · obtain ⟨v, rfl, rd⟩ := rds1 rs
    split at k
    · rename_i es e
      split at k
      · rename_i ns e2
        obtain ⟨p, vs, rfl, hq, r2⟩ := notTup x rd e
        have e3 := blsOf_ok r2 e2
        subst e3
        exact cr_all hc pins s σ H _ us Q I r ⟨p, ns, rfl, hq, k.here x (by simp only [RD])⟩
      · exact False.elim k
    · exact False.elim k
  · exact False.elim k
theorem k_isi : CallR X (.builtin "isinstance") (lVs (wd X) gIsi) := by
  intro pins s σ H xs us Q I r k
  obtain ⟨μ, h, ds, x, rs, k⟩ := k
  unfold gIsi at k
  split at k
  · obtain ⟨v, w, rfl, rd, re⟩ := rds2 rs
    simp only [RD] at re; subst re
    split at k
    · rename_i a e
      split at k
      · rename_i b e2
        exact call_isi pins s σ H _ us Q I r ⟨v, _, _, _, b, rfl, .ty _, tyOf_ok x rd e, kit_ty (isiB_ok e2), k.here x (by simp only [RD])⟩
      · exact False.elim k
    · exact False.elim k
  · exact False.elim k
theorem k_tuple : CallR X (.type "tuple") (lVs (wd X) gTuple) := by
  intro pins s σ H xs us Q I r k
  obtain ⟨μ, h, ds, x, rs, k⟩ := k
  unfold gTuple at k
  split at k
  · obtain ⟨v, rfl, rd⟩ := rds1 rs
    have rd0 := rd
    simp only [RD] at rd
    obtain ⟨p, vs, rfl, t, r2⟩ := rd
    obtain ⟨its, _, pl, _⟩ := I.tuple t.seq
    rw [Vals.ref1 r]
    exact call_tuple_same (items := its.toArray) pl ⟨.ref p, H, I, rfl, k.here x rd0⟩
  · rename_i d hnt
    obtain ⟨v, rfl, rd⟩ := rds1 rs
    split at k
    · rename_i es e
      have e' : (if isTup d then none else asSeq d h) = some es := by
        cases d with
        | tup q => exact absurd rfl (hnt q)
        | _ => exact e
      obtain ⟨p, vs, rfl, hq, r2⟩ := notTup x rd e'
      obtain ⟨its, v1, pl, hz⟩ := I.list hq
      rw [Vals.ref1 r]
      refine call_tuple_list pl.isList (fun h' kp => ?_) (by simp only [List.size_toArray]; rw [← v1.length]; exact hz)
      have I1 : Inv X pins σ H { s with heap := h' } := I.kept (t' := s.toks) kp
      exact ⟨.ref h'.objs.size, _, laidTup (t := s.toks) I1 v1 hz, rfl, k.tup x r2 (I1.hok.fresh (Nat.le_refl _)) rfl⟩
    · exact False.elim k
  · exact False.elim k
end
end Sx

set_option Elab.async false
set_option linter.all false
set_option maxRecDepth 100000
namespace Sx
open PySem PySem.Spec PyProof.Rows L2

inductive TGT where
  | nm (i : Nat) | tp (ts : List TGT)
mutual
def asg : TGT → D → Rho → Option Rho
  | .nm i, d, ρ => some (ρ.set i (some d))
  | .tp ts, .tup ds, ρ => asgs ts ds ρ
  | _, _, _ => none
def asgs : List TGT → List D → Rho → Option Rho
  | [], [], ρ => some ρ
  | t :: ts, d :: ds, ρ => match asg t d ρ with
    | some ρ1 => asgs ts ds ρ1
    | none => none
  | _, _, _ => none
end
mutual
def tvars : TGT → List Nat
  | .nm i => [i]
  | .tp ts => tvarss ts
def tvarss : List TGT → List Nat
  | [] => []
  | t :: ts => tvars t ++ tvarss ts
end
def RDw (W : Wd) (μ : List Addr) (H : Hp) (d : D) (v : V) : Prop := ∃ a vs ds, d = .tup ds ∧ v = .ref a ∧ SqT W.K H a vs ∧ RDs W μ H ds vs
def RDt (W : Wd) (μ : List Addr) (H : Hp) : TGT → D → V → Prop
  | .nm _ => RD W μ H
  | .tp _ => RDw W μ H
def Only' (vs : List Nat) (σ σ' : L2.St) : Prop := σ'.length = σ.length ∧ ∀ i, i ∉ vs → σ'[i]? = σ[i]?
def lTg (W : Wd) (t : TGT) : TG := fun v σ H Q => ∃ μ ρ h d ρ', R W μ h H ∧ RS W μ H ρ σ ∧ RDt W μ H t d v ∧ asg t d ρ = some ρ' ∧ ∀ σ', RS W μ H ρ' σ' → Only' (tvars t) σ σ' → Q σ' H
def lTgs (W : Wd) (ts : List TGT) : TGs := fun vs σ H Q => ∃ μ ρ h ds ρ', R W μ h H ∧ RS W μ H ρ σ ∧ RDs W μ H ds vs ∧ asgs ts ds ρ = some ρ' ∧ ∀ σ', RS W μ H ρ' σ' → Only' (tvarss ts) σ σ' → Q σ' H
abbrev SG (X : Cx) (e : Expr) (t : TGT) : Prop := PG X e (lTg (wd X) t)
abbrev SGs (X : Cx) (es : List Expr) (ts : List TGT) : Prop := PGs X es (lTgs (wd X) ts)
theorem pg_mono {X : Cx} {e : Expr} {t t' : TG} (h : PG X e t) (k : ∀ v σ H Q, t' v σ H Q → t v σ H Q) : PG X e t' := ⟨fun pins s σ H v u Q I r q => h.run pins s σ H v u Q I r (k v σ H Q q)⟩
theorem pgs_mono {X : Cx} {e : List Expr} {t t' : TGs} (h : PGs X e t) (k : ∀ v σ H Q, t' v σ H Q → t v σ H Q) : PGs X e t' := ⟨fun pins s σ H v u Q I r q => h.run pins s σ H v u Q I r (k v σ H Q q)⟩
theorem RDt.of {W : Wd} {μ : List Addr} {H : Hp} {t : TGT} {d : D} {v : V} {ρ ρ' : Rho} (r : RD W μ H d v) (e : asg t d ρ = some ρ') : RDt W μ H t d v := by
  cases t with
  | nm i => exact r
  | tp ts =>
    cases d with
    | tup ds =>
      simp only [RD] at r
      obtain ⟨a, vs, rfl, t, r1⟩ := r
      exact ⟨a, vs, ds, rfl, rfl, t.seq, r1⟩
    | _ => simp [asg] at e
section
variable {X : Cx} {pos : Pos}
theorem g_nm {i : Nat} {x : Str} (hN : X.N.Nodup) (hi : X.N[i]? = some x := by rfl) (hx : Loc X.env.scope x := by first | exact Or.inl rfl | exact Or.inr rfl) (hf : X.fn x = true ∨ X.env.scope.names.lookup x = some .local := by first | exact .inl rfl | exact .inr rfl) : SG X (.Name x pos) (.nm i) := by
  refine pg_mono (pg_name hN hi hx hf) fun v σ H Q ⟨μ, ρ, h, d, ρ', r, rs, rd, e, k⟩ => ?_
  simp only [asg] at e
  injection e with e; subst e
  exact k _ (rs.put rd i) ⟨by simp, fun j hj => by rw [List.getElem?_set_ne]; intro z; subst z; simp [tvars] at hj⟩
theorem gs_nil : SGs X [] [] := by
  refine pgs_mono pgs_nil fun v σ H Q ⟨μ, ρ, h, ds, ρ', r, rs, rd, e, k⟩ => ?_
  cases ds with
  | nil =>
    simp only [asgs] at e
    injection e with e; subst e
    simp only [RDs] at rd; subst rd
    exact ⟨rfl, k σ rs ⟨rfl, fun _ _ => rfl⟩⟩
  | cons _ _ => simp [asgs] at e
theorem gs_cons {e : Expr} {es : List Expr} {t : TGT} {ts : List TGT} (h1 : SG X e t) (h2 : SGs X es ts) (hs : (assignEach (e :: es) X.env).map (·.2) = assign e X.env :: (assignEach es X.env).map (·.2) := by rfl) : SGs X (e :: es) (t :: ts) := by
  refine pgs_mono (pgs_cons h1 h2 hs) fun vs σ H Q ⟨μ, ρ, h, ds, ρ', r, rs, rd, e, k⟩ => ?_
  cases ds with
  | nil => simp [asgs] at e
  | cons d ds =>
    simp only [asgs] at e
    cases q : asg t d ρ with
    | none => rw [q] at e; cases e
    | some ρ1 =>
      rw [q] at e
      simp only [RDs] at rd
      obtain ⟨v, w, rfl, d1, d2⟩ := rd
      refine ⟨v, w, rfl, μ, ρ, h, d, ρ1, r, rs, RDt.of d1 q, q, fun σ1 s1 o1 => ⟨μ, ρ1, h, ds, ρ', r, s1, d2, e, fun σ2 s2 o2 => k σ2 s2 ⟨o2.1.trans o1.1, fun i hi => ?_⟩⟩⟩
      simp only [tvarss, List.mem_append, not_or] at hi
      rw [o2.2 i hi.2, o1.2 i hi.1]
theorem g_tp {es : List Expr} {k : Nat} {ts : List TGT} (hc : X.calm = true) (h : SGs X es ts) (hn : (assignEach es X.env).length = ts.length := by rfl) (hst : (assignEach es X.env).findIdx? (·.1) = none := by rfl) : SG X (.Tuple es k pos) (.tp ts) := by
  refine pg_mono (pg_tup hc h hn hst) fun v σ H Q ⟨μ, ρ, h, d, ρ', r, rs, rd, e, k⟩ => ?_
  obtain ⟨a, vs, ds, rfl, rfl, hq, rd⟩ := rd
  simp only [asg] at e
  have hl : ∀ (ts : List TGT) (ds : List D) (ρ ρ' : Rho), asgs ts ds ρ = some ρ' → ts.length = ds.length := by
    intro ts
    induction ts with
    | nil => intro ds ρ ρ' e; cases ds with | nil => rfl | cons _ _ => simp [asgs] at e
    | cons t ts ih =>
      intro ds ρ ρ' e
      cases ds with
      | nil => simp [asgs] at e
      | cons d ds =>
        simp only [asgs] at e
        cases q : asg t d ρ with
        | none => rw [q] at e; cases e
        | some ρ1 => rw [q] at e; simp [ih ds ρ1 ρ' e]
  exact ⟨a, vs, rfl, hq, by rw [← rd.len]; exact (hl ts ds ρ ρ' e).symm, μ, ρ, h, ds, ρ', r, rs, rd, e, fun σ' s' o => k σ' s' (by simpa [tvars] using o)⟩
end

def cAsg (t : TGT) (a : CE) : CS := fun ρ h => ofR (a ρ h) ρ fun d h1 => match asg t d ρ with | some ρ1 => .ok .nx ρ1 h1 | none => .stuck
def putAt (ds : List D) (i : Int) (d : D) : Option (List D) := match ixN ds.length i with | some j => some (ds.set j d) | none => none
def cSetIx (e o i : CE) : CS := fun ρ h => ofR (e ρ h) ρ fun d h1 => ofR (o ρ h1) ρ fun x h2 => ofR (i ρ h2) ρ fun y h3 => match x, y with
  | .ref n, .int j => match h3[n]? with
    | some (false, .lst ds) => match putAt ds j d with
      | some es => .ok .nx ρ (h3.set n (false, .lst es))
      | none => .stuck
    | _ => .stuck
  | _, _ => .stuck
def cAug (i : Nat) (g : G2) (e : CE) : CS := fun ρ h => match ρ[i]? with
  | some (some x) => if x.isErr then .stuck else ofR (e ρ h) ρ fun y h1 => match g x y h1 with | some (z, h2) => .ok .nx (ρ.set i (some z)) h2 | none => .stuck
  | _ => .stuck
section
variable {X : Cx} {Wx : WX} {tg e o i : Expr} {t : TGT} {ce co ci : CE} {pos tpos : Pos}
theorem s_asg (he : SE X Wx e ce) (hg : SG X tg t) (hs : swapsWithSole [tg] e pos.line X.env = pure false := by rfl) (hw : swappedStores [tg] e X.env = pure none := by rfl)
    (h1 : (assignEach [tg] X.env).map (·.2) = [assign tg X.env] := by rfl) : SS X Wx (.Assign [tg] e pos) (cAsg t ce) := by
  refine ps_mono (ps_asg he hg hs hw h1) fun D σ H ⟨μ, ρ, h, r, rs, k⟩ => ?_
  refine ⟨μ, ρ, h, r, rs, (kS.bind r rs k).imp fun v H1 ⟨x, μ1, h1, _, r1, e1, d1, k1⟩ => ?_⟩
  cases q : asg t x ρ with
  | none => rw [q] at k1; exact False.elim k1
  | some ρ1 =>
    rw [q] at k1
    exact ⟨μ1, ρ, h1, x, ρ1, r1, rs.ext e1 r, RDt.of d1 q, q, fun σ' s' _ => k1.nx r1 s'⟩
theorem s_setIx (he : SE X Wx e ce) (ho : SE X Wx o co) (hi : SE X Wx i ci) (hs : swapsWithSole [.Subscript o i tpos] e pos.line X.env = pure false := by rfl) (hw : swappedStores [.Subscript o i tpos] e X.env = pure none := by rfl)
    (h1 : (assignEach [.Subscript o i tpos] X.env).map (·.2) = [assign (.Subscript o i tpos) X.env] := by rfl)
    (ha : ∀ v, assign (.Subscript o i tpos) X.env v = (do
      let ov ← holding [v] (eval o X.env)
      let iv ← holding [v, ov] (eval i X.env)
      standAt tpos
      holding [v, ov, iv] (setItem ov iv v)
      release [v, ov, iv] []) := by intro _; rfl) : SS X Wx (.Assign [.Subscript o i tpos] e pos) (cSetIx ce co ci) := by
  refine ps_mono (ps_asg he (pg_sub ho hi set_list ha) hs hw h1) fun D σ H ⟨μ, ρ, h, r, rs, k⟩ => ?_
  refine ⟨μ, ρ, h, r, rs, (kS.bind r rs k).imp fun v H1 ⟨x, μ1, h1, _, r1, e1, d1, k1⟩ => ?_⟩
  have rs1 := rs.ext e1 r
  refine ⟨μ1, ρ, h1, r1, rs1, (kS.bind r1 rs1 k1).imp fun u H2 ⟨y, μ2, h2, _, r2, e2, d2, k2⟩ => ?_⟩
  have rs2 := rs1.ext e2 r1
  refine ⟨μ2, ρ, h2, r2, rs2, (kS.bind r2 rs2 k2).imp fun w H3 ⟨z, μ3, h3, _, r3, e3, d3, k3⟩ => ?_⟩
  have rs3 := rs2.ext e3 r2
  cases y with
  | ref n =>
    cases z with
    | int j =>
      have d2' := RD.ext e3 r2 _ _ d2
      simp only [RD] at d2' d3; subst d3
      obtain ⟨a, q1, rfl⟩ := d2'
      obtain ⟨⟨l, ob⟩, q2, ro⟩ := r3.at q1
      simp only [q2] at k3
      cases ob with
      | lst ds =>
        cases l with
        | true => exact False.elim k3
        | false =>
          simp only [putAt] at k3
          cases q3 : ixN ds.length j with
          | none => rw [q3] at k3; exact False.elim k3
          | some m =>
            rw [q3] at k3
            obtain ⟨vs, q4, rv⟩ := ro
            have dv := RD.ext e3 r2 x v (RD.ext e2 r1 x v d1)
            obtain ⟨rn, en⟩ := r3.put (ds' := ds) q1 q2 (rv.set m dv)
            exact ⟨a, vs, j, m, rfl, rfl, q4, by rw [← rv.len]; exact q3, k3 μ3 _ σ rn en (rs3.ext en r3)⟩
      | _ => cases l <;> exact False.elim k3
    | _ => exact False.elim k3
  | _ => exact False.elim k3
theorem s_aug {n : Nat} {x : Str} {op : Operator} {g : G2} (hN : X.N.Nodup) (hp : OpR X (inplaceOp op) (lV2 (wd X) g)) (he : SE X Wx e ce) (hi : X.N[n]? = some x := by rfl) (hx : Loc X.env.scope x := by first | exact Or.inl rfl | exact Or.inr rfl) (hf : X.fn x = true ∨ X.env.scope.names.lookup x = some .local := by first | exact .inl rfl | exact .inr rfl) :
    SS X Wx (.AugAssign (.Name x tpos) op e pos) (cAug n g ce) := by
  refine ps_mono (ps_aug (ti := fun x y H Q => lV2 (wd X) g x y H Q) hN hi hx he (fun pins s σ H x y v u Q I r1 r2 q => hp pins s σ H x y v u Q I r1 r2 q) hf) fun D σ H ⟨μ, ρ, h, r, rs, k⟩ => ?_
  unfold cAug at k
  cases q : ρ[n]? with
  | none => rw [q] at k; exact False.elim k
  | some od =>
    cases od with
    | none => rw [q] at k; exact False.elim k
    | some d =>
      rw [q] at k
      obtain ⟨v, e1, rd⟩ := rs.2 n d q
      by_cases hd : d.isErr = true
      · simp only [hd, if_true] at k; exact False.elim k
      simp only [hd, Bool.false_eq_true, if_false] at k
      replace rd := rd.rd hd
      refine ⟨v, e1, μ, ρ, h, r, rs, (kS.bind r rs k).imp fun w H1 ⟨y, μ1, h1, _, r1, e2, d1, k1⟩ => ?_⟩
      refine ⟨μ1, h1, d, y, r1, RD.ext e2 r d v rd, d1, ?_⟩
      cases q2 : g d y h1 with
      | none => rw [q2] at k1; exact False.elim k1
      | some p =>
        obtain ⟨z, h2⟩ := p
        rw [q2] at k1
        exact fun μ2 H2 u a b c => k1 μ2 H2 _ a b (((rs.ext e2 r).ext b r1).put c n)
theorem ip_addI : OpR X (inplaceOp .Add) (lV2 (wd X) fun x y h => match x, y with | .int i, .int j => some (.int (i + j), h) | _, _ => none) := opI2 (C := fun _ _ => True) (F := fun i j => i + j) (fun pins s σ H x y v u Q I rx ry ⟨i, j, e1, e2, _, q⟩ => iop_add pins s σ H x y v u Q I rx ry ⟨i, j, e1, e2, q⟩) fun x y h o e => by
  split at e
  · injection e with e; exact ⟨_, _, rfl, rfl, trivial, e.symm⟩
  · cases e
theorem ip_subI : OpR X (inplaceOp .Sub) (lV2 (wd X) gSub) := opI2 (C := fun _ _ => True) (F := fun i j => i - j) (fun pins s σ H x y v u Q I rx ry ⟨i, j, e1, e2, _, q⟩ => iop_sub pins s σ H x y v u Q I rx ry ⟨i, j, e1, e2, q⟩) fun x y h o e => by
  unfold gSub at e; split at e
  · injection e with e; exact ⟨_, _, rfl, rfl, trivial, e.symm⟩
  · cases e
end

def lock1 (n : Nat) (h : Hc) : Hc := match h[n]? with | some p => h.set n (true, p.2) | none => h
def lckL : List Nat → Hc → Hc
  | [], h => h
  | n :: r, h => lckL r (lock1 n h)
def ulkL (h0 : Hc) : List Nat → Hc → Hc
  | [], h => h
  | n :: r, h => ulkL h0 r (match h0[n]? with | some p => h.set n p | none => h)
theorem lock1_get (n : Nat) (h : Hc) (m : Nat) : (lock1 n h)[m]? = if m = n then h[m]?.map (fun p => (true, p.2)) else h[m]? := by
  unfold lock1
  cases e : h[n]? with
  | none =>
    by_cases hm : m = n
    · subst hm; rw [if_pos rfl]; simp [e]
    · rw [if_neg hm]
  | some p =>
    have hl : n < h.length := (List.getElem?_eq_some_iff.mp e).1
    by_cases hm : m = n
    · subst hm; rw [if_pos rfl, e]; show (h.set m (true, p.2))[m]? = _; rw [List.getElem?_set_self hl]; rfl
    · rw [if_neg hm]; show (h.set n (true, p.2))[m]? = _; rw [List.getElem?_set_ne (Ne.symm hm)]
theorem lock_get : ∀ (ls : List Nat) (h : Hc) (m : Nat), (lckL ls h)[m]? = if m ∈ ls then h[m]?.map (fun p => (true, p.2)) else h[m]?
  | [], h, m => by simp [lckL]
  | n :: r, h, m => by
    simp only [lckL]
    rw [lock_get r, lock1_get]
    by_cases h1 : m = n
    · subst h1
      by_cases h2 : m ∈ r
      · simp [h2, Option.map_map, Function.comp_def]
      · simp [h2]
    · by_cases h2 : m ∈ r
      · simp [h1, h2]
      · simp [h1, h2]
theorem lock_len : ∀ (ls : List Nat) (h : Hc), (lckL ls h).length = h.length
  | [], h => rfl
  | n :: r, h => by
    simp only [lckL]; rw [lock_len r]; unfold lock1; split <;> simp
theorem unlk_get (h0 : Hc) : ∀ (ls : List Nat) (h : Hc) (m : Nat), h0.length ≤ h.length → (ulkL h0 ls h)[m]? = if m ∈ ls ∧ m < h0.length then h0[m]? else h[m]?
  | [], h, m, _ => by simp [ulkL]
  | n :: r, h, m, hl => by
    simp only [ulkL]
    have hl2 : h0.length ≤ (match h0[n]? with | some p => h.set n p | none => h).length := by split <;> simp [hl]
    rw [unlk_get h0 r _ m hl2]
    by_cases h2 : m ∈ r ∧ m < h0.length
    · rw [if_pos h2, if_pos ⟨List.mem_cons_of_mem _ h2.1, h2.2⟩]
    · rw [if_neg h2]
      cases e : h0[n]? with
      | none =>
        have : h0.length ≤ n := List.getElem?_eq_none_iff.mp e
        rw [if_neg]
        rintro ⟨q1, q2⟩
        rcases List.mem_cons.mp q1 with q1 | q1
        · omega
        · exact h2 ⟨q1, q2⟩
      | some p =>
        have hn : n < h0.length := (List.getElem?_eq_some_iff.mp e).1
        show (h.set n p)[m]? = _
        by_cases hm : m = n
        · subst hm
          rw [List.getElem?_set_self (by omega), if_pos ⟨List.mem_cons_self, hn⟩, e]
        · rw [List.getElem?_set_ne (Ne.symm hm), if_neg]
          rintro ⟨q1, q2⟩
          rcases List.mem_cons.mp q1 with q1 | q1
          · exact hm q1
          · exact h2 ⟨q1, q2⟩
theorem unlk_len (h0 : Hc) : ∀ (ls : List Nat) (h : Hc), (ulkL h0 ls h).length = h.length
  | [], h => rfl
  | n :: r, h => by simp only [ulkL]; rw [unlk_len h0 r]; split <;> simp
section
variable {W : Wd} {μ μ2 : List Addr} {h h2 : Hc} {H H2 : Hp} {ls : List Nat}
theorem RO.lck {a : Addr} {l : Bool} {o : O} (x : RO W μ H a (l, o)) : RO W μ H a (true, o) := by
  cases o with
  | lst ds => exact x
  | dic kvs =>
    obtain ⟨vs, e, r⟩ := x
    refine ⟨vs, ?_, r⟩
    rcases e with e | ⟨_, e⟩
    · exact .inl e
    · exact .inr ⟨rfl, e⟩
  | tab y q => exact x
  | dcd kvs => exact x
  | dif kvs => exact ⟨rfl, x.2⟩
theorem R.lock (x : R W μ h H) : R W μ (lckL ls h) H := by
  refine ⟨by rw [lock_len, x.len], x.nd, fun n a p e1 e2 => ?_⟩
  rw [lock_get] at e2
  split at e2
  · obtain ⟨q, hq, rfl⟩ := Option.map_eq_some_iff.mp e2
    exact (x.ob n a q e1 hq).lck
  · exact x.ob n a p e1 e2
theorem R.unlk (x : R W μ h H) (y : R W μ2 h2 H2) (E : Ext μ (lckL ls h) H μ2 h2 H2) : R W μ2 (ulkL h ls h2) H2 ∧ Ext μ h H μ2 (ulkL h ls h2) H2 := by
  have hl : h.length ≤ h2.length := by rw [← lock_len ls h]; exact E.hc.len
  refine ⟨⟨by rw [unlk_len, y.len], y.nd, fun n a p e1 e2 => ?_⟩, ⟨E.pre, fun a o e k => E.frame a o e fun n p e1 e2 => ?_, E.dom, fun n p e => ?_⟩⟩
  · rw [unlk_get h ls h2 n hl] at e2
    split at e2
    · rename_i hm
      have e3 : (lckL ls h)[n]? = some (true, p.2) := by rw [lock_get, if_pos hm.1, e2]; rfl
      obtain ⟨o, e4, e5⟩ := E.hc.lk e3
      have this := y.ob n a _ e1 e4
      rw [e5 trivial] at this
      -- what was walked stands as it stood
      have hn : n < μ.length := by rw [x.len]; exact hm.2
      have em : μ[n]? = some a := by
        obtain ⟨m, e6, _⟩ := E.pre
        rw [e6, List.getElem?_append_left hn] at e1
        exact e1
      have r0 := x.ob n a p em e2
      obtain ⟨l, o⟩ := p
      cases o with
      | lst ds => exact this
      | dic kvs =>
        obtain ⟨vs, q1, q2⟩ := r0
        obtain ⟨vs', q3, q4⟩ := this
        rcases q1 with q1 | ⟨q0, q1⟩
        · have fr := E.frame a _ q1 fun n' p' u1 u2 => by
            have e7 : n' = n := getElem?_inj_nodup x.nd u1 em
            subst e7
            rw [e3] at u2
            cases u2
            rfl
          rcases q3 with q3 | ⟨_, o, q3⟩
          · exact ⟨vs', .inl q3, q4⟩
          · rw [fr] at q3; cases q3
        · exact ⟨vs', q3.imp id fun z => ⟨q0, z.2⟩, q4⟩
      | tab y q => exact this
      | dcd kvs => exact this
      | dif kvs => exact ⟨r0.1, this.2⟩
    · exact y.ob n a p e1 e2
  · rw [lock_get] at e2
    split at e2
    · obtain ⟨q, hq, rfl⟩ := Option.map_eq_some_iff.mp e2
      rfl
    · exact k n p e1 e2
  · have hn : n < h.length := (List.getElem?_eq_some_iff.mp e).1
    by_cases hm : n ∈ ls
    · exact ⟨p, by rw [unlk_get h ls h2 n hl, if_pos ⟨hm, hn⟩, e], fun _ => rfl⟩
    · have e3 : (lckL ls h)[n]? = some p := by rw [lock_get, if_neg hm, e]
      obtain ⟨o, e4, e5⟩ := E.hc n _ e3
      exact ⟨o, by rw [unlk_get h ls h2 n hl, if_neg (fun z => hm z.1), e4], e5⟩
end
end Sx

set_option Elab.async false
set_option linter.all false
set_option maxRecDepth 100000
namespace Sx
open PySem PySem.Spec PyProof.Rows L2

structure ItOk (W : Wd) (J : It) (tp : Bool) (items : List D) (μ : List Addr) (h : Hc) (H : Hp) : Prop where
  goes : ∀ i μ' h' H', i < items.length → R W μ' h' H' → Ext μ h H μ' h' H' → J.go i H'
  stops : ∀ μ' h' H', R W μ' h' H' → Ext μ h H μ' h' H' → J.stop items.length H'
  yields : ∀ i μ' h' H' x H'', i < items.length → R W μ' h' H' → Ext μ h H μ' h' H' → J.yld i H' x H'' → ∃ d, items[i]? = some d ∧ R W μ' h' H'' ∧ Ext μ' h' H' μ' h' H'' ∧ (if tp then RDw W μ' H'' d x else RD W μ' H'' d x)
abbrev CI := Rho → Hc → Res (List D × List Nat)
def kI (W : Wd) (Wx : WX) (tp : Bool) (μ : List Addr) (h : Hc) (H : Hp) (σ : L2.St) (Q : It → Hp → Prop) : Res (List D × List Nat) → Prop
  | .ok a h' => ∀ μ' H' J, R W μ' h' H' → Ext μ h H μ' h' H' → ItOk W J tp a.1 μ' (lckL a.2 h') H' → Q J H'
  | .exn c x h' => lX W Wx μ h H c x h' σ
  | .stuck => False
def lI (W : Wd) (Wx : WX) (tp : Bool) (c : CI) : TI := fun σ H Q => ∃ μ ρ h, R W μ h H ∧ RS W μ H ρ σ ∧ kI W Wx tp μ h H σ Q (c ρ h)
abbrev SI (X : Cx) (Wx : WX) (tg e : Expr) (tp : Bool) (c : CI) : Prop := PI X tg e (lI (wd X) Wx tp c)
theorem pi_mono {X : Cx} {tg e : Expr} {t t' : TI} (h : PI X tg e t) (k : ∀ σ H Q, t' σ H Q → t σ H Q) : PI X tg e t' := ⟨fun pins s σ H Q I q => h.run pins s σ H Q I (k σ H Q q)⟩
def PIV (X : Cx) (tg : Expr) (r : V → Hp → (It → Hp → Prop) → Prop) : Prop :=
  ∀ (pins : List (Addr × Obj)) (s : Shared) (σ : L2.St) (H : Hp) (x : V) (v : Value) (Q : It → Hp → Prop), Inv X pins σ H s → RelV x v → r x H Q → wpAny (model X.prog X.w) X.A (pyIter v) (PIE X pins σ tg Q) X.xe s
theorem pi_of {X : Cx} {tg e : Expr} {te : TE} {r : V → Hp → (It → Hp → Prop) → Prop} (he : PE X e te) (hv : PIV X tg r) : PI X tg e (fun σ H Q => te σ H fun x H1 => r x H1 Q) :=
  ⟨fun pins s σ H Q I h => thn (he.run pins s σ H _ I h) fun v s1 ⟨x, H1, I1, r1, q1⟩ => hv pins s1 σ H1 x v Q I1 r1 q1⟩
theorem piv_seq {X : Cx} {tg : Expr} : PIV X tg (fun x H Q => ∃ a xs, x = .ref a ∧ ((SqL X.K H a xs ∧ Q (Itl X.K a) H) ∨ (SqT X.K H a xs ∧ Q (Itt X.K a) H))) := by
  intro pins s σ H x v Q I rx h
  obtain ⟨a, xs, rfl, h⟩ := h
  cases rx
  have fp : ∀ b ∈ [s.heap.objs.size], FpOk X pins H b := fun b hb => by
    have e : b = s.heap.objs.size := by simpa using hb
    subst e
    exact I.fpOk (Nat.le_refl _) (I.hok.fresh (Nat.le_refl _))
  rcases h with ⟨hq, q⟩ | ⟨hq, q⟩
  · obtain ⟨its, rv, p, hz⟩ := I.list hq
    exact wpAny_pyIter_list p.isList ⟨s.heap.objs.size, [s.heap.objs.size], _, _, H, rfl, I.kept (t' := s.toks) (fun _ _ e => Heap.get?_push_of_some _ e), turn_list a _, ⟨_, Heap.get?_push_size _ rfl, rfl, rfl⟩, fp, q⟩
  · obtain ⟨its, rv, p, hz⟩ := I.tuple hq
    exact wpAny_pyIter_tuple (show s.heap.IsTuple a its.toArray from p) ⟨s.heap.objs.size, [s.heap.objs.size], _, _, H, rfl, I.kept (t' := s.toks) (fun _ _ e => Heap.get?_push_of_some _ e), turn_tuple a _, ⟨_, Heap.get?_push_size _ rfl, rfl, rfl⟩, fp, q⟩

def seqL (d : D) (h : Hc) : Option (List D × List Nat) := match d with
  | .tup ds => some (ds, [])
  | .flst ds => some (ds, [])
  | .ref n => match h[n]? with
    | some (_, .lst ds) => some (ds, [n])
    | _ => none
  | _ => none
def cItS (a : CE) : CI := fun ρ h => (a ρ h).bind fun d h1 => match seqL d h1 with | some p => .ok p h1 | none => .stuck
def cItR1 (a : CE) : CI := fun ρ h => (a ρ h).bind fun d h1 => match d with
  | .int j => if decide (-(2 ^ 62) ≤ j) && decide (j < 2 ^ 62) then .ok ((List.range j.toNat).map fun (i : Nat) => .int (0 + (i : Int)), []) h1 else .stuck
  | _ => .stuck
def cItR2 (a b : CE) : CI := fun ρ h => (a ρ h).bind fun d h1 => (b ρ h1).bind fun e h2 => match d, e with
  | .int i, .int j => if decide (-(2 ^ 62) ≤ i) && decide (i < 2 ^ 62) && (decide (-(2 ^ 62) ≤ j) && decide (j < 2 ^ 62)) then .ok ((List.range (j - i).toNat).map fun (k : Nat) => .int (i + (k : Int)), []) h2 else .stuck
  | _, _ => .stuck
section
variable {W : Wd} {μ : List Addr} {h : Hc} {H : Hp}
theorem itSeq {K : PySem.W.Frag} (hK : W.K = K) (x : R W μ h H) {d : D} {v : V} {p : List D × List Nat} (r : RD W μ H d v) (e : seqL d h = some p) :
    ∃ a xs, v = .ref a ∧ ((SqL K H a xs ∧ ItOk W (Itl K a) false p.1 μ (lckL p.2 h) H) ∨ (SqT K H a xs ∧ ItOk W (Itt K a) false p.1 μ (lckL p.2 h) H)) := by
  subst hK
  cases d with
  | tup ds =>
    injection e with e; subst e
    simp only [RD] at r
    obtain ⟨a, vs, rfl, t, r1⟩ := r
    refine ⟨a, vs, rfl, .inr ⟨t.seq, ?_⟩⟩
    have w : ∀ {μ' h' H'}, Ext μ (lckL [] h) H μ' h' H' → SqT W.K H' a vs ∧ RDs W μ' H' ds vs := fun E => ⟨E.sqT x t.seq, RDs.ext E x ds vs r1⟩
    refine ⟨fun i μ' h' H' hi _ E => (walk_tup (xs := vs)).goes i H' (by rw [← r1.len]; exact hi) (w E).1, fun μ' h' H' _ E => by rw [r1.len]; exact (walk_tup (xs := vs)).stops H' (w E).1, fun i μ' h' H' y H'' hi rr E hy => ?_⟩
    obtain ⟨e1, e2⟩ := (walk_tup (xs := vs)).yields i H' y H'' (by rw [← r1.len]; exact hi) (w E).1 hy
    subst e1
    obtain ⟨d, q1, q2⟩ := (w E).2.getV e2
    exact ⟨d, q1, rr, .refl, q2⟩
  | flst ds =>
    injection e with e; subst e
    simp only [RD] at r
    obtain ⟨a, vs, rfl, t, r1⟩ := r
    refine ⟨a, vs, rfl, .inl ⟨t.seq, ?_⟩⟩
    have w : ∀ {μ' h' H'}, Ext μ (lckL [] h) H μ' h' H' → SqL W.K H' a vs ∧ RDs W μ' H' ds vs := fun E => ⟨(E.fzL x t).seq, RDs.ext E x ds vs r1⟩
    refine ⟨fun i μ' h' H' hi _ E => (walk_list (xs := vs)).goes i H' (by rw [← r1.len]; exact hi) (w E).1, fun μ' h' H' _ E => by rw [r1.len]; exact (walk_list (xs := vs)).stops H' (w E).1, fun i μ' h' H' y H'' hi rr E hy => ?_⟩
    obtain ⟨e1, e2⟩ := (walk_list (xs := vs)).yields i H' y H'' (by rw [← r1.len]; exact hi) (w E).1 hy
    subst e1
    obtain ⟨d, q1, q2⟩ := (w E).2.getV e2
    exact ⟨d, q1, rr, .refl, q2⟩
  | ref n =>
    simp only [RD] at r
    obtain ⟨a, e1, rfl⟩ := r
    obtain ⟨⟨l, o⟩, e2, ro⟩ := x.at e1
    cases o with
    | lst ds =>
      simp only [seqL, e2] at e; injection e with e; subst e
      obtain ⟨vs, q1, r1⟩ := ro
      refine ⟨a, vs, rfl, .inl ⟨SqL.of q1, ?_⟩⟩
      have w : ∀ {μ' h' H'}, R W μ' h' H' → Ext μ (lckL [n] h) H μ' h' H' → ∃ vs', SqL W.K H' a vs' ∧ RDs W μ' H' ds vs' := fun rr E => by
        have e3 : (lckL [n] h)[n]? = some (true, .lst ds) := by rw [lock_get, if_pos (by simp), e2]; rfl
        obtain ⟨o', e4, e5⟩ := E.hc.lk e3
        have e6 := e5 trivial
        subst e6
        obtain ⟨vs', q2, q3⟩ := rr.ob n a _ (E.mu e1) e4
        exact ⟨vs', SqL.of q2, q3⟩
      refine ⟨fun i μ' h' H' hi rr E => ?_, fun μ' h' H' rr E => ?_, fun i μ' h' H' y H'' hi rr E hy => ?_⟩
      · obtain ⟨vs', w1, w2⟩ := w rr E
        exact (walk_list (xs := vs')).goes i H' (by rw [← w2.len]; exact hi) w1
      · obtain ⟨vs', w1, w2⟩ := w rr E
        show (Itl W.K a).stop ds.length H'
        rw [w2.len]; exact (walk_list (xs := vs')).stops H' w1
      · obtain ⟨vs', w1, w2⟩ := w rr E
        obtain ⟨e1, e2⟩ := (walk_list (xs := vs')).yields i H' y H'' (by rw [← w2.len]; exact hi) w1 hy
        subst e1
        obtain ⟨d, q1, q2⟩ := w2.getV e2
        exact ⟨d, q1, rr, .refl, q2⟩
    | _ => simp only [seqL, e2] at e; cases e
  | _ => cases e
theorem itRange (lo : Int) (n : Nat) : ItOk W (Itr lo n) false ((List.range n).map fun (k : Nat) => .int (lo + (k : Int))) μ h H := by
  refine ⟨fun i μ' h' H' hi _ _ => walk_range.goes i H' (by simpa using hi) trivial, fun μ' h' H' _ _ => by simpa using walk_range.stops H' trivial, fun i μ' h' H' x H'' hi rr E hy => ?_⟩
  have hi' : i < n := by simpa using hi
  obtain ⟨e1, e2⟩ := walk_range.yields i H' x H'' hi' trivial hy
  subst e1; subst e2
  exact ⟨.int (lo + (i : Int)), by simp [hi'], rr, .refl, by simp [RD]⟩
end
section
variable {X : Cx} {Wx : WX} {tg a b : Expr} {ca cb : CE} {p pos : Pos}
theorem it_seq (ha : SE X Wx a ca) : SI X Wx tg a false (cItS ca) := by
  refine pi_mono (pi_of ha piv_seq) fun σ H Q ⟨μ, ρ, h, r, rs, k⟩ => ?_
  refine ⟨μ, ρ, h, r, rs, ?_⟩
  unfold cItS at k
  cases e : ca ρ h with
  | stuck => rw [e] at k; exact k
  | exn c x h' => rw [e] at k; exact k
  | ok d h1 =>
    rw [e] at k
    have k : kI (wd X) Wx false μ h H σ Q (match seqL d h1 with | some p => .ok p h1 | none => .stuck) := k
    cases e2 : seqL d h1 with
    | none => rw [e2] at k; exact False.elim k
    | some q =>
      rw [e2] at k
      intro μ' H' v r' E rd
      obtain ⟨a, xs, rfl, hh⟩ := itSeq rfl r' rd e2
      refine ⟨a, xs, rfl, ?_⟩
      rcases hh with ⟨h1, h2⟩ | ⟨h1, h2⟩
      · exact .inl ⟨h1, k μ' H' _ r' E h2⟩
      · exact .inr ⟨h1, k μ' H' _ r' E h2⟩
theorem kI.one {σ : L2.St} {Q : It → Hp → Prop} {μ : List Addr} {h : Hc} {H : Hp} {α β : Type} {rel : List Addr → Hp → α → β → Prop} {r : Res α} {f : α → Hc → Res (List D × List Nat)} {W : Wd} {tp : Bool} (x : R W μ h H) (k : kI W Wx tp μ h H σ Q (r.bind f)) :
    kR rel W Wx μ h H σ (fun b H1 => ∃ a μ1 h1, r = .ok a h1 ∧ R W μ1 h1 H1 ∧ Ext μ h H μ1 h1 H1 ∧ rel μ1 H1 a b ∧ kI W Wx tp μ1 h1 H1 σ Q (f a h1)) r := by
  cases r with
  | ok a h1 =>
    intro μ1 H1 b y z w
    refine ⟨a, μ1, h1, rfl, y, z, w, ?_⟩
    have k : kI W Wx tp μ h H σ Q (f a h1) := k
    cases e : f a h1 with
    | ok p h' => rw [e] at k; exact fun μ' H' J y' z' w' => k μ' H' J y' (z.trans x z') w'
    | exn c d h' => rw [e] at k; exact fun μ' H' C dd v a y' z' b c => k μ' H' C dd v a y' (z.trans x z') b c
    | stuck => rw [e] at k; exact k
  | exn c d h' => exact k
  | stuck => exact k
theorem it_range1 (hm : X.mg "range" = none) (ha : SE X Wx a ca) (hg : Gl X "range" := by rfl) (hs : starEach [a] X.env = [(false, eval a X.env)] := by rfl) (h0 : starEach [a] X.env = (false, eval a X.env) :: starEach [] X.env := by rfl) : SI X Wx tg (.Call (.Name "range" p) [a] [] pos) false (cItR1 ca) := by
  refine pi_mono (pi_range1 hg hm (pa_cons ha pa_nil h0) hs) fun σ H Q ⟨μ, ρ, h, r, rs, k⟩ => ?_
  refine ⟨μ, ρ, h, r, rs, (kI.one r k).imp fun v H1 ⟨d, μ1, h1, _, r1, e1, d1, k1⟩ => ?_⟩
  cases d with
  | int j =>
    simp only [RD] at d1; subst d1
    simp only at k1
    split at k1
    · rename_i hj
      simp only [Bool.and_eq_true, decide_eq_true_eq] at hj
      exact ⟨j, rfl, hj.1, hj.2, k1 μ1 H1 _ r1 .refl (itRange 0 j.toNat)⟩
    · exact False.elim k1
  | _ => exact False.elim k1
theorem it_range2 (hm : X.mg "range" = none) (ha : SE X Wx a ca) (hb : SE X Wx b cb) (hg : Gl X "range" := by rfl) (hs : starEach [a, b] X.env = [(false, eval a X.env), (false, eval b X.env)] := by rfl) (hs2 : starEach [b] X.env = [(false, eval b X.env)] := by rfl) (h0 : starEach [b] X.env = (false, eval b X.env) :: starEach [] X.env := by rfl) :
    SI X Wx tg (.Call (.Name "range" p) [a, b] [] pos) false (cItR2 ca cb) := by
  refine pi_mono (pi_range2 hg hm (pa_cons ha (pa_cons hb pa_nil h0) (by rw [hs, hs2])) hs hs2) fun σ H Q ⟨μ, ρ, h, r, rs, k⟩ => ?_
  refine ⟨μ, ρ, h, r, rs, (kI.one r k).imp fun v H1 ⟨d, μ1, h1, _, r1, e1, d1, k1⟩ => ?_⟩
  refine ⟨μ1, ρ, h1, r1, rs.ext e1 r, (kI.one r1 k1).imp fun w H2 ⟨e, μ2, h2, _, r2, e2, d2, k2⟩ => ?_⟩
  cases d with
  | int i =>
    cases e with
    | int j =>
      simp only [RD] at d1 d2; subst d1; subst d2
      simp only at k2
      split at k2
      · rename_i hj
        simp only [Bool.and_eq_true, decide_eq_true_eq] at hj
        exact ⟨i, j, rfl, ⟨hj.1.1, hj.1.2, hj.2.1, hj.2.2⟩, k2 μ2 H2 _ r2 .refl (itRange i (j - i).toNat)⟩
      · exact False.elim k2
    | _ => exact False.elim k2
  | _ => exact False.elim k2
end

def cForB (t : TGT) (b : CS) : List D → Rho → Hc → ResS
  | [], ρ, h => .ok .nx ρ h
  | d :: r, ρ, h => match asg t d ρ with
    | none => .stuck
    | some ρ1 => match b ρ1 h with
      | .ok .nx ρ2 h2 => cForB t b r ρ2 h2
      | .ok .ct ρ2 h2 => cForB t b r ρ2 h2
      | .ok .bk ρ2 h2 => .ok .nx ρ2 h2
      | q => q
def ulkS (h1 : Hc) (ls : List Nat) : ResS → ResS
  | .ok f ρ h2 => .ok f ρ (ulkL h1 ls h2)
  | .stuck => .stuck
def cFor (ci : CI) (t : TGT) (b : CS) : CS := fun ρ h => match ci ρ h with
  | .ok p h1 => ulkS h1 p.2 (cForB t b p.1 ρ (lckL p.2 h1))
  | .exn c x h1 => .ok (.exn c x) ρ h1
  | .stuck => .stuck
def tpOk (tp : Bool) : TGT → Bool
  | .nm _ => !tp
  | .tp _ => true
theorem RDt.yld {W : Wd} {μ : List Addr} {H : Hp} {tp : Bool} {t : TGT} {d : D} {v : V} {ρ ρ' : Rho} (ht : tpOk tp t = true) (r : if tp then RDw W μ H d v else RD W μ H d v) (e : asg t d ρ = some ρ') : RDt W μ H t d v := by
  cases tp with
  | false => exact RDt.of r e
  | true =>
    cases t with
    | nm i => cases ht
    | tp ts => exact r
theorem kS.ulk {W : Wd} {Wx : WX} {μ : List Addr} {h1 : Hc} {H : Hp} {D : Ends} {ls : List Nat} {r : ResS} (x : R W μ h1 H) (k : kS W Wx μ h1 H D (ulkS h1 ls r)) : kS W Wx μ (lckL ls h1) H D r := by
  cases r with
  | stuck => exact k
  | ok f ρ h2 =>
    intro μ' H' σ' y E rs
    obtain ⟨a, b⟩ := x.unlk y E
    exact k μ' H' σ' a b rs
section
variable {X : Cx} {Wx : WX} {tg it : Expr} {tp : Bool} {ci : CI} {t : TGT} {body : List Stmt} {cb : CS} {pos : Pos}
theorem s_for (hp : PassesOwn (model X.prog X.w) X.A X.env X.xe) (hc : X.calm = true) (hi : SI X Wx tg it tp ci) (hg : SG X tg t) (hb : SSs X Wx body cb) (ht : tpOk tp t = true := by rfl) (hf : ∀ x, foldedSetIterable it X.env x = pure x := by intro _; rfl) : SS X Wx (.For tg it body [] pos) (cFor ci t cb) := by
  refine ps_mono (ps_for hp hc hi hg hb hf) fun D σ H ⟨μ, ρ, h, r, rs, k⟩ => ?_
  refine ⟨μ, ρ, h, r, rs, ?_⟩
  unfold cFor at k
  cases e : ci ρ h with
  | stuck => rw [e] at k; exact k
  | exn c x h1 => rw [e] at k; exact fun μ' H' C dd v a y z b w => k μ' H' σ y z (rs.ext z r) C dd v a b w
  | ok q h1 =>
    rw [e] at k
    intro μ1 H1 J r1 E1 hJ
    have k1 := kS.ulk r1 (kS.shift r E1 (show kS (wd X) Wx μ h H D (ulkS h1 q.2 (cForB t cb q.1 ρ (lckL q.2 h1))) from k))
    have r1' := r1.lock (ls := q.2)
    refine ⟨fun i m σ2 H2 => m = q.1.length - i ∧ i ≤ q.1.length ∧ ∃ μ2 ρ2 h2, R (wd X) μ2 h2 H2 ∧ Ext μ1 (lckL q.2 h1) H1 μ2 h2 H2 ∧ RS (wd X) μ2 H2 ρ2 σ2 ∧ kS (wd X) Wx μ2 h2 H2 D (cForB t cb (q.1.drop i) ρ2 h2),
      ⟨q.1.length, rfl, Nat.zero_le _, μ1, ρ, lckL q.2 h1, r1', .refl, rs.ext E1 r, k1⟩, ?_⟩
    rintro i m σ2 H2 ⟨rfl, hi, μ2, ρ2, h2, r2, E2, rs2, k2⟩
    by_cases hlt : i < q.1.length
    · refine .inr ⟨hJ.goes i μ2 h2 H2 hlt r2 E2, fun σ3 H3 => ∃ m', m' < q.1.length - i ∧ (m' = q.1.length - (i + 1) ∧ i + 1 ≤ q.1.length ∧ ∃ μ2 ρ2 h2, R (wd X) μ2 h2 H3 ∧ Ext μ1 (lckL q.2 h1) H1 μ2 h2 H3 ∧ RS (wd X) μ2 H3 ρ2 σ3 ∧ kS (wd X) Wx μ2 h2 H3 D (cForB t cb (q.1.drop (i + 1)) ρ2 h2)), fun σ' H' z => z, fun x H' hy => ?_⟩
      obtain ⟨d, e1, r3, E3, rd⟩ := hJ.yields i μ2 h2 H2 x H' hlt r2 E2 hy
      have ed : q.1.drop i = d :: q.1.drop (i + 1) := by
        rw [List.drop_eq_getElem_cons hlt]
        have := (List.getElem?_eq_some_iff.mp e1).2
        rw [this]
      rw [ed] at k2
      simp only [cForB] at k2
      cases e2 : asg t d ρ2 with
      | none => simp only [e2] at k2; exact False.elim k2
      | some ρ3 =>
        simp only [e2] at k2
        refine ⟨μ2, ρ2, h2, d, ρ3, r3, rs2.ext E3 r2, RDt.yld ht rd e2, e2, fun σ3 s3 _ => ⟨μ2, ρ3, h2, r3, s3, ?_⟩⟩
        have k3 := kS.shift r2 E3 k2
        have go : ∀ {ρ4 h4}, kS (wd X) Wx μ2 h2 H' D (cForB t cb (q.1.drop (i + 1)) ρ4 h4) → ∀ μ' H'' σ', R (wd X) μ' h4 H'' → Ext μ2 h2 H' μ' h4 H'' → RS (wd X) μ' H'' ρ4 σ' → ∃ m', m' < q.1.length - i ∧ (m' = q.1.length - (i + 1) ∧ i + 1 ≤ q.1.length ∧ ∃ μ2 ρ2 h2, R (wd X) μ2 h2 H'' ∧ Ext μ1 (lckL q.2 h1) H1 μ2 h2 H'' ∧ RS (wd X) μ2 H'' ρ2 σ' ∧ kS (wd X) Wx μ2 h2 H'' D (cForB t cb (q.1.drop (i + 1)) ρ2 h2)) :=
          fun k4 μ' H'' σ' y E rs' => ⟨_, by omega, rfl, hlt, μ', _, _, y, (E2.trans r1' E3).trans r1' E, rs', kS.shift r3 E k4⟩
        cases e3 : cb ρ3 h2 with
        | stuck => rw [e3] at k3; exact k3
        | ok f ρ4 h4 =>
          rw [e3] at k3
          cases f with
          | nx => exact go k3
          | ct => exact go k3
          | bk => exact fun μ' H'' σ' y E rs' => k3 μ' H'' σ' y E rs'
          | ret d => exact k3
          | exn c x => exact k3
    · have ei : i = q.1.length := by omega
      subst ei
      refine .inl ⟨hJ.stops μ2 h2 H2 r2 E2, ?_⟩
      rw [List.drop_length] at k2
      exact k2.nx r2 rs2
end

def cYes : CT := fun _ h => .ok true h
def cCompB (t : TGT) (tt : CT) (e : CE) (ρ : Rho) : List D → Hc → Res (List D)
  | [], h => .ok [] h
  | d :: r, h => match asg t d ρ with
    | none => .stuck
    | some ρ1 => (tt ρ1 h).bind fun b h1 => match b with
      | true => (e ρ1 h1).bind fun x h2 => (cCompB t tt e ρ r h2).bind fun xs h3 => .ok (x :: xs) h3
      | false => cCompB t tt e ρ r h1
def ulkR {α : Type} (h1 : Hc) (ls : List Nat) : Res α → Res α
  | .ok a h2 => .ok a (ulkL h1 ls h2)
  | .exn c x h2 => .exn c x (ulkL h1 ls h2)
  | .stuck => .stuck
def noX {α : Type} : Res α → Res α
  | .ok a h => .ok a h
  | _ => .stuck
def wipeD (ρ : Rho) : List Nat → Rho
  | [] => ρ
  | v :: vs => (wipeD ρ vs).set v none
def cComp (vs : List Nat) (ci : CI) (t : TGT) (tt : CT) (e : CE) : CE := fun ρ h => match ci ρ h with
  | .ok p h1 => if decide (p.1.length < sizeLine) then (ulkR h1 p.2 (noX (cCompB t tt e (wipeD ρ vs) p.1 (lckL p.2 h1)))).bind fun xs h2 => .ok (.ref h2.length) (h2 ++ [(false, .lst xs)]) else .stuck
  | .exn c x h1 => .exn c x h1
  | .stuck => .stuck
end Sx

set_option Elab.async false
set_option linter.all false
set_option maxRecDepth 100000
namespace Sx
open PySem PySem.Spec PyProof.Rows L2

def LstAt (H : Hp) (p : Addr) : Prop := H p = none ∨ ∃ xs, H p = some (.lst xs)
section
variable {W : Wd} {μ μ1 : List Addr} {h h1 : Hc} {H H1 : Hp} {p : Addr} {ys : List V}
theorem fixOff (hp : LstAt H p) {a : Addr} {o : HO} (e : H a = some o) (hm : isMut o = false) : upd H p (.lst ys) a = some o := by
  rw [upd_ne]; exact e
  rintro rfl
  rcases hp with hp | ⟨xs, hp⟩
  · rw [hp] at e; cases e
  · rw [hp] at e; cases e; cases hm
mutual
theorem RD.off (hp : LstAt H p) : ∀ (d : D) (v : V), RD W μ H d v → RD W μ (upd H p (.lst ys)) d v
  | .non, v, e => by simpa only [RD] using e
  | .bl _, v, e => by simpa only [RD] using e
  | .int _, v, e => by simpa only [RD] using e
  | .str _, v, e => by simpa only [RD] using e
  | .tup ds, v, e => by
    simp only [RD] at e ⊢
    obtain ⟨a, vs, e1, e2, e3⟩ := e
    refine ⟨a, vs, e1, ?_, RDs.off hp ds vs e3⟩
    rcases e2 with ⟨o, e2, q⟩ | e2
    · exact .inl ⟨o, fixOff hp e2 rfl, q⟩
    · exact .inr e2
  | .ref n, v, e => by simpa only [RD] using e
  | .flst ds, v, e => by
    simp only [RD] at e ⊢
    obtain ⟨a, vs, e1, e2, e3⟩ := e
    refine ⟨a, vs, e1, ?_, RDs.off hp ds vs e3⟩
    rcases e2 with ⟨o, e2⟩ | e2
    · exact .inl ⟨o, fixOff hp e2 rfl⟩
    · exact .inr e2
  | .obj c ns ds, v, e => by
    simp only [RD] at e ⊢
    obtain ⟨a, C, dx, vs, e1, e2, e3, e4, e5⟩ := e
    exact ⟨a, C, dx, vs, e1, e2, fixOff hp e3 rfl, e4, RDs.off hp ds vs e5⟩
  | .ty _, v, e => by simpa only [RD] using e
  | .gl _, v, e => by simpa only [RD] using e
  | .clo f c q vs ds, v, e => by
    simp only [RD] at e ⊢
    obtain ⟨e1, e2, e3⟩ := e
    refine ⟨e1, ?_, RDs.off hp ds vs e3⟩
    rw [upd_ne]; exact e2
    rintro rfl
    rcases hp with q | ⟨_, q⟩ <;> rw [e2] at q <;> cases q
theorem RDs.off (hp : LstAt H p) : ∀ (ds : List D) (vs : List V), RDs W μ H ds vs → RDs W μ (upd H p (.lst ys)) ds vs
  | [], vs, e => by simpa only [RDs] using e
  | d :: ds, vs, e => by
    simp only [RDs] at e ⊢
    obtain ⟨v, r, e1, e2, e3⟩ := e
    exact ⟨v, r, e1, RD.off hp d v e2, RDs.off hp ds r e3⟩
end
mutual
theorem RD.pre {m : List Addr} : ∀ (d : D) (v : V), RD W μ H d v → RD W (μ ++ m) H d v
  | .non, v, e => by simpa only [RD] using e
  | .bl _, v, e => by simpa only [RD] using e
  | .int _, v, e => by simpa only [RD] using e
  | .str _, v, e => by simpa only [RD] using e
  | .tup ds, v, e => by
    simp only [RD] at e ⊢
    obtain ⟨a, vs, e1, e2, e3⟩ := e
    exact ⟨a, vs, e1, e2, RDs.pre ds vs e3⟩
  | .ref n, v, e => by
    simp only [RD] at e ⊢
    obtain ⟨a, e1, e2⟩ := e
    exact ⟨a, by rw [List.getElem?_append_left (List.getElem?_eq_some_iff.mp e1).1, e1], e2⟩
  | .flst ds, v, e => by
    simp only [RD] at e ⊢
    obtain ⟨a, vs, e1, e2, e3⟩ := e
    exact ⟨a, vs, e1, e2, RDs.pre ds vs e3⟩
  | .obj c ns ds, v, e => by
    simp only [RD] at e ⊢
    obtain ⟨a, C, dx, vs, e1, e2, e3, e4, e5⟩ := e
    exact ⟨a, C, dx, vs, e1, e2, e3, e4, RDs.pre ds vs e5⟩
  | .ty _, v, e => by simpa only [RD] using e
  | .gl _, v, e => by simpa only [RD] using e
  | .clo f c q vs ds, v, e => by
    simp only [RD] at e ⊢
    obtain ⟨e1, e2, e3⟩ := e
    exact ⟨e1, e2, RDs.pre ds vs e3⟩
theorem RDs.pre {m : List Addr} : ∀ (ds : List D) (vs : List V), RDs W μ H ds vs → RDs W (μ ++ m) H ds vs
  | [], vs, e => by simpa only [RDs] using e
  | d :: ds, vs, e => by
    simp only [RDs] at e ⊢
    obtain ⟨v, r, e1, e2, e3⟩ := e
    exact ⟨v, r, e1, RD.pre d v e2, RDs.pre ds r e3⟩
end
theorem RO.off {a : Addr} {q : Bool × O} (hp : LstAt H p) (ha : a ≠ p) (x : RO W μ H a q) : RO W μ (upd H p (.lst ys)) a q := by
  obtain ⟨l, o⟩ := q
  cases o with
  | lst ds =>
    obtain ⟨vs, e1, e2⟩ := x
    exact ⟨vs, by rw [upd_ne ha]; exact e1, RDs.off hp ds vs e2⟩
  | dic kvs =>
    obtain ⟨vs, e1, e2⟩ := x
    exact ⟨vs, by rw [upd_ne ha]; exact e1, RDs.off hp _ vs e2⟩
  | tab y q =>
    obtain ⟨ps, e1, e2, e3⟩ := x
    refine ⟨ps, by rw [upd_ne ha]; exact e1, e2, fun pos cv z => ?_⟩
    obtain ⟨c, z1, z2⟩ := e3 pos cv z
    refine ⟨c, z1, ?_⟩
    rw [upd_ne]; exact z2
    rintro rfl
    rcases hp with q | ⟨_, q⟩ <;> rw [z2] at q <;> cases q
  | dcd kvs => exact x.keepD (upd_ne ha) (fun d v => RD.off hp d v)
  | dif kvs => exact x.keepF (upd_ne ha) (fun d v => RD.off hp d v)
theorem RO.pre {a : Addr} {q : Bool × O} {m : List Addr} (x : RO W μ H a q) : RO W (μ ++ m) H a q := by
  obtain ⟨l, o⟩ := q
  cases o with
  | lst ds =>
    obtain ⟨vs, e1, e2⟩ := x
    exact ⟨vs, e1, RDs.pre ds vs e2⟩
  | dic kvs =>
    obtain ⟨vs, e1, e2⟩ := x
    exact ⟨vs, e1, RDs.pre _ vs e2⟩
  | tab y q => exact x
  | dcd kvs => exact x.keepD rfl (fun d v => RD.pre d v)
  | dif kvs => exact x.keepF rfl (fun d v => RD.pre d v)
theorem R.off (x : R W μ h H) (hp : LstAt H p) (hn : p ∉ μ) : R W μ h (upd H p (.lst ys)) :=
  ⟨x.len, x.nd, fun n a q e1 e2 => (x.ob n a q e1 e2).off hp (fun z => hn (z ▸ List.mem_of_getElem? e1))⟩
theorem RV.off {W : Wd} {d : D} {v : V} (hp : LstAt H p) (r : RV W μ H d v) : RV W μ (upd H p (.lst ys)) d v := by
  rcases r with r | ⟨c, y, rfl, a, C, dd, u, e1, e2, e3, e4, e5, e6⟩
  · exact .inl (RD.off hp d v r)
  · refine .inr ⟨c, y, rfl, a, C, dd, u, e1, e2, e3, ?_, RD.off hp y u e5, e6⟩
    rw [upd_ne]; exact e4
    intro z; subst z
    rcases hp with q | ⟨_, q⟩ <;> rw [e4] at q <;> cases q
theorem RS.off {W : Wd} {ρ : Rho} {σ : L2.St} (rs : RS W μ H ρ σ) (hp : LstAt H p) : RS W μ (upd H p (.lst ys)) ρ σ :=
  ⟨rs.1, fun i d e => let ⟨v, a, b⟩ := rs.2 i d e; ⟨v, a, RV.off hp b⟩⟩
theorem Ext.off (E : Ext μ h H μ1 h1 H1) (hp : H p = none) : Ext μ h H μ1 h1 (upd H1 p (.lst ys)) :=
  ⟨E.pre, fun a o e k => by rw [upd_ne (ne_of_none e hp)]; exact E.frame a o e k, fun a z => by
    unfold upd; split
    · simp
    · exact E.dom a z, E.hc⟩
theorem R.adopt {ds : List D} {vs : List V} (x : R W μ1 h1 H1) (E : Ext μ h H μ1 h1 H1) (hp : H p = none) (hn : p ∉ μ1) (e : H1 p = some (.lst vs)) (r : RDs W μ1 H1 ds vs) :
    R W (μ1 ++ [p]) (h1 ++ [(false, .lst ds)]) H1 ∧ Ext μ h H (μ1 ++ [p]) (h1 ++ [(false, .lst ds)]) H1 := by
  refine ⟨⟨by simp [x.len], ?_, fun n a q e1 e2 => ?_⟩, ⟨?_, E.frame, E.dom, E.hc.trans fun n q e => ⟨q, by rw [List.getElem?_append_left (List.getElem?_eq_some_iff.mp e).1, e], fun _ => rfl⟩⟩⟩
  · rw [List.nodup_append]
    refine ⟨x.nd, by simp, fun a ha b hb z => ?_⟩
    simp at hb; subst hb; subst z
    exact hn ha
  · by_cases hn2 : n < μ1.length
    · rw [List.getElem?_append_left hn2] at e1
      rw [List.getElem?_append_left (by rw [← x.len]; exact hn2)] at e2
      exact (x.ob n a q e1 e2).pre
    · have hn3 : n = μ1.length := by
        have := (List.getElem?_eq_some_iff.mp e1).1
        simp at this; omega
      subst hn3
      simp at e1; subst e1
      rw [x.len] at e2
      simp at e2; subst e2
      exact ⟨vs, e, RDs.pre ds vs r⟩
  · obtain ⟨m, e1, f⟩ := E.pre
    refine ⟨m ++ [p], by rw [e1, List.append_assoc], fun a ha => ?_⟩
    rcases List.mem_append.mp ha with z | z
    · exact f a z
    · simp at z; subst z; exact hp
theorem Ext.notin (E : Ext μ h H μ1 h1 H1) (x : R W μ h H) (x1 : R W μ1 h1 H1) {μ2 : List Addr} {h2 : Hc} {H2 : Hp} (F : Ext μ1 h1 H1 μ2 h2 H2) (hp : p ∉ μ1) (hs : H1 p ≠ none) : p ∉ μ2 := fun hm => by
  obtain ⟨m, e, f⟩ := F.pre
  rw [e] at hm
  rcases List.mem_append.mp hm with z | z
  · exact hp z
  · exact hs (f p z)
end
theorem wipe_get {σ : L2.St} {i : Nat} : ∀ {vs : List Nat}, (wipe σ vs)[i]? = if i ∈ vs ∧ i < σ.length then some none else σ[i]?
  | [] => by simp [wipe]
  | v :: vs => by
    unfold wipe
    by_cases hi : v = i
    · subst hi
      by_cases hv : v < σ.length
      · rw [List.getElem?_set_self (by rw [wipe_length]; exact hv), if_pos ⟨List.mem_cons_self, hv⟩]
      · rw [List.getElem?_eq_none (by simp [wipe_length]; omega), if_neg (fun z => hv z.2), List.getElem?_eq_none (by omega)]
    · rw [List.getElem?_set_ne hi, wipe_get]
      by_cases h2 : i ∈ vs ∧ i < σ.length
      · rw [if_pos h2, if_pos ⟨List.mem_cons_of_mem _ h2.1, h2.2⟩]
      · rw [if_neg h2, if_neg]
        rintro ⟨q1, q2⟩
        rcases List.mem_cons.mp q1 with q1 | q1
        · exact hi q1.symm
        · exact h2 ⟨q1, q2⟩
theorem wipeD_len (ρ : Rho) : ∀ vs : List Nat, (wipeD ρ vs).length = ρ.length
  | [] => rfl
  | v :: vs => by unfold wipeD; rw [List.length_set, wipeD_len ρ vs]
theorem wipeD_some {ρ : Rho} {i : Nat} {x : D} : ∀ {vs : List Nat}, (wipeD ρ vs)[i]? = some (some x) → ρ[i]? = some (some x) ∧ i ∉ vs
  | [], h => ⟨h, by simp⟩
  | v :: vs, h => by
    unfold wipeD at h
    by_cases hi : v = i
    · subst hi
      by_cases hv : v < (wipeD ρ vs).length
      · rw [List.getElem?_set_self hv] at h; cases h
      · rw [List.getElem?_eq_none (by simpa using hv)] at h; cases h
    · rw [List.getElem?_set_ne hi] at h
      obtain ⟨h1, h2⟩ := wipeD_some h
      exact ⟨h1, by simp only [List.mem_cons, not_or]; exact ⟨fun e => hi e.symm, h2⟩⟩
theorem RS.wipe {W : Wd} {μ : List Addr} {H : Hp} {ρ : Rho} {σ : L2.St} (rs : RS W μ H ρ σ) (vs : List Nat) : RS W μ H (wipeD ρ vs) (L2.wipe σ vs) := by
  refine ⟨by rw [wipeD_len, wipe_length, rs.1], fun i d e => ?_⟩
  obtain ⟨e1, e2⟩ := wipeD_some e
  obtain ⟨v, e3, e4⟩ := rs.2 i d e1
  exact ⟨v, by rw [wipe_get, if_neg (fun z => e2 z.1)]; exact e3, e4⟩
theorem wipe_only {vs ws : List Nat} {σ σ' : L2.St} (o : Only' ws (wipe σ vs) σ') (hw : ∀ i ∈ ws, i ∈ vs) : wipe σ' vs = wipe σ vs := by
  apply List.ext_getElem?
  intro i
  have hl : σ'.length = σ.length := by rw [o.1, wipe_length]
  rw [wipe_get, wipe_get, hl]
  by_cases h : i ∈ vs ∧ i < σ.length
  · rw [if_pos h, if_pos h]
  · rw [if_neg h, if_neg h]
    by_cases hi : i ∈ vs
    · have : σ.length ≤ i := Nat.le_of_not_lt fun z => h ⟨hi, z⟩
      rw [List.getElem?_eq_none this, List.getElem?_eq_none (by omega)]
    · rw [o.2 i (fun z => hi (hw i z)), wipe_get, if_neg (fun z => hi z.1)]

abbrev wx0 : WX := fun _ _ _ _ => False
def preR (acc : List D) : Res (List D) → Res (List D)
  | .ok xs h => .ok (acc ++ xs) h
  | r => r
def kC (W : Wd) (μ1 : List Addr) (h1 : Hc) (H1 : Hp) (p : Addr) (Q : V → Hp → Prop) : Res (List D) → Prop
  | .ok xs h3 => ∀ μ3 H3 vs, R W μ3 h3 H3 → Ext μ1 h1 H1 μ3 h3 H3 → p ∉ μ3 → H3 p = some (.lst vs) → RDs W μ3 H3 xs vs → Q (.ref p) H3
  | _ => False
section
variable {X : Cx} {Wx : WX} {tg it elt : Expr} {ifs : List Expr} {tp : Bool} {ci : CI} {t : TGT} {tt : CT} {ce : CE} {scope : Scope} {own : List (Str × Nat)} {pos : Pos}
theorem kC.start {μ μ1 : List Addr} {h h1 : Hc} {H H1 : Hp} {σ : L2.St} {Q : V → Hp → Prop} {ls : List Nat} {p : Addr} {r : Res (List D)} {W : Wd} (x : R W μ h H) (x1 : R W μ1 h1 H1) (E : Ext μ h H μ1 h1 H1) (hp : H1 p = none)
    (k : kR (RD W) W Wx μ h H σ Q ((ulkR h1 ls (noX r)).bind fun xs h2 => .ok (.ref h2.length) (h2 ++ [(false, .lst xs)]))) : kC W μ1 (lckL ls h1) H1 p Q (preR [] r) := by
  cases r with
  | ok xs h3 =>
    intro μ3 H3 vs r3 E3 hn e rd
    obtain ⟨a, b⟩ := x1.unlk r3 E3
    obtain ⟨c, d⟩ := a.adopt b hp hn e (ds := xs) (by simpa using rd)
    refine k _ _ _ c (E.trans x d) ?_
    simp only [RD]
    exact ⟨p, by rw [← a.len]; simp, rfl⟩
  | exn c x h => exact False.elim k
  | stuck => exact False.elim k
abbrev bX (X : Cx) (scope : Scope) (s : Shared) (H : Hp) (C : Addr) (cl : List (Str × Addr)) (fp : List Addr) : Cx := X.blk s H scope (compEnvC scope cl C X.env) fp
theorem lc_read {σ : L2.St} {H : Hp} {Q : VK} (ht : tpOk tp t = true) (hv : (tvars t).all (fun i => (own.map (·.2)).contains i) = true) (k : lE (wd X) Wx (cComp (own.map (·.2)) ci t tt ce) σ H Q) :
    tLc (lI (wd X) Wx tp ci) (lTg (wd X) t) (lT (wd X) wx0 tt) (lE (wd X) wx0 ce) (own.map (·.2)) σ H Q := by
  have hv' : ∀ i ∈ tvars t, i ∈ own.map (·.2) := fun i hi => by
    have := List.all_eq_true.mp hv i hi
    simpa using this
  obtain ⟨μ, ρ, h, r, rs, k⟩ := k
  refine ⟨μ, ρ, h, r, rs, ?_⟩
  unfold cComp at k
  cases e : ci ρ h with
  | stuck => rw [e] at k; exact k
  | exn c x h1 => rw [e] at k; exact k
  | ok q h1 =>
    rw [e] at k
    simp only at k
    split at k
    · rename_i hz
      have hz : q.1.length < sizeLine := of_decide_eq_true hz
      intro μ1 H1 J r1 E1 hJ p hp
      have k1 := kC.start r r1 E1 hp k
      have r1' := r1.lock (ls := q.2)
      have rsw := (rs.ext E1 r).wipe (own.map (·.2))
      refine ⟨fun i m H2 => m = q.1.length - i ∧ i ≤ q.1.length ∧ ∃ μ2 h2 acc vs, R (wd X) μ2 h2 H2 ∧ Ext μ1 (lckL q.2 h1) H1 μ2 h2 H2 ∧ p ∉ μ2 ∧ H2 p = some (.lst vs) ∧ RDs (wd X) μ2 H2 acc vs ∧ acc.length ≤ i ∧ RS (wd X) μ2 H2 (wipeD ρ (own.map (·.2))) (wipe σ (own.map (·.2))) ∧ kC (wd X) μ1 (lckL q.2 h1) H1 p Q (preR acc (cCompB t tt ce (wipeD ρ (own.map (·.2))) (q.1.drop i) h2)),
        ⟨q.1.length, rfl, Nat.zero_le _, μ1, lckL q.2 h1, [], [], r1'.off (.inl hp) (r1.notin hp), Ext.off .refl hp, r1.notin hp, upd_same, RDs.nil, Nat.zero_le _, rsw.off (.inl hp), k1⟩, ?_⟩
      rintro i m H2 ⟨rfl, hi, μ2, h2, acc, vs, r2, E2, hn2, ep, rd, hal, rs2, k2⟩
      by_cases hlt : i < q.1.length
      · have ed0 : ∃ d, q.1[i]? = some d := ⟨q.1[i], List.getElem?_eq_getElem hlt⟩
        refine .inr ⟨hJ.goes i μ2 h2 H2 hlt r2 E2, fun H3 => ∃ m', m' < q.1.length - i ∧ (m' = q.1.length - (i + 1) ∧ i + 1 ≤ q.1.length ∧ ∃ μ2 h2 acc vs, R (wd X) μ2 h2 H3 ∧ Ext μ1 (lckL q.2 h1) H1 μ2 h2 H3 ∧ p ∉ μ2 ∧ H3 p = some (.lst vs) ∧ RDs (wd X) μ2 H3 acc vs ∧ acc.length ≤ i + 1 ∧ RS (wd X) μ2 H3 (wipeD ρ (own.map (·.2))) (wipe σ (own.map (·.2))) ∧ kC (wd X) μ1 (lckL q.2 h1) H1 p Q (preR acc (cCompB t tt ce (wipeD ρ (own.map (·.2))) (q.1.drop (i + 1)) h2))), fun H' z => z, fun x H' hy => ?_⟩
        obtain ⟨d, e1, r3, E3, rdx⟩ := hJ.yields i μ2 h2 H2 x H' hlt r2 E2 hy
        have ed : q.1.drop i = d :: q.1.drop (i + 1) := by
          rw [List.drop_eq_getElem_cons hlt, (List.getElem?_eq_some_iff.mp e1).2]
        rw [ed] at k2
        simp only [cCompB] at k2
        cases e2 : asg t d (wipeD ρ (own.map (·.2))) with
        | none => simp only [e2] at k2; exact False.elim k2
        | some ρ3 =>
          simp only [e2] at k2
          have E23 := E2.trans r1' E3
          have keep : ∀ {μa μb : List Addr} {ha hb : Hc} {Ha Hb : Hp}, R (wd X) μa ha Ha → Ext μa ha Ha μb hb Hb → p ∉ μa → Ha p = some (.lst vs) → p ∉ μb ∧ Hb p = some (.lst vs) := fun {μa μb ha hb Ha Hb} ra F hna hpa => by
            refine ⟨fun hm => ?_, F.frame p _ hpa fun n w e3 _ => absurd (List.mem_of_getElem? e3) hna⟩
            obtain ⟨mm, em, ff⟩ := F.pre
            rw [em] at hm
            rcases List.mem_append.mp hm with z | z
            · exact hna z
            · have := ff p z; rw [hpa] at this; cases this
          obtain ⟨hn3, ep3⟩ := keep r2 E3 hn2 ep
          refine ⟨μ2, wipeD ρ (own.map (·.2)), h2, d, ρ3, r3, rs2.ext E3 r2, RDt.yld ht rdx e2, e2, fun σ3 s3 o3 => ⟨wipe_only o3 hv', μ2, ρ3, h2, r3, s3, ?_⟩⟩
          cases e3 : tt ρ3 h2 with
          | stuck => rw [e3] at k2; exact False.elim k2
          | exn c x h => rw [e3] at k2; exact False.elim k2
          | ok b h4 =>
            rw [e3] at k2
            intro μ4 H4 b' r4 E4 eb
            have eb' : b' = b := eb
            subst eb'
            obtain ⟨hn4, ep4⟩ := keep r3 E4 hn3 ep3
            have E24 := E23.trans r1' E4
            cases b' with
            | false =>
              rw [if_neg Bool.false_ne_true]
              exact ⟨_, by omega, rfl, hlt, μ4, h4, acc, vs, r4, E24, hn4, ep4, RDs.ext E4 r3 _ _ (RDs.ext E3 r2 _ _ rd), by omega, (rs2.ext E3 r2).ext E4 r3, k2⟩
            | true =>
              rw [if_pos rfl]
              refine ⟨μ4, ρ3, h4, r4, s3.ext E4 r3, ?_⟩
              have k3 : kC (wd X) μ1 (lckL q.2 h1) H1 p Q (preR acc ((ce ρ3 h4).bind fun x h2 => (cCompB t tt ce (wipeD ρ (own.map (·.2))) (q.1.drop (i + 1)) h2).bind fun xs h3 => .ok (x :: xs) h3)) := k2
              cases e4 : ce ρ3 h4 with
              | stuck => rw [e4] at k3; exact False.elim k3
              | exn c x h => rw [e4] at k3; exact False.elim k3
              | ok y h5 =>
                rw [e4] at k3
                intro μ5 H5 w r5 E5 rdy
                obtain ⟨hn5, ep5⟩ := keep r4 E5 hn4 ep4
                have E25 := E24.trans r1' E5
                have rd5 := RDs.ext E5 r4 _ _ (RDs.ext E4 r3 _ _ (RDs.ext E3 r2 _ _ rd))
                have la : LstAt H5 p := .inr ⟨vs, ep5⟩
                have hlen : vs.length < sizeLine := by rw [← rd.len]; omega
                refine ⟨vs, ep5, hlen, _, by omega, rfl, hlt, μ5, h5, acc ++ [y], vs ++ [w], r5.off la hn5, E25.off hp, hn5, upd_same, RDs.append (RDs.off la _ _ rd5) (RDs.cons (RD.off la y w rdy) RDs.nil), by simp; omega, (((rs2.ext E3 r2).ext E4 r3).ext E5 r4).off la, ?_⟩
                have k4 : kC (wd X) μ1 (lckL q.2 h1) H1 p Q (preR acc ((cCompB t tt ce (wipeD ρ (own.map (·.2))) (q.1.drop (i + 1)) h5).bind fun xs h3 => .ok (y :: xs) h3)) := k3
                cases e5 : cCompB t tt ce (wipeD ρ (own.map (·.2))) (q.1.drop (i + 1)) h5 with
                | stuck => rw [e5] at k4; exact False.elim k4
                | exn c x h => rw [e5] at k4; exact False.elim k4
                | ok xs h6 =>
                  rw [e5] at k4
                  have k5 : kC (wd X) μ1 (lckL q.2 h1) H1 p Q (.ok (acc ++ y :: xs) h6) := k4
                  show kC (wd X) μ1 (lckL q.2 h1) H1 p Q (.ok ((acc ++ [y]) ++ xs) h6)
                  rw [List.append_assoc]
                  exact k5
      · have ei : i = q.1.length := by omega
        subst ei
        refine .inl ⟨hJ.stops μ2 h2 H2 r2 E2, ?_⟩
        rw [List.drop_length] at k2
        have k3 : kC (wd X) μ1 (lckL q.2 h1) H1 p Q (.ok (acc ++ []) h2) := k2
        rw [List.append_nil] at k3
        exact k3 μ2 H2 vs r2 E2 hn2 ep rd
    · exact False.elim k
theorem s_comp (hc : X.calm = true) (hN : X.N.Nodup) (hi : SI X Wx tg it tp ci) (ok : blkC X.N X.env.scope scope own = true)
    (hg : ∀ s H C cl fp, SG (bX X scope s H C cl fp) tg t) (hT : ∀ s H C cl fp, PTs (bX X scope s H C cl fp) ifs (lT (wd (bX X scope s H C cl fp)) wx0 tt)) (he : ∀ s H C cl fp, SE (bX X scope s H C cl fp) wx0 elt ce)
    (ht : tpOk tp t = true := by rfl) (hv : (tvars t).all (fun i => (own.map (·.2)).contains i) = true := by rfl) (hs : ∀ x, foldedSetIterable it X.env x = pure x := by intro _; rfl) :
    SE X Wx (.ListComp elt [⟨tg, it, ifs, 0⟩] scope pos) (cComp (own.map (·.2)) ci t tt ce) :=
  have q : ∀ s H C cl fp, wd (bX X scope s H C cl fp) = wd X := fun _ _ _ _ _ => wd_of hc rfl rfl
  pe_mono (pe_lc (g := lTg (wd X) t) (tt := lT (wd X) wx0 tt) (te := lE (wd X) wx0 ce) hc hN hi (blkOk_by ok) (fun s H C cl fp => by rw [← q s H C cl fp]; exact hg s H C cl fp) (fun s H C cl fp => by rw [← q s H C cl fp]; exact hT s H C cl fp) (fun s H C cl fp => by rw [← q s H C cl fp]; exact he s H C cl fp) hs) fun _ _ _ k => lc_read ht hv k
theorem s_setComp {i : Nat} {y : Str} {py spos : Pos} (hc : X.calm = true) (hN : X.N.Nodup) (hi : SI X Wx tg it tp ci) (ok : blkC X.N X.env.scope scope own = true)
    (hg : ∀ s H C cl fp, SG (bX X scope s H C cl fp) tg t) (hT : ∀ s H C cl fp, PTs (bX X scope s H C cl fp) ifs (lT (wd (bX X scope s H C cl fp)) wx0 tt)) (he : ∀ s H C cl fp, SE (bX X scope s H C cl fp) wx0 elt ce)
    (hsw : swapsWith (.ListComp elt [⟨tg, it, ifs, 0⟩] scope pos) (some (.Name y py)) spos.line X.env = pure true) (hy : X.N[i]? = some y := by rfl) (hyl : X.env.scope.names.lookup y = some .local := by rfl)
    (ht : tpOk tp t = true := by rfl) (hv : (tvars t).all (fun i => (own.map (·.2)).contains i) = true := by rfl) (hs : ∀ x, foldedSetIterable it X.env x = pure x := by intro _; rfl) :
    SS X Wx (.Assign [.Name y py] (.ListComp elt [⟨tg, it, ifs, 0⟩] scope pos) spos) (cSet i (cComp (own.map (·.2)) ci t tt ce)) := by
  have q : ∀ s H C cl fp, wd (bX X scope s H C cl fp) = wd X := fun _ _ _ _ _ => wd_of hc rfl rfl
  refine ps_mono (ps_setLc (g := lTg (wd X) t) (tt := lT (wd X) wx0 tt) (te := lE (wd X) wx0 ce) hc hN hy hyl hsw hi (blkOk_by ok) (fun s H C cl fp => by rw [← q s H C cl fp]; exact hg s H C cl fp) (fun s H C cl fp => by rw [← q s H C cl fp]; exact hT s H C cl fp) (fun s H C cl fp => by rw [← q s H C cl fp]; exact he s H C cl fp) hs) fun D σ H ⟨μ, ρ, h, r, rs, k⟩ => ?_
  refine lc_read ht hv ⟨μ, ρ, h, r, rs, (kS.bind r rs k).imp fun v H1 ⟨x, μ1, h1, _, r1, e1, d1, k1⟩ => ?_⟩
  exact k1.nx r1 ((rs.ext e1 r).put d1 i)
theorem ts_nil : PTs X [] (lT (wd X) Wx cYes) := ⟨fun pins s σ H Q I ⟨μ, ρ, h, r, rs, k⟩ => pts_nil.run pins s σ H Q I (k μ H true r .refl rfl)⟩
theorem ts_one {c : Expr} {ct : CT} (h : ST X Wx c ct) : PTs X [c] (lT (wd X) Wx ct) := pts_one h
end
end Sx

set_option Elab.async false
set_option linter.all false
set_option maxRecDepth 100000
namespace Sx
open PySem PySem.Spec PyProof.Rows L2

abbrev Fn := List D → Hc → Res D
def endD : ResS → Res D
  | .ok .nx _ h => .ok .non h
  | .ok (.ret d) _ h => .ok d h
  | .ok (.exn c x) _ h => .exn c x h
  | _ => .stuck
def runD (n N : Nat) (body : CS) : Fn := fun ds h => if ds.length = n then endD (body (ds.map some ++ List.replicate (N - n) none) h) else .stuck
def spOf (W : Wb) (n : Nat) (m : Fn) : Sp := fun vs H Q E => ∃ μ h ds, R W μ h H ∧ RDs W μ H ds vs ∧ ds.length = n ∧ kR (RD W) W (fun cls d _ H => E cls d H) μ h H [] Q (m ds h)
abbrev eW (E : XK) : WX := fun cls d _ H => E cls d H
abbrev dX (P : Program) (w : World) (K : PySem.W.Frag) (mg : Str → Option Value) (base : Heap) (N : List Str) (qual : Str) (scope : Scope) (f : Addr) (cd : Value) (A : Around) (outer : List Env) (s : Shared) (H : Hp) (E : XK) : Cx := cxOf (L2.CX P w) P w K mg base N qual scope f cd A outer s H E
theorem start_RS {W : Wd} {μ : List Addr} {H : Hp} {N : List Str} : ∀ {ds : List D} {vs : List V}, RDs W μ H ds vs → RS W μ H (ds.map some ++ List.replicate (N.length - ds.length) none) (L2.start N vs) := fun {ds vs} r => by
  unfold L2.start
  refine ⟨by simp [r.len], fun i d e => ?_⟩
  by_cases hi : i < ds.length
  · rw [List.getElem?_append_left (by simpa using hi)] at e
    rw [List.getElem?_map] at e
    cases q : ds[i]? with
    | none => rw [q] at e; cases e
    | some d' =>
      rw [q] at e
      have e' : d' = d := by injection e with e; injection e
      subst e'
      obtain ⟨v, e1, e2⟩ := r.get q
      refine ⟨v, ?_, .inl e2⟩
      rw [List.getElem?_append_left (by rw [List.length_map, ← r.len]; exact hi), List.getElem?_map, e1]; rfl
  · rw [List.getElem?_append_right (by simpa using Nat.le_of_not_lt hi)] at e
    have := List.mem_replicate.mp (List.mem_of_getElem? e)
    cases this.2
section
variable {P : Program} {w : World} {K : PySem.W.Frag} {mg : Str → Option Value} {base : Heap}
theorem fn_ok {x qual : Str} {st : Stmt} {f : Addr} {fd : FuncData} {N ps : List Str} {k : Nat} {body : CS} (F : Fun K x qual st f fd) (S : FnScope N ps (defScope st))
    (hb : ∀ (cdv : Value) (A : Around) (outer : List Env) (s : Shared) (H : Hp) (E : XK), Room k (A.deeper (envOfC qual (defScope st) s.heap.objs.size f cdv)) → SSs (dX P w K mg base N qual (defScope st) f cdv A outer s H E) (eW E) (defBody st) body) :
    FnOk P w K mg base (L2.CX P w) (k + 1) f fd ps (spOf ⟨K, mg⟩ ps.length (runD ps.length N.length body)) := by
  refine F.okX S (fun vs H Q E h => ?_) (fun cdv A outer s H vs Q E hr h => ?_)
  · obtain ⟨μ, h, ds, r, rd, hl, _⟩ := h
    rw [← rd.len, hl]
  · obtain ⟨μ, h, ds, r, rd, hl, k⟩ := h
    refine ⟨_, hb cdv A outer s H E hr, μ, _, h, r, start_RS rd, ?_⟩
    unfold runD at k
    rw [if_pos hl] at k
    rw [hl]
    cases e : body (ds.map some ++ List.replicate (N.length - ps.length) none) h with
    | stuck => rw [e] at k; exact k
    | ok fl ρ' h' =>
      rw [e] at k
      cases fl with
      | nx => exact fun μ' H' σ' y E rs => k μ' H' .non y E (by simp only [RD])
      | ret d => exact fun μ' H' σ' y E rs v rv => k μ' H' v y E rv
      | exn c x => exact fun μ' H' σ' y E rs C dd v a b c => k μ' H' C dd v a y E b c
      | bk => exact False.elim k
      | ct => exact False.elim k
end
def cCall (m : Fn) (a : CA) : CE := fun ρ h => (a ρ h).bind m
def pick (is : List Nat) (xs : List D) : List D := is.filterMap fun i => xs[i]?
def cCallK (m : Fn) (is : List Nat) (a : CA) : CE := fun ρ h => (a ρ h).bind fun xs h1 => m (pick is xs) h1
section
variable {X : Cx} {Wx : WX} {k n : Nat} {f : Addr} {fd : FuncData} {ps : List Str} {m : Fn} {x : Str} {p pos : Pos} {e : Expr} {es : List Expr} {cs : CA}
theorem RDs.pick {W : Wd} {μ : List Addr} {H : Hp} {ds : List D} {vs : List V} (r : RDs W μ H ds vs) : ∀ is : List Nat, RDs W μ H (is.filterMap fun i => ds[i]?) (is.filterMap fun i => vs[i]?)
  | [] => RDs.nil
  | i :: is => by
    rw [List.filterMap_cons, List.filterMap_cons]
    cases q : ds[i]? with
    | none =>
      have : vs[i]? = none := by
        rw [List.getElem?_eq_none_iff] at q ⊢
        rw [← r.len]; exact q
      rw [this]; exact r.pick is
    | some d =>
      obtain ⟨v, e1, e2⟩ := r.get q
      rw [e1]; exact RDs.cons e2 (r.pick is)
theorem s_call (F : FnOk X.prog X.w X.K X.mg X.base (L2.CX X.prog X.w) k f fd ps (spOf (wd X) n m)) (hr : Room k X.A) (hm : X.mg x = some (.ref f)) (hk : PySem.W.keepIn X.K (.ref f) = true) (hb : Binds X.K fd ps []) (tk : Takes X Wx) (ha : SA X Wx (e :: es) cs) (hn : ∀ ρ h xs h', cs ρ h = .ok xs h' → xs.length = n)
    (hg : Gl X x := by rfl) (hdb : (x == ("__debug__" : Str)) = false := by decide) (he : starEach (e :: es) X.env = (false, eval e X.env) :: starEach es X.env := by rfl) (hpl : (backTo pos (starEach es X.env)).any (·.1) = false := by rfl) :
    SE X Wx (.Call (.Name x p) (e :: es) [] pos) (cCall m cs) := by
  refine pe_mono (pe_callS (E := WE Wx) F hr hg hm hk hb (fun σ => passAt tk σ) ha hdb he hpl) fun σ H Q ⟨μ, ρ, h, r, rs, k⟩ => ?_
  refine ⟨μ, ρ, h, r, rs, (kR.bind r k).imp fun vs H1 ⟨xs, μ1, h1, q, r1, e1, d1, k1⟩ => ?_⟩
  refine ⟨μ1, h1, xs, r1, d1, hn ρ h xs h1 q, ?_⟩
  cases q2 : m xs h1 with
  | ok d h2 => rw [q2] at k1; exact k1
  | exn c y h2 => rw [q2] at k1; exact k1
  | stuck => rw [q2] at k1; exact k1
theorem nil_len {ρ : Rho} {h : Hc} {xs : List D} {h' : Hc} (e : cNil ρ h = .ok xs h') : xs.length = 0 := by
  unfold cNil at e; cases e; rfl
theorem cons_len {a : CE} {c : CA} {n : Nat} (hc : ∀ ρ h xs h', c ρ h = .ok xs h' → xs.length = n) : ∀ ρ h xs h', cCons a c ρ h = .ok xs h' → xs.length = n + 1 := fun ρ h xs h' e => by
  unfold cCons at e
  cases q : a ρ h with
  | stuck => rw [q] at e; cases e
  | exn c x h => rw [q] at e; cases e
  | ok d h1 =>
    rw [q] at e
    have e : ((c ρ h1).bind fun xs h2 => Res.ok (d :: xs) h2) = .ok xs h' := e
    cases q2 : c ρ h1 with
    | stuck => rw [q2] at e; cases e
    | exn c x h => rw [q2] at e; cases e
    | ok ys h2 =>
      rw [q2] at e
      have e : Res.ok (d :: ys) h2 = .ok xs h' := e
      injection e with e1 e2
      subst e1
      simp [hc ρ h1 ys h2 q2]
end
def KBd (fd : FuncData) (ps ks : List Str) (is : List Nat) : Prop := ∀ (s : Shared) (ws : List Value), ws.length = ks.length → BindsTo s fd ⟨[], ks.zip ws⟩ (ps.zip (is.filterMap fun i => ws[i]?))
theorem kbd_of {K : PySem.W.Frag} {x qual : Str} {st : Stmt} {f : Addr} {fd : FuncData} {ps ks : List Str} {is : List Nat} (F : Fun K x qual st f fd)
    (h : ∀ (kV doc pm : Value) (an : Option Addr) (cdv ct : Value) (ws : List Value), ws.length = ks.length → bindArgs (PySem.W.fnOf x qual (defArgs st) (defBody st) (defScope st) .none kV doc pm an cdv ct) ⟨[], ks.zip ws⟩ = pure (ps.zip (is.filterMap fun i => ws[i]?))) : KBd fd ps ks is := by
  obtain ⟨oc, od, kV, doc, pm, an, cdv, ct, osl, rfl, lk, hcd⟩ := F.ex
  exact fun s ws hl => .of_eq (h kV doc pm an cdv ct ws hl)
section
variable {X : Cx} {Wx : WX} {k n : Nat} {f : Addr} {fd : FuncData} {ps ks : List Str} {is : List Nat} {m : Fn} {x : Str} {p pos kp : Pos} {e : Expr} {kws : List Keyword} {ce : CE} {cs : CA} {nm : Option Str}
abbrev SK (X : Cx) (Wx : WX) (kws : List Keyword) (c : CA) : Prop := PK X kws (lA (wd X) Wx c)
theorem s_knil : SK X Wx [] cNil := ⟨fun pos pins s σ H Q I ⟨μ, ρ, h, r, rs, k⟩ => pk_nil.run pos pins s σ H Q I (k μ H [] r .refl RDs.nil)⟩
theorem s_kcons (ha : SE X Wx e ce) (hr : SK X Wx kws cs) : SK X Wx (⟨nm, e, kp⟩ :: kws) (cCons ce cs) := by
  refine ⟨fun pos pins s σ H Q I ⟨μ, ρ, h, r, rs, k⟩ => (pk_cons ha hr).run pos pins s σ H Q I ?_⟩
  refine ⟨μ, ρ, h, r, rs, (kR.bind r k).imp fun v H1 ⟨x, μ1, h1, _, r1, e1, d1, k1⟩ => ?_⟩
  refine ⟨μ1, ρ, h1, r1, rs.ext e1 r, (kR.bind (rel1 := RDs (wd X)) r1 k1).imp fun vs H2 ⟨xs, μ2, h2, _, r2, e2, d2, k2⟩ => ?_⟩
  exact k2 μ2 H2 (v :: vs) r2 .refl (RDs.cons (RD.ext e2 r1 x v d1) d2)
theorem Vals.pick {vs : List V} {us : List Value} (r : Vals vs us) : ∀ is : List Nat, Vals (is.filterMap fun i => vs[i]?) (is.filterMap fun i => us[i]?)
  | [] => .nil
  | i :: is => by
    rw [List.filterMap_cons, List.filterMap_cons]
    cases q : vs[i]? with
    | none => rw [L2.Vals.none_of r q]; exact Vals.pick r is
    | some v =>
      obtain ⟨u, e1, e2⟩ := L2.Vals.get r q
      rw [e1]; exact .cons e2 (Vals.pick r is)
theorem s_callK (F : FnOk X.prog X.w X.K X.mg X.base (L2.CX X.prog X.w) k f fd ps (spOf (wd X) n m)) (hr : Room k X.A) (hm : X.mg x = some (.ref f)) (hk : PySem.W.keepIn X.K (.ref f) = true) (hb : KBd fd ps ks is) (tk : Takes X Wx) (ha : SK X Wx kws cs)
    (hl : ∀ ρ h xs h', cs ρ h = .ok xs h' → xs.length = ks.length) (hn : ∀ xs : List D, xs.length = ks.length → (pick is xs).length = n)
    (hg : Gl X x := by rfl) (hdb : (x == ("__debug__" : Str)) = false := by decide) (hall : (backToKw pos (keywordEach kws X.env)).all (·.1.isSome) = true := by rfl) (hks : (backToKw pos (keywordEach kws X.env)).filterMap (·.1) = ks := by rfl)
    (hpl : ((backTo pos (starEach [] X.env)).any (·.1) || (backToKw pos (keywordEach kws X.env)).any (·.1.isNone)) = false := by rfl) :
    SE X Wx (.Call (.Name x p) [] kws pos) (cCallK m is cs) := by
  refine ⟨fun pins s σ H Q I ⟨μ, ρ, h, r, rs, k⟩ => ?_⟩
  refine wpAny_Call_Name_kw (ld_glob I hg hm ?_ hdb)
  have k' : lA (wd X) Wx cs σ H fun vs H1 => spOf (wd X) n m (is.filterMap fun i => vs[i]?) H1 Q (WE Wx σ) ∧ vs.length = ks.length := by
    refine ⟨μ, ρ, h, r, rs, (kR.bind r k).imp fun vs H1 ⟨xs, μ1, h1, q, r1, e1, d1, k1⟩ => ⟨⟨μ1, h1, pick is xs, r1, d1.pick is, hn xs (hl ρ h xs h1 q), ?_⟩, by rw [← d1.len]; exact hl ρ h xs h1 q⟩⟩
    cases q2 : m (pick is xs) h1 with
    | ok d h2 => rw [q2] at k1; exact k1
    | exn c y h2 => rw [q2] at k1; exact k1
    | stuck => rw [q2] at k1; exact k1
  refine PySem.W.callWith_KW0 (h₀ := X.base) I.ok.mod.kin hk hall (thn (ha.run pos pins s σ H _ I k') fun ws s2 ⟨zs, H2, I2, rz, q2, q3⟩ => ⟨I2.kIn, ?_⟩) hpl
  rw [hks]
  have hlen : ws.length = ks.length := by rw [← rz.length]; exact q3
  refine wpAny_call (codeAny_mono (F.run X.A X.stack s2 H2 ⟨[], ks.zip ws⟩ _ _ Q (WE Wx σ) hr I2.env0 (hb s2 ws hlen) (Vals.pick rz is) q2) fun r s' hq => ?_)
  cases r with
  | error e => exact passAt tk σ pins H2 s2 e s' I2 hq
  | ok fl =>
    cases fl with
    | ret u => exact I2.after hq
    | next => exact False.elim hq
    | brk => exact False.elim hq
    | cont => exact False.elim hq
end
end Sx

set_option Elab.async false
set_option linter.all false
set_option maxRecDepth 100000
namespace Sx
open PySem PySem.Spec PyProof.Rows L2
open PySem.W PySem.Calls PySem.HandSPX

structure IniPos where
  (a1 a2 s1 s2 s3 s4 s5 s6 q1 q2 q3 q4 : Pos) (k : Nat)
  hl : (s3.endLine == s5.line) = true
def iniA (p : IniPos) : Arguments := { posonlyargs := [], args := [{ arg := "self", annotation := none, pos := p.a1 }, { arg := "what", annotation := none, pos := p.a2 }], vararg := none, kwonlyargs := [], kw_defaults := [], kwarg := none, defaults := [] }
def iniB (p : IniPos) : List Stmt := [.Expr (.Call (.Attribute (.Call (.Name "super" p.s1) [] [] p.s2) "__init__" p.s3) [.Constant (.str "refused") p.k p.s4] [] p.s5) p.s6,
  .Assign [.Attribute (.Name "self" p.q1) "what" p.q2] (.Name "what" p.q3) p.q4]
def iniS : Scope := { kind := .function, names := [(PySem.Str.ofString "self", .local), (PySem.Str.ofString "what", .local), (PySem.Str.ofString "__class__", .free), (PySem.Str.ofString "super", .globalImplicit)], isGenerator := false, isCoroutine := false, more := [] }
structure BaseTxt (P : Program) (K : Frag) (mg : Str → Option Value) (D fI cc : Addr) : Prop where
  clsD : ∃ cd, clsIn K D = some cd
  fn : ∃ (oc : Value) (od : Option Addr) (doc pm : Value) (an : Option Addr) (cda : Addr) (ct : Value) (osl : Array (Option Value)) (p : IniPos),
    K.lookup fI = some ⟨oc, od, .func (ksFn "__init__" "Refused.__init__" (iniA p) (iniB p) iniS .none .none doc pm an (.ref cda) ct cc), osl⟩ ∧ codeIn K (.ref cda) "Refused.__init__" = true ∧
    ∃ (ccl : Value) (cdd : Option Addr) (vs : Array Value) (ccs : Array (Option Value)) (file : Str) (tf : Tok), K.lookup cda = some ⟨ccl, cdd, .fields vs, ccs⟩ ∧ vs[2]? = some (.str file tf) ∧ ((P.main.file : Str) == file) = true
  cell : ∃ (cl : Value) (cld : Option Addr) (csl : Array (Option Value)), K.lookup cc = some ⟨cl, cld, .cell (some (.ref D)), csl⟩
  sup : mg "super" = none
  top : (P.main.scope.names.lookup ("super" : Str)).isSome = false
  op : nsIn K cStatics "thirdparty.any" = some none
  tf : typeIn K (.ref fI) = some (.type "function")
structure ErrTxt (K : Frag) (mg : Str → Option Value) (c : Str) (C D fI : Addr) : Prop where
  gC : mg c = some (.ref C)
  cls : ∃ nm q N bs bm sn sub ab col dd k0 k1 k2 k3 k5, K.lookup C = some (excClassObj nm q C N bs bm true sn sub ab col dd k0 k1 k2 k3 k5 "ValueError.__new__") ∧ refsVE bm = true
  sa : findIn K (.ref C) "__setattr__" = some (some (.builtin "object.__setattr__"))
  ga : findIn K (.ref C) "__getattribute__" = some (some (.builtin "BaseException.__getattribute__"))
  gg : findIn K (.ref C) "__getattr__" = some none
  noN : findIn K (.ref C) "what" = some none
  iC : findIn K (.ref C) "__init__" = some (some (.ref fI))
  kC : keepIn K (.ref C) = true
  exC : subIn K (.ref C) (.type "BaseException") = some true
  veC : subIn K (.ref C) (.type "ValueError") = some true
  tyC : typeIn K (.ref C) = some (.type "type")
  hdC : hasDictIn K C = true
  sup : ks_superIn K C D "__init__" = some (some (.builtin "ValueError.__init__"))
  subD : subIn K (.ref C) (.ref D) = some true
structure IniEnd (h h' : Heap) (x C dx t1 : Addr) (v : Value) : Prop where
  keep : ∀ b o, b ≠ x → h.get? b = some o → h'.get? b = some o
  obj : h'.get? x = some { cls := .ref C, dict := some dx, data := .fields #[.ref t1, .none, .none, .none, .bool false, .none] }
  dbig : x < dx
  dne : dx ≠ x
  ns : h'.Ns1 dx (fun y => if y = "what" then some v else none)
theorem kept1 {K : Frag} {h h' : Heap} {x : Addr} (X : K.In h) (hx : K.lookup x = none) (k : ∀ b o, b ≠ x → h.get? b = some o → h'.get? b = some o) : K.In h' := fun a o e =>
  k a o (fun z => by rw [z, hx] at e; cases e) (X a o e)
theorem methEval {o : Expr} {name : Str} {apos pos : Pos} {args : List Expr} {env : Env} (hf : methodCallForm (args.length + ([] : List Keyword).length) (backTo pos (starEach args env)) (backToKw pos (keywordEach [] env)) = true) (hl : (apos.endLine == pos.line) = true) :
    eval (.Call (.Attribute o name apos) args [] pos) env = (do
      let ov ← attributeBase o name env (eval o env)
      standAt apos.atName
      let (f, first) ← holding [ov] (getMethod ov name (do return (← importBound o env).getD true))
      callWith pos f first (backTo pos (starEach args env)) []) := by
  rw [arm_eval_Call]
  have hp : methodCallPos true o env apos pos = pure pos := by unfold methodCallPos; simp [hl]
  unfold methodCall
  rw [hf, hp]
  simp only [pure_bind]
  rfl
theorem callMw {prog : Program} {w : World} {A : Around} {E : Value → Shared → Prop} {s : Shared} {C u x t0 : Addr} {rest : List Value} {nm q : Str} {N : Addr} {bs bm : List Value} {hdct : Bool} {sn : List Str} {sub : List Value} {ab : Bool} {col : Option Bool} {dd : Option Addr} {k0 k1 k2 k3 k5 : Option Value} {Q : Value → Shared → Prop}
    (hC : s.heap.get? C = some (excClassObj nm q C N bs bm hdct sn sub ab col dd k0 k1 k2 k3 k5 "ValueError.__new__")) (hx : s.heap.get? x = some (excO C t0)) (hu : s.heap.get? u = some (kxs_mw "ValueError.__init__" x)) (hz : rest.length ≤ sizeLine)
    (h : ∀ h' t1, (∀ b o, b ≠ x → s.heap.get? b = some o → h'.get? b = some o) → h'.get? x = some (excO C t1) → Q .none { s with heap := h' }) :
    wpAny (model prog w) A (call (.ref u) rest) Q E s := by
  obtain ⟨hh, g, d, tk, os⟩ := s
  refine wpAny_call (codeAny_of_tree ?_)
  show wpAny _ A.in1 (callAny (.ref u) ⟨rest, []⟩) _ _ _
  simp only [callAny]
  refine wpAny_bind (wpAny_load hu ?_)
  simp only [kxs_mw, show (Value.type "method-wrapper" == Value.type "method" || Value.type "method-wrapper" == Value.type "builtin_function_or_method" || Value.type "method-wrapper" == Value.type "method-wrapper") = true by decide, if_true]
  refine KFB.if_so (by decide) ?_
  refine wpAny_bind (check_bound_init F.excBase_ValueError.toExcCallFacts hC hx rfl ?_)
  refine wpAny_bind (wpAny_pure (wpAny_pure ?_))
  refine ⟨plainId_quiet F.excBase_ValueError.init.plain _, codeAny_builtin F.excBase_ValueError.initEntry ?_⟩
  exact exc_init_tree (cls := .ref C) (t0 := t0) (dv := none) (c2 := .none) (c3 := .none) (b4 := .bool false) hx hz fun h' k e' t' => h h' hh.objs.size k e'
section
variable {prog : Program} {w : World} {A : Around} {E : Value → Shared → Prop} {R : Result → Shared → Prop} {s : Shared} {K : Frag} {mg mb : Str → Option Value} {c : Str} {C D fI cc : Addr}
theorem ini_run (B : BaseTxt prog K mg D fI cc) (T : ErrTxt K mg c C D fI) {x t0 : Addr} {v : Value} (X : K.In s.heap) (hG : s.heap.Ns mainGlobals mg) (hB : s.heap.Ns builtinsNs mb) (hmb : mb "super" = some (.type "super")) (hlim : s.heap.NoLimit) (hx : s.heap.get? x = some (excO C t0)) (hnx : K.lookup x = none)
    (hroom : A.depth < recursionLimit) (hq : ∀ h' tk dx t1, IniEnd s.heap h' x C dx t1 v → R (.ok (.ret .none)) { s with heap := h', toks := tk }) :
    codeAny (model prog w) A (.call (.ref fI) ⟨[.ref x, v], []⟩) R s := by
  obtain ⟨oc, od, doc, pm, an, cda, ct, osl, p, ho, hcd, ccl, cdd, vs, ccs, file, tf, hcode, hvs, hfile⟩ := B.fn
  obtain ⟨cl, cld, csl, hcell⟩ := B.cell
  obtain ⟨cdD, hD⟩ := B.clsD
  obtain ⟨nm, q, N, bs, bm, sn, sub, ab, col, dd, k0, k1, k2, k3, k5, hC, hbm⟩ := T.cls
  have hcl : clsIn K C = some { name := nm, bases := bs, mro := .ref C :: bm, ns := N, qualname := q, hasDict := true, slotNames := sn, subclasses := sub, abstract := ab, collection := col, hasDel := false } := by unfold clsIn; rw [hC] <;> rfl
  refine ks_codeAny_call_defAt (fd := ksFn "__init__" "Refused.__init__" (iniA p) (iniB p) iniS .none .none doc pm an (.ref cda) ct cc) (body := iniB p) (binds := [("self", .ref x), ("what", v)]) hroom (X _ _ ho) rfl hlim (codeRec_of X hcd) rfl (.of_eq rfl) (show ∀ y ∈ iniS.names, y.2 ≠ .cell by decide) (locs rfl) (fun h₁ hns hk₁ => ?_)
  have X₁ : K.In h₁ := X.keeps hk₁
  have hx₁ := hk₁ _ _ hx
  have hC₁ := X₁ _ _ hC
  obtain ⟨oD, hD1, hD2⟩ : ∃ oD, K.lookup D = some oD ∧ oD.data = .cls cdD := by
    unfold clsIn at hD
    split at hD
    · rename_i c d cd' sl ho
      injection hD with hD; subst hD
      exact ⟨_, ho, rfl⟩
    · cases hD
  have hxC : x ≠ C := fun z => by rw [z, hC] at hnx; cases hnx
  have I₁ : InstAt h₁ x (excO C t0) C none := ⟨hx₁, rfl, rfl, trivial⟩
  have hoff : ∀ m : Str → Option Value, s.heap.Ns mainGlobals m → h₁.Ns mainGlobals m := fun m q => q.keeps hk₁
  refine ks_wpAt_execs_cons (ks_wpAt_Expr_any (ks_wpAt_MethodCall (ks_wpAt_super_base (f := fI) (fd := ksFn "__init__" "Refused.__init__" (iniA p) (iniB p) iniS .none .none doc pm an (.ref cda) ct cc) (by first | rfl | kernel_rfl) (by first | rfl | kernel_rfl) (by decide) rfl (X₁ _ _ ho) rfl rfl rfl (X₁ _ _ hcode) rfl hvs hfile B.top ?_) (methEval (by rfl) p.hl)))
  refine ks_loadName_global (by rfl) (by first | rfl | kernel_rfl) (Calls.loadGlobal_builtin (mb := mb) (show h₁.Ns mainGlobals mg from hG.keeps hk₁) B.sup (show h₁.Ns builtinsNs mb from hB.keeps hk₁) hmb ⟨rfl, ?_⟩)
  refine wpAny_loadName_free (c := cc) (by rfl) (by first | rfl | kernel_rfl) (by first | rfl | kernel_rfl) ⟨_, X₁ _ _ hcell, rfl⟩ ?_ (by decide)
  refine wpAny_loadName_local (by rfl) (by first | rfl | kernel_rfl) hns (by first | rfl | kernel_rfl) ?_
  refine ks_wpAny_isType_cls (X₁ _ _ hD1) hD2 ⟨rfl, ?_⟩
  refine ks_wpAny_call_super (X₁ _ _ hD1) hD2 hx₁ rfl (fun c => by intro z; cases z) (looks_subIn X₁ T.subD) (fun h₂ hso k₂ => ?_)
  have X₂ : K.In h₂ := X₁.keeps k₂
  have hx₂ := k₂ _ _ hx₁
  have I₂ : InstAt h₂ x (excO C t0) C none := ⟨hx₂, rfl, rfl, trivial⟩
  refine kxs_getMethod kxs_ValueError hso (looks_opaque X₂ B.op) (l₀ := .ref C :: bm) (fun A Q E s k q => wpAny_bind ((looks_clsIn X₂ hcl) A _ E s k (wpAny_pure q))) rfl X₂ (by have := T.sup; unfold ks_superIn at this; rw [hcl] at this; exact this) (I₂.type.andThen (looks_subIn X₂ T.veC)) hxC (by decide) ?_
  have hu : (h₂.push (kxs_mw "ValueError.__init__" x)).get? h₂.objs.size = some (kxs_mw "ValueError.__init__" x) := Heap.get?_push_at rfl rfl
  have k₃ : ∀ b o, h₂.get? b = some o → (h₂.push (kxs_mw "ValueError.__init__" x)).get? b = some o := fun b o e => Heap.get?_push_of_some _ e
  refine kxs_callWith (i := "ValueError.__init__") (x := x) (by rfl) ?_
  refine evalArgs_plain (spliced_cons (wpAny_Constant_str (k := p.k) (pos := p.s4) (spliced_nil ⟨hu, ?_⟩)))
  refine callMw (rest := [_]) (X₂.keeps k₃ _ _ hC) (k₃ _ _ hx₂) hu (by rw [sizeLine_eq]; exact (by decide : 1 ≤ 16777216)) (fun h₄ t1 k₄ hx₄ => ?_)
  have up : ∀ b o, b ≠ x → s.heap.get? b = some o → h₄.get? b = some o := fun b o hb e => k₄ b o hb (k₃ _ _ (k₂ _ _ (hk₁ _ _ e)))
  have X₄ : K.In h₄ := kept1 X hnx up
  show PySem.wpAt _ _ _ (execs _ _) _ _ _
  have hns₄ : h₄.Ns s.heap.objs.size _ := hns.at (fun o e => k₄ _ o (Nat.ne_of_gt (Heap.lt_size hx)) (k₃ _ _ (k₂ _ _ e)))
  refine ks_wpAt_execs_cons (PySem.wpAt_of_wpAny (plainObj_wpAny_Assign_Attribute ?_))
  refine wpAny_Name (wpAny_loadName_local (by rfl) (by first | rfl | kernel_rfl) hns₄ (by first | rfl | kernel_rfl) ?_)
  refine wpAny_Name (wpAny_loadName_local (by rfl) (by first | rfl | kernel_rfl) hns₄ (by first | rfl | kernel_rfl) ?_)
  refine set_plain X₄ (ox := excO C t1) (od := none) ⟨hx₄, rfl, rfl, trivial⟩ T.sa ?_
  refine HandSPX.exc_osa X₄ hx₄ hcl (show refsVE (.ref C :: bm) = true from hbm) rfl T.noN (fun h₅ tk₅ dx k₅ dn dne hx₅ hn₅ => ?_)
  show PySem.wpAt _ _ _ (execs _ _) _ _ _
  refine PySem.wpAt_of_wpAny (wpAny_execs_nil (hq h₅ tk₅ dx t1 ⟨fun b o hb e => k₅ b o hb (up b o hb e), hx₅, Nat.lt_of_lt_of_le (Heap.lt_size hx₄) dn, dne, hn₅⟩))
structure ErrMade (h h' : Heap) (e C d : Addr) (v : Value) : Prop where
  keep : ∀ b o, h.get? b = some o → h'.get? b = some o
  new : h.objs.size ≤ e
  obj : ∃ oe vs, h'.get? e = some oe ∧ oe.cls = .ref C ∧ oe.dict = some d ∧ oe.data = .fields vs ∧ vs[1]? = some .none
  dbig : h.objs.size ≤ d
  dne : d ≠ e
  ns : h'.Ns1 d (fun y => if y = "what" then some v else none)
theorem err_made (B : BaseTxt prog K mg D fI cc) (T : ErrTxt K mg c C D fI) {v : Value} (X : K.In s.heap) (hG : s.heap.Ns mainGlobals mg) (hB : s.heap.Ns builtinsNs mb) (hmb : mb "super" = some (.type "super")) (hlim : s.heap.NoLimit) (hroom : A.depth + 1 < recursionLimit)
    (hq : ∀ h' tk e d, ErrMade s.heap h' e C d v → R (.ok (.ret (.ref e))) { s with heap := h', toks := tk }) :
    codeAny (model prog w) A (.call (.ref C) ⟨[v], []⟩) R s := by
  obtain ⟨nm, q, N, bs, bm, sn, sub, ab, col, dd, k0, k1, k2, k3, k5, hC, hbm⟩ := T.cls
  obtain ⟨hp, g, dr, tk, os⟩ := s
  have k : ∀ b o, hp.get? b = some o → ((hp.push (kdv_tup [v])).push (excO C hp.objs.size)).get? b = some o := fun b o e => Heap.get?_push_of_some _ (Heap.get?_push_of_some _ e)
  have hget : ((hp.push (kdv_tup [v])).push (excO C hp.objs.size)).get? (hp.objs.size + 1) = some (excO C hp.objs.size) := by heap_get
  have hnx : K.lookup (hp.objs.size + 1) = none := by
    cases e : K.lookup (hp.objs.size + 1) with
    | none => rfl
    | some o =>
      have z : hp.get? (hp.objs.size + 1) = some o := X _ _ e
      exact absurd (Nat.lt_of_succ_lt (Heap.lt_size z)) (Nat.lt_irrefl _)
  refine call_own F.excBase_ValueError (fun X => refsVE_contains X bm hbm) (X _ _ hC) (looks_findIn X T.iC) (fun self => bind_fn X self B.tf) (by rw [sizeLine_eq]; exact (by decide : 1 ≤ 16777216)) ?_
  refine ini_run (s := ⟨(hp.push (kdv_tup [v])).push (excO C hp.objs.size), g, dr, tk, os⟩) B T (X.keeps k) (hG.keeps k) (hB.keeps k) hmb (hlim.keeps k) hget hnx ?_ fun h' tk' dx t1 ⟨k', hx, dn, dne, hns⟩ => ?_
  · show A.depth + 1 < recursionLimit
    exact hroom
  · have old : ∀ b o, hp.get? b = some o → h'.get? b = some o := fun b o e => k' b o (Nat.ne_of_lt (Nat.lt_succ_of_lt (Heap.lt_size e))) (k b o e)
    exact ⟨rfl, hq h' tk' (hp.objs.size + 1) dx ⟨old, Nat.le_succ _, ⟨_, _, hx, rfl, rfl, rfl, rfl⟩, Nat.le_trans (Nat.le_succ _) (Nat.le_of_lt dn), dne, hns⟩⟩
end
end Sx

set_option Elab.async false
set_option linter.all false
set_option maxRecDepth 100000
namespace Sx
open PySem PySem.Spec PyProof.Rows L2
open PySem.W PySem.Calls PySem.HandSPX

theorem relO_what {v : V} {v' : Value} (r : RelV v v') (f : Str) : RelO (List.lookup f [(wWhat, v)]) (if f = "what" then some v' else none) := by
  by_cases hw : f = "what"
  · subst hw
    rw [if_pos rfl]
    have q : List.lookup ("what" : Str) [(wWhat, v)] = some v := by simp [List.lookup]
    rw [q]
    exact r
  · rw [if_neg hw]
    have qw : (f == ("what" : Str)) = false := by simpa using hw
    have q2 : List.lookup f [(wWhat, v)] = none := by simp [List.lookup, qw]
    rw [q2]
    trivial
section
variable {X : Cx} {C D fI cc : Addr} {c : Str}
def tMkE (C : Addr) (ta : TA) : L2.St → Hp → XK → Prop := fun σ H Q => ta σ H fun vs H1 => ∃ v, vs = [v] ∧ ∀ d, H1 d = none → Q (.ref C) (some d) (upd H1 d (.xd [(wWhat, v)]))
theorem pmk_err {a : Expr} {ta : TA} {p pos : Pos} {k : Nat} (B : BaseTxt X.prog X.K X.mg D fI cc) (T : ErrTxt X.K X.mg c C D fI) (hr : Room k X.A) (ha : PA X [a] ta) (hg : Gl X c := by rfl) (hdb : (c == ("__debug__" : Str)) = false := by decide)
    (he : starEach (a :: []) X.env = (false, eval a X.env) :: starEach [] X.env := by rfl) (hpl : (backTo pos (starEach [] X.env)).any (·.1) = false := by rfl) :
    PMk X (.Call (.Name c p) [a] [] pos) (tMkE C ta) := by
  intro pins s σ H Q I h
  refine wpAny_Call_Name_kw (ld_glob I hg T.gC ?_ hdb)
  refine PySem.W.callWith_K (h₀ := X.base) I.ok.mod.kin T.kC (thn (ha.run pos pins s σ H _ I h) fun us s1 hh => ?_) he hpl
  obtain ⟨vs, H1, I1, r1, v, ev, q1⟩ := hh
  subst ev
  refine ⟨I1.kIn, ?_⟩
  cases r1 with
  | cons rv rn =>
    rename_i v' us'
    cases rn
    show wpAny _ _ (call (.ref C) [v']) _ _ _
    have hlim := I1.nolimit
    have hG : s1.heap.Ns mainGlobals X.mg := I1.mod.glob.keeps I1.bk
    obtain ⟨mb, hB0, hmb⟩ := I1.mod.blt
    have hB : s1.heap.Ns builtinsNs mb := hB0.keeps I1.bk
    have hmb' : mb "super" = some (.type "super") := (hmb _ (by decide)).trans (by decide +kernel)
    obtain ⟨hp, g, dr, tk, os⟩ := s1
    refine wpAny_call (err_made B T I1.kIn hG hB hmb' hlim (by have := hr.dp; omega) fun h' tk' e d M => ?_)
    show MkP X pins σ Q (.ref e) ⟨h', g, dr, tk', os⟩
    obtain ⟨oe, fv, hoe, hc, hd, hdat, h1⟩ := M.obj
    have hns := M.ns
    obtain ⟨G', g1, g2⟩ := restrict h' fun b => decide (b ≠ e)
    have gk : ∀ b, b ≠ e → G'.get? b = h'.get? b := fun b hb => g1 b (decide_eq_true hb)
    have ge : G'.get? e = none := g2 e (by simp)
    have old : ∀ b o, hp.get? b = some o → G'.get? b = some o := fun b o q => (gk b (Nat.ne_of_lt (Nat.lt_of_lt_of_le (Heap.lt_size q) M.new))).trans (M.keep b o q)
    have ob : ObjOk X.prog X.w (upd H1 d (.xd [(wWhat, v)])) G' d (.xd [(wWhat, v)]) :=
      ⟨_, hns.at (fun o q => (gk d M.dne).trans q), fun f => relO_what rv f⟩
    have J : Inv X pins σ (upd H1 d (.xd [(wWhat, v)])) ⟨G', g, dr, tk', os⟩ := I1.laid (t' := tk') old M.dbig ob
    refine ⟨e, oe, fv, ⟨G', g, dr, tk', os⟩, _, .ref C, some d, rfl, J, fun b o q => ?_, ge, hoe, ⟨hc, hd⟩, hdat, h1, ?_, rfl, I1.bare, raises_own T.exC T.tyC, q1 d (I1.hok.fresh M.dbig)⟩
    · by_cases hb : b = e
      · have q' : G'.get? b = some o := q
        rw [hb, ge] at q'; cases q'
      · exact (gk b hb).symm.trans q
    · rw [upd_ne (Ne.symm M.dne)]
      exact I1.hok.fresh M.new
def cRaise (c : Str) (e : CE) : CS := fun ρ h => ofR (e ρ h) ρ fun x h1 => .ok (.exn c x) ρ h1
theorem s_raise {Wx : WX} {a : Expr} {ca : CE} {p pos pos2 : Pos} {k : Nat} (hc : X.calm = true) (B : BaseTxt X.prog X.K X.mg D fI cc) (T : ErrTxt X.K X.mg c C D fI) (hr : Room k X.A) (tk : Takes X Wx) (ha : SE X Wx a ca) (hg : Gl X c := by rfl) (hdb : (c == ("__debug__" : Str)) = false := by decide)
    (hs : starEach (a :: []) X.env = (false, eval a X.env) :: starEach [] X.env := by rfl) (hpl : (backTo pos (starEach [] X.env)).any (·.1) = false := by rfl) :
    SS X Wx (.Raise (some (.Call (.Name c p) [a] [] pos)) none pos2) (cRaise c ca) := by
  refine ps_mono (ps_raise hc tk (pmk_err B T hr (s_cons (Wx := Wx) ha s_nil hs) hg hdb hs hpl)) fun D σ H ⟨μ, ρ, h, r, rs, k⟩ => ?_
  refine ⟨μ, ρ, h, r, rs, ?_⟩
  have k2 := kS.bind (rel := RD (wd X)) r rs k
  cases q : ca ρ h with
  | ok d h1 =>
    rw [q] at k2
    show kR (RDs (wd X)) (wd X) Wx μ h H σ _ ((cCons ca cNil) ρ h)
    unfold cCons cNil
    rw [q]
    intro μ1 H1 vs r1 e1 rd
    have rd' : RDs (wd X) μ1 H1 [d] vs := rd
    simp only [RDs] at rd'
    obtain ⟨v, r', rfl, rd1, rfl⟩ := rd'
    refine ⟨v, rfl, fun dd hd => ?_⟩
    obtain ⟨a1, μ2, h2, ea, r2, e2, rd2, k3⟩ := k2 μ1 H1 v r1 e1 rd1
    cases ea
    obtain ⟨r3, e3⟩ := r2.tup (o := .xd [(wWhat, v)]) hd rfl
    exact k3 μ2 _ σ r3 e3 ((rs.ext e2 r).ext e3 r2) C dd v T.gC upd_same (RD.ext e3 r2 d v rd2)
  | exn c2 x h1 =>
    rw [q] at k2
    show kR (RDs (wd X)) (wd X) Wx μ h H σ _ ((cCons ca cNil) ρ h)
    unfold cCons cNil
    rw [q]
    exact k2
  | stuck =>
    rw [q] at k2
    exact k2.elim
end
end Sx

set_option Elab.async false
set_option linter.all false
set_option maxRecDepth 100000
namespace Sx
open PySem PySem.Spec PyProof.Rows L2
open PySem.W PySem.Calls PySem.HandSPX

abbrev Cl := Value × Option Nat × (Addr → Value → Option Addr → TS)
def offD : Option Nat → Ends → Ends
  | none, D => D
  | some i, D => { nx := fun σ' H' => D.nx (σ'.set i none) H', rt := D.rt, bk := fun σ' H' => D.bk (σ'.set i none) H', ct := fun σ' H' => D.ct (σ'.set i none) H' }
def onS : Option Nat → Addr → L2.St → L2.St
  | none, _, σ => σ
  | some i, a, σ => σ.set i (some (.ref a))
def wCl (K : Frag) (Wout : WX) (D : Ends) : List Cl → WX
  | [] => Wout
  | (c, o, ts) :: r => fun cls d σ H => ∃ b, exmOne K cls c = some b ∧ (b = true → ∀ a, H a = none → ts a cls d (offD o D) (onS o a σ) H) ∧ (b = false → wCl K Wout D r cls d σ H)
structure EF (K : Frag) (mg : Str → Option Value) (es : List Str) : Prop where
  xf : ∀ c ∈ es, ∀ C, mg c = some (.ref C) → XfC K C ∧ findIn K (.ref C) wWhat = some none
  ex : ∀ c ∈ es, ∀ c' ∈ ("Refused" : Str) :: es, ∀ C C', mg c = some (.ref C) → mg c' = some (.ref C') → exmOne K (.ref C) (.ref C') = some (decide (c' = c) || decide (c' = ("Refused" : Str)))
def wAt (X : Cx) (a : Addr) (cls : Value) (d : Option Addr) : Wd := ⟨wb X, match cls, d with | .ref C, some dd => some (a, C, dd) | _, _ => none⟩
theorem wAt_is {X : Cx} {a : Addr} {oe : Obj} {cls : Value} {d : Option Addr} {pn : List (Addr × Obj)} (hz : Zc cls d oe) (hf : ∃ vs, oe.data = .fields vs) : wd (X.suite a ((a, oe) :: pn)) = wAt X a cls d := by
  obtain ⟨rfl, rfl⟩ := hz
  obtain ⟨vs, e⟩ := hf
  obtain ⟨c, dd, da, sl⟩ := oe
  have e' : da = .fields vs := e
  subst e'
  show (⟨wb X, exOf false ((a, ⟨c, dd, .fields vs, sl⟩) :: pn)⟩ : Wd) = wAt X a c dd
  unfold exOf wAt
  cases c <;> cases dd <;> rfl
inductive SCl (X : Cx) (es : List Str) : List ExceptHandler → List Cl → List (Str × Option Nat × CS) → Prop
  | nil : SCl X es [] [] []
  | one {x : Str} {C : Addr} {b₀ : Stmt} {suite : List Stmt} {np pos' : Pos} {hds : List ExceptHandler} {l : List Cl} {cs : List (Str × Option Nat × CS)} {cb : CS}
      (hg : Gl X x) (hdb : (x == ("__debug__" : Str)) = false) (hm : X.mg x = some (.ref C)) (he : x ∈ ("Refused" : Str) :: es) (hsu : ∀ a pn, SSs (X.suite a pn) wx0 (b₀ :: suite) cb) (r : SCl X es hds l cs) :
      SCl X es (.ExceptHandler (some (.Name x np)) none (b₀ :: suite) pos' :: hds) ((.ref C, none, fun a cls d => lS (wAt X a cls d) wx0 cb) :: l) ((x, none, cb) :: cs)
  | as {i : Nat} {n : Str} {x : Str} {C : Addr} {b₀ : Stmt} {suite : List Stmt} {np pos' : Pos} {hds : List ExceptHandler} {l : List Cl} {cs : List (Str × Option Nat × CS)} {cb : CS}
      (hN : X.N.Nodup) (hi : X.N[i]? = some n) (hln : X.env.kindOf n = some .local)
      (hg : Gl X x) (hdb : (x == ("__debug__" : Str)) = false) (hm : X.mg x = some (.ref C)) (he : x ∈ ("Refused" : Str) :: es) (hsu : ∀ a pn, SSs (X.suite a pn) wx0 (b₀ :: suite) cb) (r : SCl X es hds l cs) :
      SCl X es (.ExceptHandler (some (.Name x np)) (some n) (b₀ :: suite) pos' :: hds) ((.ref C, some i, fun a cls d => lS (wAt X a cls d) wx0 cb) :: l) ((x, some i, cb) :: cs)
section
variable {X : Cx} {es : List Str} {body : List Stmt} {h₀ : ExceptHandler} {hds : List ExceptHandler} {l : List Cl} {cs : List (Str × Option Nat × CS)} {pos : Pos} {tb : WX → TS} {Wout : WX}
theorem cl_go {pins : List (Addr × Obj)} {D : Ends} {a : Addr} {B : Heap} {sI s' : Shared} {σ' : L2.St} {H' : Hp} {cls : Value} {d : Option Addr} {h3 : Heap}
    (hs : X.stack = X.env :: X.outer) (hf : X.env.frame = some X.env.locals) (tk : Takes X Wout) (ok : X.Ok) (J : Inv X pins σ' H' sI) (nb : ∀ b o, sI.heap.get? b = some o → b ∉ frs X.stack → B.get? b = some o)
    (up : sI.heap.UpToSlots s'.heap) (os : s'.os = sI.os) (ag : AllBare s'.gens) (na : H' a = none) (fl3 : FlyingZ B (X.env :: X.outer) a (Zc cls d) h3) (up3 : s'.heap.UpToSlots h3) {hds : List ExceptHandler} {l : List Cl} {cs : List (Str × Option Nat × CS)}
    (k : SCl X es hds l cs) (w : wCl X.K Wout D l cls d σ' H') : wpAny (model X.prog X.w) X.A (handleBy (.ref a) X.env hds) (SP X pins D) X.xe { s' with heap := h3 } := by
  have seat : ∀ {h : Heap}, FlyingZ B (X.env :: X.outer) a (Zc cls d) h → s'.heap.UpToSlots h → Inv X pins σ' H' { s' with heap := h } ∧
      ∃ oe, Zc cls d oe ∧ (∃ vs, oe.data = .fields vs) ∧ Inv (X.suite a ((a, oe) :: (X.pn ++ pins))) [] σ' H' { s' with heap := h } := fun {h} fl u => by
    have J3 : Inv X pins σ' H' { s' with heap := h } := J.landed nb fl.1 (up.trans u) os ag
    obtain ⟨oe, vs, he, hz, hd⟩ := fl.there
    have nfr : a ∉ frs (X.env :: X.outer) := fun hm => by
      obtain ⟨_, o', e', hnf⟩ := fl.2.2.1.mem hm
      rw [he] at e'; cases e'
      exact hnf _ hd
    exact ⟨J3, oe, hz, ⟨vs, hd⟩, J3.suite he hd na (fun z => nfr (List.mem_filterMap.mpr ⟨X.env, List.mem_cons_self, by rw [hf, z]⟩)) fun hm => by
      obtain ⟨e, he, q⟩ := List.mem_filterMap.mp hm
      exact nfr (List.mem_filterMap.mpr ⟨e, List.mem_cons_of_mem _ he, q⟩)⟩
  have test : ∀ {x : Str} {C : Addr} {np : Pos} {b : Bool} {Q : Bool → Shared → Prop} {E : Value → Shared → Prop}, Gl X x → (x == ("__debug__" : Str)) = false → X.mg x = some (.ref C) → exmOne X.K cls (.ref C) = some b → Q b { s' with heap := h3 } →
      wpAny (model X.prog X.w) (X.A.mark (some (.ref a))) (eval (.Name x np) X.env) (fun v s₁ => wpAny (model X.prog X.w) (X.A.mark (some (.ref a))) (excMatches (.ref a) v) Q E s₁) E { s' with heap := h3 } := fun {x C np b Q E} hg hdb hm hb q => by
    obtain ⟨J3, oe, hz, hd, S3⟩ := seat fl3 up3
    obtain ⟨he, _⟩ := S3.pin (a, oe) (List.mem_append_left _ List.mem_cons_self)
    have LT : PySem.W.Looks (model X.prog X.w) h3 (typeOf (.ref a)) cls := fun A Q E s k q => wpAny_typeOf_ref (k _ _ he) (by rw [hz.1]; exact q)
    exact ld_glob (X := X.suite a ((a, oe) :: (X.pn ++ pins))) S3 hg hm ((PySem.W.exm_one (M := model X.prog X.w) J3.kIn LT hb).here q) hdb
  induction k with
  | nil =>
    refine wpAny_handleBy_nil ?_
    obtain ⟨k1, k2, k3, oe, vs, T, oT, ts', he, hz, hd, h1, hr⟩ := id fl3
    unfold PySem.passOn
    refine wpAny_bind (wpAny_field he hd h1 ?_)
    rw [if_neg (show ¬ ((Value.ref T == Value.none) = true) from by simp)]
    have fin : wpAny (model X.prog X.w) X.A (setFlight (.ref a) X.env.frame) (fun _ s4 => wpAny (model X.prog X.w) X.A (throw (.ref a) : Sem Flow) (SP X pins D) X.xe s4) X.xe { s' with heap := h3 } := by
      rw [hf]
      refine HandSPX.setFlight_upZ fl3 fun h4 hh4 up4 => wpAny_throw (tk _ _ ?_)
      exact ⟨a, B, sI, pins, σ', H', cls, d, rfl, J, nb, (up.trans up3).trans up4, .inr (.inr (by rw [hs]; exact hh4)), na, os, ag, w⟩
    first
      | exact wpAny_bind (wpAny_pure (wpAny_bind fin))
      | exact wpAny_bind fin
  | one hg hdb hm he hsu r ih =>
    obtain ⟨b, hb, hyes, hno⟩ := w
    refine wpAny_handleBy_cons (codeAny_handlers_test ?_) (by intro q; cases q)
    refine test hg hdb hm hb ?_
    cases b with
    | false => exact ih (hno rfl)
    | true =>
      refine codeAny_handlers_suite (HandSPX.lands_againZ fl3 fun h4 fl4 up4 => ?_)
      obtain ⟨J4, oe, hz, hd, S4⟩ := seat fl4 (up3.trans up4)
      have hy := hyes rfl a na
      refine wpAny_mono ((hsu a ((a, oe) :: (X.pn ++ pins))).run [] _ _ H' _ S4 (by rw [wAt_is hz hd]; exact hy)) (fun f s6 hsp => ?_) (fun _ _ z => False.elim z)
      cases f with
      | ret u =>
        obtain ⟨v6, σ6, H6, S6, r6, q6⟩ := hsp
        exact ⟨_, _, _, S6.unsuite ok, r6, q6⟩
      | _ =>
        obtain ⟨σ6, H6, S6, q6⟩ := hsp
        exact ⟨_, _, S6.unsuite ok, q6⟩
  | @as i n x C b₀ suite np pos' hds2 l2 cs2 cb hN hi hln hg hdb hm he hsu r ih =>
    obtain ⟨b, hb, hyes, hno⟩ := w
    refine wpAny_handleBy_cons (codeAny_handlers_test ?_) (by intro q; cases q)
    refine test hg hdb hm hb ?_
    cases b with
    | false => exact ih (hno rfl)
    | true =>
      refine codeAny_handlers_suite_as (HandSPX.lands_againZ fl3 fun h4 fl4 up4 => ?_)
      obtain ⟨J4, oe, hz, hd, S4⟩ := seat fl4 (up3.trans up4)
      have hy := hyes rfl a na
      refine store_ok (X := X.suite a ((a, oe) :: (X.pn ++ pins))) (v := .ref a) S4 hN hi (.inl hln) rfl (fun s5 S5 => ?_) (.inr hln)
      refine wpAny_mono ((hsu a ((a, oe) :: (X.pn ++ pins))).run [] s5 _ H' _ S5 (by rw [wAt_is hz hd]; exact hy)) (fun f s6 hsp => ?_) (fun _ _ z => False.elim z)
      have fin : ∀ {σ6 : L2.St} {H6 : Hp} {Q : Shared → Prop}, Inv (X.suite a ((a, oe) :: (X.pn ++ pins))) [] σ6 H6 s6 → (∀ s7, Inv X pins (σ6.set i none) H6 s7 → Q s7) →
          wpAny (model X.prog X.w) X.A (do bindName X.env n .none; unbindBehindTheSuite X.env n pos') (fun _ s7 => Q s7) X.xe s6 := fun {σ6 H6 Q} S6 hq => gone_ok (S6.unsuite ok) hN hi hln hq
      cases f with
      | ret u =>
        obtain ⟨v6, σ6, H6, S6, r6, q6⟩ := hsp
        exact fin S6 fun s7 J7 => ⟨_, _, _, J7, r6, q6⟩
      | _ =>
        obtain ⟨σ6, H6, S6, q6⟩ := hsp
        exact fin S6 fun s7 J7 => ⟨_, _, J7, q6⟩
theorem ps_try_cl (hs : X.stack = X.env :: X.outer) (hf : X.env.frame = some X.env.locals) (tk : Takes X Wout)
    (hb : ∀ (W : WX) (pn : List (Addr × Obj)) (xe : Value → Shared → Prop), Takes (X.tr pn xe) W → PassesOwn (model X.prog X.w) X.A X.env xe → PSs (X.tr pn xe) body (tb W))
    (hh : SCl X es (h₀ :: hds) l cs) : PS X (.Try body (h₀ :: hds) [] [] pos) (fun D σ H => tb (wCl X.K Wout D l) D σ H) := by
  refine ⟨fun pins s σ H D I h => ?_⟩
  have ok := I.ok
  have hfr : X.A.frames = some (X.env :: X.outer) := by rw [ok.frames, hs]
  refine wpAny_Try_except ?_
  refine wpAny_mono ((hb (wCl X.K Wout D l) (X.pn ++ pins) (fun e s₁ => wpAny (model X.prog X.w) X.A (noteFrame e X.env) (fun _ s₂ => wpAny (model X.prog X.w) X.A (setFlight e none) (fun _ s₃ =>
    wpAny (model X.prog X.w) X.A (handleBy e X.env (h₀ :: hds)) (SP X pins D) X.xe s₃) X.xe s₂) X.xe s₁) (fun u s' xx => ?_) PassesOwn.looking).run [] s σ H D (I.toTry _) h) (fun f s1 hsp => ?_) (fun e s1 he => he)
  · obtain ⟨a, B, sI, pins', σ', H', cls, d, rfl, J', nb, up, sky, na, os, ag, w⟩ := xx
    have sky' : Sky B (X.env :: X.outer) a (Zc cls d) X.env.locals s'.heap := by rw [← hs]; exact sky
    show wpAny (model X.prog X.w) X.A (noteFrame (.ref a) X.env) _ _ _
    exact Sky.land Zc.steady hfr hf sky' fun h3 fl3 up3 => cl_go hs hf tk ok (J'.ofTry ok) nb up os ag na fl3 up3 hh w
  · cases f with
    | ret u =>
      obtain ⟨v, σ', H', J', r, q⟩ := hsp
      exact ⟨v, σ', H', J'.ofTry ok, r, q⟩
    | next =>
      obtain ⟨σ', H', J', q⟩ := hsp
      exact wpAny_execs_nil ⟨σ', H', J'.ofTry ok, q⟩
    | _ =>
      obtain ⟨σ', H', J', q⟩ := hsp
      exact ⟨σ', H', J'.ofTry ok, q⟩
end
end Sx

set_option Elab.async false
set_option linter.all false
set_option maxRecDepth 100000
namespace Sx
open PySem PySem.Spec PyProof.Rows L2
open PySem.W PySem.Calls PySem.HandSPX

def catches (c c' : Str) : Bool := decide (c' = c) || decide (c' = ("Refused" : Str))
def unN : Option Nat → Rho → Rho
  | none, ρ => ρ
  | some i, ρ => ρ.set i none
def setN : Option Nat → D → Rho → Rho
  | none, _, ρ => ρ
  | some i, d, ρ => ρ.set i (some d)
def offS (o : Option Nat) : ResS → ResS
  | .ok (.exn _ _) _ _ => .stuck
  | .ok f ρ h => if noErr (unN o ρ) then .ok f (unN o ρ) h else .stuck
  | .stuck => .stuck
def cHds (c : Str) (x : D) (ρ : Rho) (h : Hc) : List (Str × Option Nat × CS) → ResS
  | [] => .ok (.exn c x) ρ h
  | (c', o, b) :: r => if catches c c' then offS o (b (setN o (.err c x) ρ) h) else cHds c x ρ h r
def cTry (es : List Str) (b : CS) (hds : List (Str × Option Nat × CS)) : CS := fun ρ h => match b ρ h with
  | .ok (.exn c x) ρ1 h1 => if es.contains c then cHds c x ρ1 h1 hds else .stuck
  | r => r
theorem RS.none' {W : Wd} {μ : List Addr} {H : Hp} {ρ : Rho} {σ : L2.St} (rs : RS W μ H ρ σ) (e : W.ex = none) {W' : Wd} (q : W.toWb = W'.toWb) : RS W' μ H ρ σ := by
  refine ⟨rs.1, fun i d z => ?_⟩
  obtain ⟨v, e1, e2⟩ := rs.2 i d z
  refine ⟨v, e1, .inl ?_⟩
  rcases e2 with e2 | ⟨c, y, rfl, a, C, dd, u, e3, _⟩
  · rw [← q]; exact e2
  · rw [e] at e3; cases e3
theorem RS.unN {W : Wd} {μ : List Addr} {H : Hp} {ρ : Rho} {σ : L2.St} (rs : RS W μ H ρ σ) (i : Nat) : RS W μ H (ρ.set i none) (σ.set i none) := by
  refine ⟨by simp [rs.1], fun j d z => ?_⟩
  by_cases hj : i = j
  · subst hj
    by_cases hi : i < ρ.length
    · rw [List.getElem?_set_self hi] at z; cases z
    · rw [List.getElem?_eq_none (by simp; omega)] at z; cases z
  · rw [List.getElem?_set_ne hj] at z
    obtain ⟨v, e1, e2⟩ := rs.2 j d z
    exact ⟨v, by rw [List.getElem?_set_ne hj]; exact e1, e2⟩
theorem off_ok {W : Wd} {Wx : WX} {μ : List Addr} {h : Hc} {H : Hp} {E : Ends} {o : Option Nat} {f : Fl} {ρ2 : Rho} {h2 : Hc} (q : kS W Wx μ h H E (offS o (.ok f ρ2 h2))) :
    noErr (unN o ρ2) = true ∧ kS W Wx μ h H E (.ok f (unN o ρ2) h2) ∧ ∀ c x, f ≠ .exn c x := by
  cases f with
  | exn _ _ => exact q.elim
  | _ =>
    simp only [offS] at q
    by_cases hn : noErr (unN o ρ2) = true
    · rw [if_pos hn] at q
      exact ⟨hn, q, fun _ _ z => by cases z⟩
    · rw [if_neg hn] at q
      exact q.elim
section
variable {X : Cx} {Wx : WX} {es : List Str}
theorem hds_ok (E : EF X.K X.mg es) (hc : X.calm = true) {hds : List ExceptHandler} {l : List Cl} {cs : List (Str × Option Nat × CS)} (k : SCl X es hds l cs) {μ : List Addr} {H : Hp} {D : Ends} {c : Str} {x : Sx.D} {ρ : Rho} {h : Hc} {σ : L2.St} {C dd : Addr} {v : V}
    (hx : c ∈ es) (r : R (wb X) μ h H) (rs : RS (wd X) μ H ρ σ) (hC : X.mg c = some (.ref C)) (hd : H dd = some (.xd [(wWhat, v)])) (rd : RD (wb X) μ H x v) (q : kS (wd X) Wx μ h H D (cHds c x ρ h cs)) : wCl X.K Wx D l (.ref C) (some dd) σ H := by
  have hw : (wd X).ex = none := by show exOf X.calm X.pn = none; rw [hc]; rfl
  induction k with
  | nil => exact q μ H σ r .refl rs C dd v hC hd rd
  | @one x' C' b₀ suite np pos' hds2 l2 cs2 cb hg hdb hm he hsu r2 ih =>
    refine ⟨_, E.ex c hx _ he _ _ hC hm, fun hb a na => ?_, fun hb => ?_⟩
    · have hb' : catches c _ = true := hb
      rw [cHds, if_pos hb'] at q
      refine ⟨μ, ρ, h, r, rs.none' hw rfl, ?_⟩
      revert q
      simp only [setN]
      cases e : cb ρ h with
      | stuck => exact fun q => q
      | ok f ρ2 h2 =>
        intro q μ' H' σ' r' e' rs'
        obtain ⟨hn, q, hf⟩ := off_ok q
        have q2 := q μ' H' σ' r' e' (rs'.world rfl hn)
        cases f with
        | exn c x => exact absurd rfl (hf c x)
        | _ => exact q2
    · have hb' : catches c _ = false := hb
      rw [cHds, hb', if_neg Bool.false_ne_true] at q
      exact ih q
  | @as i n x' C' b₀ suite np pos' hds2 l2 cs2 cb hN hi hln hg hdb hm he hsu r2 ih =>
    refine ⟨_, E.ex c hx _ he _ _ hC hm, fun hb a na => ?_, fun hb => ?_⟩
    · have hb' : catches c x' = true := hb
      rw [cHds, if_pos hb'] at q
      obtain ⟨x1, x2⟩ := E.xf c hx C hC
      have rx : RS (wAt X a (.ref C) (some dd)) μ H (ρ.set i (some (.err c x))) (σ.set i (some (.ref a))) := by
        have r0 : RS (wAt X a (.ref C) (some dd)) μ H ρ σ := rs.none' hw rfl
        refine ⟨by simp [r0.1], fun j e q => ?_⟩
        by_cases hj : i = j
        · subst hj
          by_cases hi : i < ρ.length
          · rw [List.getElem?_set_self hi] at q
            cases q
            exact ⟨_, by rw [List.getElem?_set_self (by rw [← r0.1]; exact hi)], .inr ⟨c, x, rfl, a, C, dd, v, rfl, rfl, hC, hd, rd, x1, x2⟩⟩
          · rw [List.getElem?_eq_none (by simp; omega)] at q; cases q
        · rw [List.getElem?_set_ne hj] at q
          obtain ⟨w, e1, e2⟩ := r0.2 j e q
          exact ⟨w, by rw [List.getElem?_set_ne hj]; exact e1, e2⟩
      refine ⟨μ, _, h, r, rx, ?_⟩
      revert q
      simp only [setN]
      cases e : cb (ρ.set i (some (.err c x))) h with
      | stuck => exact fun q => q
      | ok f ρ2 h2 =>
        intro q μ' H' σ' r' e' rs'
        obtain ⟨hn, q, hf⟩ := off_ok q
        have q2 := q μ' H' _ r' e' ((rs'.unN i).world rfl hn)
        cases f with
        | exn c x => exact absurd rfl (hf c x)
        | _ => exact q2
    · have hb' : catches c x' = false := hb
      rw [cHds, hb', if_neg Bool.false_ne_true] at q
      exact ih q
theorem s_try {body : List Stmt} {h₀ : ExceptHandler} {hds : List ExceptHandler} {l : List Cl} {cs : List (Str × Option Nat × CS)} {pos : Pos} {cb : CS} (hc : X.calm = true) (E : EF X.K X.mg es) (tk : Takes X Wx)
    (hb : ∀ (W : WX) (pn : List (Addr × Obj)) (xe : Value → Shared → Prop), Takes (X.tr pn xe) W → PassesOwn (model X.prog X.w) X.A X.env xe → SSs (X.tr pn xe) W body cb)
    (hh : SCl X es (h₀ :: hds) l cs) (hs : X.stack = X.env :: X.outer := by rfl) (hf : X.env.frame = some X.env.locals := by rfl) : SS X Wx (.Try body (h₀ :: hds) [] [] pos) (cTry es cb cs) := by
  have hw : (wd X) = ⟨wb X, none⟩ := by show (⟨wb X, exOf X.calm X.pn⟩ : Wd) = _; rw [hc]; rfl
  refine ps_mono (ps_try_cl (Wout := Wx) (tb := fun W => lS (wd X) W cb) hs hf tk (fun W pn xe t p => by rw [show wd X = wd (X.tr pn xe) from (wd_of (X := X) (Y := X.tr pn xe) hc rfl rfl).symm]; exact hb W pn xe t p) hh) fun D σ H ⟨μ, ρ, h, r, rs, k⟩ => ?_
  refine ⟨μ, ρ, h, r, rs, ?_⟩
  revert k
  unfold cTry
  cases e : cb ρ h with
  | stuck => exact fun k => k
  | ok f ρ1 h1 =>
    cases f with
    | exn c x =>
      simp only
      split
      · rename_i hx
        intro k μ' H' σ' r' e' rs' C dd v hC hd rd
        exact hds_ok E hc hh (by simpa using hx) r' rs' hC hd rd (k.shift r e')
      · exact fun k => k.elim
    | _ => exact fun k => k
def cWhat (i : Nat) : CE := fun ρ h => match ρ[i]? with | some (some (.err _ x)) => .ok x h | _ => .stuck
theorem s_what {i : Nat} {n : Str} {np pos : Pos} (hN : X.N[i]? = some n := by rfl) (hv : Vis X.env.scope n := by first | exact Or.inl rfl | exact Or.inr (Or.inl rfl) | exact Or.inr (Or.inr rfl)) (hd : (n == ("__debug__" : Str)) = false := by decide) (hcd : (n == ("__classdict__" : Str)) = false := by decide)
    (hcalm : X.calm = false := by rfl)
    (hb : attributeBase (.Name n np) wWhat X.env (eval (.Name n np) X.env) = eval (.Name n np) X.env := by rfl) : SE X Wx (.Attribute (.Name n np) wWhat pos) (cWhat i) := by
  refine ⟨fun pins s σ H Q I ⟨μ, ρ, h, r, rs, k⟩ => ?_⟩
  unfold cWhat at k
  split at k
  · rename_i c x e
    obtain ⟨v, e1, e2⟩ := rs.2 i _ e
    rcases e2 with e2 | ⟨c', y, ec, a, C, dd, u, e3, rfl, hC, hdd, rd, T, hno⟩
    · simp only [RD] at e2
    · cases ec
      have e3' : exOf false X.pn = some (a, C, dd) := by rw [← hcalm]; exact e3
      obtain ⟨oe, pn', hpn, hcl, hdi, vs, hda⟩ : ∃ oe pn', X.pn = (a, oe) :: pn' ∧ oe.cls = .ref C ∧ oe.dict = some dd ∧ ∃ vs, oe.data = .fields vs := by
        revert e3'
        cases X.pn with
        | nil => intro z; cases z
        | cons p pn' =>
          obtain ⟨a', oe⟩ := p
          unfold exOf
          simp only
          split
          · rename_i h1 h2 h3
            intro z; cases z
            exact ⟨oe, pn', rfl, h1, h2, _, h3⟩
          · intro z; cases z
      refine attr_of hb (thn ((pe_var hN hv hd hcd).run pins s σ H (fun w H1 => w = .ref a ∧ H1 = H) I ⟨_, e1, rfl, rfl⟩) fun u' s1 hh => ?_)
      obtain ⟨x1, H1, I1, rx, ex, rfl⟩ := hh
      subst ex
      obtain rfl : u' = Value.ref a := rx
      obtain ⟨ha, _⟩ := I1.pin (a, oe) (List.mem_append_left _ (by rw [hpn]; exact List.mem_cons_self))
      have hx : ObjOk X.prog X.w H1 s1.heap dd (.xd [(wWhat, u)]) := I1.hok dd _ hdd
      obtain ⟨mA, hns, hr⟩ := hx
      obtain ⟨od, ho, hl⟩ := lookIn_ns hns
      have l : List.lookup wWhat [(wWhat, u)] = some u := by simp [List.lookup]
      obtain ⟨u2, hu, ru⟩ := RelO.some_of (v := u) (o := mA wWhat) (by rw [← l]; exact hr wWhat)
      have J : PySem.W.InstAt s1.heap a oe C (some od) := ⟨ha, hcl, by unfold PySem.W.notCls; rw [hda] <;> rfl, by rw [hdi]; exact ho⟩
      exact HandSPX.exc_get I1.kIn J T.ga T.gg T.exC (PySem.W.findObj_own T.hdC hno rfl (by rw [hl, hu])) (handed_of ru) ⟨u, H1, I1.tok _, ru, k μ H1 u r .refl rd⟩
  · exact k.elim
end
end Sx

set_option Elab.async false
set_option linter.all false
set_option maxRecDepth 100000
namespace Sx
open PySem PySem.Spec PyProof.Rows L2
open PySem.Calls

set_option maxHeartbeats 1000000 in
theorem new_enumT {v : Value} {o : Obj} {H : Heap → Prop} (B : Begins v o H) :
    Meets (Builtin.«enumerate.__new__» ⟨[.type "enumerate", v], []⟩) (fun _ R s => H s.heap ∧
      R (.ok (.ret (.ref (s.heap.push o).objs.size))) { s with heap := (s.heap.push o).push { cls := .type "enumerate", data := .fields #[.none, .bool false, .ref s.heap.objs.size, rawInt 0, .none, .none] } }) :=
  .of_wp fun prog w A R s h => by
    obtain ⟨hp, g, d, tk, os⟩ := s; obtain ⟨h1, h⟩ := h
    have hsub := sub_enumerate
    have q1 : ∀ {A' : Around} {E : Value → Shared → Prop} {Q : Value → Shared → Prop}, Q (.ref hp.objs.size) ⟨hp.push o, g, d, tk, os⟩ → wpAny (model prog w) A' (pyIter v) Q E ⟨hp, g, d, tk, os⟩ :=
      fun q => B.iter prog w _ _ ⟨hp, g, d, tk, os⟩ _ h1 q
    wp_walk using q1
    refine wpAny_stack_any fun st => wpAny_pure ?_
    split
    · rename_i c _ _ _ _ _
      cases (c == Value.type "enumerate")
      · wp_walk using q1
        exact ⟨_, rfl, h⟩
      · wp_walk using q1
        exact ⟨_, rfl, h⟩
    · wp_walk using q1
      exact ⟨_, rfl, h⟩
section
variable {prog : Program} {w : World} {A : Around} {E : Value → Shared → Prop} {s : Shared}
theorem call_enumT {v : Value} {o : Obj} {H : Heap → Prop} {Q : Value → Shared → Prop} (B : Begins v o H) (h1 : H s.heap)
    (h : ∀ h', IsEnum h' (s.heap.objs.size + 1) s.heap.objs.size 0 .none → h'.get? s.heap.objs.size = some o →
      (∀ b o, s.heap.get? b = some o → h'.get? b = some o) → Q (.ref (s.heap.objs.size + 1)) { s with heap := h' }) :
    wpAny (model prog w) A (call (.type "enumerate") [v]) Q E s := by
  refine callType_new F.called_enumerate (by decide) (F.typeCall_enumerate_1 _) (F.newCall_enumerate_1 _) (fun obj => F.args_object_init_2 obj _) F.entry_enumerate_new (new_enumT B) ⟨h1, ?_⟩
  have hz : (s.heap.push o).objs.size = s.heap.objs.size + 1 := Heap.size_push ..
  show _ ∧ _
  rw [hz]
  have he : IsEnum ((s.heap.push o).push { cls := .type "enumerate", data := .fields #[.none, .bool false, .ref s.heap.objs.size, rawInt 0, .none, .none] }) (s.heap.objs.size + 1) s.heap.objs.size 0 .none := by
    have := Heap.get?_push_size (s.heap.push o) (o := { cls := .type "enumerate", data := .fields #[.none, .bool false, .ref s.heap.objs.size, rawInt 0, .none, .none] }) rfl
    rw [hz] at this; exact this
  exact ⟨⟨_, he, rfl⟩, h _ he (Heap.get?_push_of_some _ (Heap.get?_push_size _ B.free)) fun b o x => Heap.get?_push_of_some _ (Heap.get?_push_of_some _ x)⟩
end
def IteT (K : PySem.W.Frag) (a : Addr) : It :=
  ⟨fun i H => ∃ (xs : List V) (x : V), SqT K H a xs ∧ xs[i]? = some x, fun i H v H' => ∃ T x, v = .ref T ∧ H T = none ∧ H' = upd H T (.tup [.int (i : Nat), x]) ∧ ∀ xs, SqT K H a xs → xs[i]? = some x, fun i H => ∃ xs : List V, SqT K H a xs ∧ xs.length ≤ i⟩
theorem turn_enumT {P : Program} {w : World} {K : PySem.W.Frag} {elts : List Expr} {kk : Nat} {tpos : Pos} (a e it : Addr) (ea : e ≠ a) (ia : it ≠ a) :
    Turn P w K (.Tuple elts kk tpos) (IteT K a) [e, it] e (fun i h => (∃ old, IsEnum h e it ((i : Nat) : Int) old) ∧ h.IsTupleIter it a i ∧ e ≠ it) where
  mem := by simp
  obj := fun i h st b hb => by
    obtain ⟨⟨old, he⟩, ⟨o, ho, hc, hd⟩, _⟩ := st
    have e' : b = e ∨ b = it := by simpa using hb
    rcases e' with z | z
    · rw [z]; exact ⟨_, he, fun v q => nomatch q⟩
    · rw [z]; exact ⟨o, ho, fun v q => by rw [hd] at q; cases q⟩
  keep := fun i h h' st k => let ⟨⟨old, he⟩, hi, hne⟩ := st; ⟨⟨old, k e (by simp) _ he⟩, hi.at fun o q => k it (by simp) o q, hne⟩
  item := by
    intro X hP hw hK hc i pins s σ H E I hf st hg
    subst hP hw hK
    obtain ⟨⟨old, he⟩, hit, hne⟩ := st
    obtain ⟨xs, x, hq, hx⟩ := hg
    obtain ⟨its, rv, p, hz⟩ := I.tuple hq
    obtain ⟨u, hu, ru⟩ := rv.get hx
    have hel : e < s.heap.objs.size := Heap.lt_size he
    have hil : it < s.heap.objs.size := by obtain ⟨_, q, _⟩ := hit; exact Heap.lt_size q
    have p' : s.heap.IsTuple a its.toArray := p
    have hlt : i < its.toArray.size := by
      have := (List.getElem?_eq_some_iff.mp hu).1
      simpa using this
    refine wpAny_pyNext_enum_itemD (Draws.tuple (A := X.A.in1) (I.ok.hd hc) it a (Ne.symm ia) its.toArray) he ⟨hit, p'⟩ hlt hne (by simp [hne, ea]) fun u' h' tk hu' ho hst' hT hsz hk => ?_
    have eu : u' = u := by
      have q : its[i]? = some u' := by simpa using hu'
      rw [hu] at q; cases q; rfl
    subst eu
    refine ⟨_, rfl, wpAny_letOwnedTupleGo_enum (s := { s with heap := h', toks := tk + 1 }) ho fun h'' he' sb => ?_⟩
    have hT2 : h''.get? s.heap.objs.size = some { cls := .type "tuple", data := .seq #[.int i tk, u'] } := (sb.2 _ (Nat.ne_of_gt hel)).trans hT
    have new : ObjOk X.prog X.w (upd H s.heap.objs.size (.tup [.int (i : Nat), x])) h'' s.heap.objs.size (.tup [.int (i : Nat), x]) :=
      ⟨by show 2 ≤ sizeLine; decide, [.int i tk, u'], .cons ⟨_, rfl⟩ (.cons ru .nil), ⟨_, hT2, rfl, _, rfl⟩⟩
    have I1 : Inv X pins σ (upd H s.heap.objs.size (.tup [.int (i : Nat), x])) { s with heap := h'', toks := tk + 1 } :=
      I.turnedNew (ch := [e, it]) (fun b ob hb q => (sb.2 b (fun z => hb (by simp [z]))).trans (hk b ob (fun z => hb (by simp [z])) (fun z => hb (by simp [z])) q)) hf (Nat.le_refl _) new
    refine ⟨.ref s.heap.objs.size, _, I1, rfl, ⟨_, x, rfl, I.hok.fresh (Nat.le_refl _), rfl, fun ys hy => by rw [I.tuple_inj hy hq]; exact hx⟩, ⟨⟨u', ?_⟩, hst'.1.at fun o q => (sb.2 it (Ne.symm hne)).trans q, hne⟩, fun b hb => ?_⟩
    · have e1 : ((i + 1 : Nat) : Int) = (i : Int) + 1 := by omega
      rw [e1]; exact he'
    · have hb' : b < s.heap.objs.size := by
        have e' : b = e ∨ b = it := by simpa using hb
        rcases e' with z | z
        · rw [z]; exact hel
        · rw [z]; exact hil
      rw [upd_ne (Nat.ne_of_lt hb')]
      exact (hf b hb).1
  done := by
    intro X hP hw hK hc i pins s σ H E I hf st hg
    subst hP hw hK
    obtain ⟨⟨old, he⟩, hit, hne⟩ := st
    obtain ⟨xs, hq, hx⟩ := hg
    obtain ⟨its, rv, p, hz⟩ := I.tuple hq
    obtain ⟨f0, f1, f2, f3, f4, f5⟩ := hf it (by simp)
    have hl := rv.length
    have p' : s.heap.IsTuple a its.toArray := p
    have hT : s.TypeIs (.ref e) "enumerate" := ⟨_, he, rfl⟩
    unfold pyNext
    refine wpAny_bind (wpAny_attempt (wpAny_callSpecial?_slot (name := Str.ofString "__next__") hT F.slot_enumerate_next
      (wpAny_call_entry F.slot_enumerate_next hT F.entry_enumerate_next ?_ (F.args_enumerate_next_1 _))))
    show wpAny _ _ (field (.ref e) 2 >>= _) _ _ _
    refine wpAny_bind (wpAny_field he rfl (x := .ref it) rfl ?_)
    refine wpAny_bind (wpAny_nextOf_tuple_end (I.ok.hd hc) hit p' (by simp; omega) fun h' x he' hx' => ?_)
    obtain ⟨o, ho, hc'⟩ := hx'
    refine wpAny_bind (wpAny_isInstance (T := "StopIteration") (b := true) ⟨o, ho, hc'⟩ isSubtype_stop ?_)
    exact wpAny_pure ⟨rfl, I.turned (t' := s.toks) (fun b o hb q => he' b o hb q) f0 f1 f3 f4 f5⟩
  self := fun A i s Q E st h => let ⟨⟨_, he⟩, _⟩ := st; wpAny_pyIter_enum he h
def iEnA (K : PySem.W.Frag) (ta : TA) : TI := fun σ H R => ta σ H fun vs H1 => ∃ a xs, vs = [.ref a] ∧ ((SqL K H1 a xs ∧ R (Ite K a) H1) ∨ (SqT K H1 a xs ∧ R (IteT K a) H1))
theorem pi_enA {X : Cx} {e : Expr} {ta : TA} {p pos tpos : Pos} {elts : List Expr} {kk : Nat} (hg : Gl X "enumerate") (hm : X.mg "enumerate" = none) (ha : PA X [e] ta) (hs : starEach [e] X.env = [(false, eval e X.env)] := by rfl) :
    PI X (.Tuple elts kk tpos) (.Call (.Name "enumerate" p) [e] [] pos) (iEnA X.K ta) := by
  refine ⟨fun pins s σ H R I h => ?_⟩
  refine Call_ (ld_blt I hg hm boot_enumerate (PyProof.Rows.callWith_type1 (thn (ha.run pos pins s σ H _ I h) fun us s1 ⟨vs, H1, I1, r1, q1⟩ => ?_) hs rfl))
  obtain ⟨a, xs, rfl, q⟩ := q1
  cases r1 with
  | cons r rr =>
    cases rr
    cases r
    have fp : ∀ b ∈ [s1.heap.objs.size + 1, s1.heap.objs.size], FpOk X pins H1 b := fun b hb => by
      have e' : b = s1.heap.objs.size + 1 ∨ b = s1.heap.objs.size := by simpa using hb
      have hle : s1.heap.objs.size ≤ b := by
        rcases e' with z | z
        · rw [z]; exact Nat.le_add_right _ _
        · rw [z]; exact Nat.le_refl _
      exact I1.fpOk hle (I1.hok.fresh hle)
    rcases q with ⟨hq, q⟩ | ⟨hq, q⟩
    · obtain ⟨its, rv, p', hz⟩ := I1.list hq
      refine call_enumerate_list p'.isList fun h' he hit hsz hk => wpAny_pyIter_enum he ?_
      exact ⟨s1.heap.objs.size + 1, [s1.heap.objs.size + 1, s1.heap.objs.size], _, _, H1, rfl, I1.kept (t' := s1.toks) hk, turn_enum a (s1.heap.objs.size + 1) s1.heap.objs.size, ⟨⟨.none, he⟩, hit, Nat.succ_ne_self _⟩, fp, q⟩
    · obtain ⟨its, rv, p', hz⟩ := I1.tuple hq
      obtain ⟨oa, ha', _⟩ := id p'
      have hlt := Heap.lt_size ha'
      refine call_enumT (begins_tuple a its.toArray) (show s1.heap.IsTuple a its.toArray from p') fun h' he hit hk => wpAny_pyIter_enum he ?_
      exact ⟨s1.heap.objs.size + 1, [s1.heap.objs.size + 1, s1.heap.objs.size], _, _, H1, rfl, I1.kept (t' := s1.toks) hk, turn_enumT a (s1.heap.objs.size + 1) s1.heap.objs.size (Nat.ne_of_gt (Nat.lt_succ_of_lt hlt)) (Nat.ne_of_gt hlt), ⟨⟨.none, he⟩, ⟨_, hit, rfl, rfl⟩, Nat.succ_ne_self _⟩, fp, q⟩
def numb : Nat → List D → List D
  | _, [] => []
  | n, d :: r => .tup [.int (n : Int), d] :: numb (n + 1) r
theorem numb_get : ∀ (l : List D) (n i : Nat), (numb n l)[i]? = (l[i]?).map fun d => .tup [.int ((n + i : Nat) : Int), d]
  | [], n, i => by simp [numb]
  | d :: r, n, 0 => by simp [numb]
  | d :: r, n, i + 1 => by
    simp only [numb, List.getElem?_cons_succ]
    rw [numb_get r (n + 1) i]
    have e : n + 1 + i = n + (i + 1) := by omega
    rw [e]
theorem numb_len : ∀ (l : List D) (n : Nat), (numb n l).length = l.length
  | [], _ => rfl
  | d :: r, n => by simp [numb, numb_len r]
def cItE (a : CE) : CI := fun ρ h => (a ρ h).bind fun d h1 => match seqL d h1 with | some p => .ok (numb 0 p.1, p.2) h1 | none => .stuck
section
variable {W : Wd} {μ : List Addr} {h : Hc} {H : Hp}
theorem pairW {μ : List Addr} {h : Hc} {H : Hp} {W : Wb} (x : R W μ h H) {T : Addr} (hT : H T = none) {d e : D} {v w : V} (r1 : RD W μ H d v) (r2 : RD W μ H e w) :
    R W μ h (upd H T (.tup [v, w])) ∧ Ext μ h H μ h (upd H T (.tup [v, w])) ∧ ∃ a vs ds, D.tup [d, e] = .tup ds ∧ V.ref T = .ref a ∧ SqT W.K (upd H T (.tup [v, w])) a vs ∧ RDs W μ (upd H T (.tup [v, w])) ds vs := by
  obtain ⟨a, b⟩ := x.tup (o := .tup [v, w]) hT rfl
  exact ⟨a, b, T, _, _, rfl, rfl, .inl (.inl upd_same), RDs.ext b x _ _ (.cons r1 (.cons r2 .nil))⟩
theorem itEnum {K : PySem.W.Frag} (hK : W.K = K) (x : R W μ h H) {d : D} {v : V} {p : List D × List Nat} (r : RD W μ H d v) (e : seqL d h = some p) :
    ∃ a xs, v = .ref a ∧ ((SqL K H a xs ∧ ItOk W (Ite K a) true (numb 0 p.1) μ (lckL p.2 h) H) ∨ (SqT K H a xs ∧ ItOk W (IteT K a) true (numb 0 p.1) μ (lckL p.2 h) H)) := by
  subst hK
  have fin : ∀ {ds : List D} {vs : List V} {μ' : List Addr} {h' : Hc} {H' H'' : Hp} {i : Nat} {T : Addr} {y : V}, R W μ' h' H' → RDs W μ' H' ds vs → H' T = none → H'' = upd H' T (.tup [.int (i : Nat), y]) → vs[i]? = some y →
      ∃ d, (numb 0 ds)[i]? = some d ∧ R W μ' h' H'' ∧ Ext μ' h' H' μ' h' H'' ∧ RDw W μ' H'' d (.ref T) := fun {ds vs μ' h' H' H'' i T y} rr rd hT e1 e2 => by
    subst e1
    obtain ⟨d, q1, q2⟩ := rd.getV e2
    obtain ⟨a, b, c⟩ := pairW rr hT (d := .int ((0 + i : Nat) : Int)) (v := .int (i : Nat)) (by simp only [RD]; congr 1; omega) q2
    exact ⟨_, by rw [numb_get, q1]; rfl, a, b, c⟩
  cases d with
  | tup ds =>
    injection e with e; subst e
    simp only [RD] at r
    obtain ⟨a, vs, rfl, t, r1⟩ := r
    refine ⟨a, vs, rfl, .inr ⟨t.seq, ?_⟩⟩
    have w : ∀ {μ' h' H'}, Ext μ (lckL [] h) H μ' h' H' → SqT W.K H' a vs ∧ RDs W μ' H' ds vs := fun E => ⟨E.sqT x t.seq, RDs.ext E x ds vs r1⟩
    refine ⟨fun i μ' h' H' hi _ E => ?_, fun μ' h' H' _ E => ?_, fun i μ' h' H' y H'' hi rr E hy => ?_⟩
    · have hi' : i < vs.length := by rw [numb_len] at hi; rw [← r1.len]; exact hi
      exact ⟨vs, vs[i], (w E).1, List.getElem?_eq_getElem hi'⟩
    · exact ⟨vs, (w E).1, by rw [numb_len, r1.len]; exact Nat.le_refl _⟩
    · obtain ⟨T, z, rfl, hT, e1, e2⟩ := hy
      exact fin rr (w E).2 hT e1 (e2 vs (w E).1)
  | flst ds =>
    injection e with e; subst e
    simp only [RD] at r
    obtain ⟨a, vs, rfl, t, r1⟩ := r
    refine ⟨a, vs, rfl, .inl ⟨t.seq, ?_⟩⟩
    have w : ∀ {μ' h' H'}, Ext μ (lckL [] h) H μ' h' H' → SqL W.K H' a vs ∧ RDs W μ' H' ds vs := fun E => ⟨(E.fzL x t).seq, RDs.ext E x ds vs r1⟩
    refine ⟨fun i μ' h' H' hi _ E => ?_, fun μ' h' H' _ E => ?_, fun i μ' h' H' y H'' hi rr E hy => ?_⟩
    · have hi' : i < vs.length := by rw [numb_len] at hi; rw [← r1.len]; exact hi
      exact ⟨vs, vs[i], (w E).1, List.getElem?_eq_getElem hi'⟩
    · exact ⟨vs, (w E).1, by rw [numb_len, r1.len]; exact Nat.le_refl _⟩
    · obtain ⟨T, z, rfl, hT, e1, e2⟩ := hy
      exact fin rr (w E).2 hT e1 (e2 vs (w E).1)
  | ref n =>
    simp only [RD] at r
    obtain ⟨a, e1, rfl⟩ := r
    obtain ⟨⟨l, o⟩, e2, ro⟩ := x.at e1
    cases o with
    | lst ds =>
      simp only [seqL, e2] at e; injection e with e; subst e
      obtain ⟨vs, q1, r1⟩ := ro
      refine ⟨a, vs, rfl, .inl ⟨SqL.of q1, ?_⟩⟩
      have w : ∀ {μ' h' H'}, R W μ' h' H' → Ext μ (lckL [n] h) H μ' h' H' → ∃ vs', SqL W.K H' a vs' ∧ RDs W μ' H' ds vs' := fun rr E => by
        have e3 : (lckL [n] h)[n]? = some (true, .lst ds) := by rw [lock_get, if_pos (by simp), e2]; rfl
        obtain ⟨o', e4, e5⟩ := E.hc.lk e3
        have e6 := e5 trivial
        subst e6
        obtain ⟨vs', q2, q3⟩ := rr.ob n a _ (E.mu e1) e4
        exact ⟨vs', SqL.of q2, q3⟩
      refine ⟨fun i μ' h' H' hi rr E => ?_, fun μ' h' H' rr E => ?_, fun i μ' h' H' y H'' hi rr E hy => ?_⟩
      · obtain ⟨vs', w1, w2⟩ := w rr E
        have hi' : i < vs'.length := by rw [numb_len] at hi; rw [← w2.len]; exact hi
        exact ⟨vs', vs'[i], w1, List.getElem?_eq_getElem hi'⟩
      · obtain ⟨vs', w1, w2⟩ := w rr E
        exact ⟨vs', w1, by rw [numb_len, w2.len]; exact Nat.le_refl _⟩
      · obtain ⟨vs', w1, w2⟩ := w rr E
        obtain ⟨T, z, rfl, hT, e1, e2⟩ := hy
        exact fin rr w2 hT e1 (e2 vs' w1)
    | _ => simp only [seqL, e2] at e; cases e
  | _ => cases e
end
section
variable {X : Cx} {Wx : WX} {a b : Expr} {ca cb : CE} {p pos tpos : Pos} {elts : List Expr} {kk : Nat}
theorem it_enum (hm : X.mg "enumerate" = none) (ha : SE X Wx a ca) (hg : Gl X "enumerate" := by rfl) (hs : starEach [a] X.env = [(false, eval a X.env)] := by rfl) (h0 : starEach [a] X.env = (false, eval a X.env) :: starEach [] X.env := by rfl) :
    SI X Wx (.Tuple elts kk tpos) (.Call (.Name "enumerate" p) [a] [] pos) true (cItE ca) := by
  refine pi_mono (pi_enA hg hm (pa_cons ha pa_nil h0) hs) fun σ H Q ⟨μ, ρ, h, r, rs, k⟩ => ?_
  refine ⟨μ, ρ, h, r, rs, (kI.one r k).imp fun v H1 ⟨d, μ1, h1, _, r1, e1, d1, k1⟩ => ?_⟩
  cases e2 : seqL d h1 with
  | none => simp only [e2] at k1; exact k1.elim
  | some q =>
    simp only [e2] at k1
    obtain ⟨a, xs, rfl, hh⟩ := itEnum rfl r1 d1 e2
    refine ⟨a, xs, rfl, ?_⟩
    rcases hh with ⟨h1, h2⟩ | ⟨h1, h2⟩
    · exact .inl ⟨h1, k1 μ1 H1 _ r1 .refl h2⟩
    · exact .inr ⟨h1, k1 μ1 H1 _ r1 .refl h2⟩
end
end Sx

set_option Elab.async false
set_option linter.all false
set_option maxRecDepth 100000
namespace Sx
open PySem PySem.Spec PyProof.Rows L2
open PySem.W PySem.Calls

abbrev cal : Str := "Calendar"
abbrev iniN : List Str := ["self", "born", "days"]
abbrev iniSc : List (Str × NameKind) := [("self", .local), ("born", .local), ("days", .local)]
abbrev calN : List Str := ["born", "days"]
structure CalTxt (K : Frag) (mg : Str → Option Value) (C fI : Addr) : Prop where
  gC : mg cal = some (.ref C)
  mks : Mk K C fI
  cls : Cls K C
  noB : NoAttr K C "born"
  noD : NoAttr K C "days"
theorem zip_look {W : Wb} {μ : List Addr} {H : Hp} {f : Str} : ∀ {ns : List Str} {ds : List D} {vs : List V} {d : D}, RDs W μ H ds vs → (ns.zip ds).lookup f = some d → ∃ v, (ns.zip vs).lookup f = some v ∧ RD W μ H d v
  | [], ds, vs, d, r, e => by simp at e
  | n :: ns, [], vs, d, r, e => by simp at e
  | n :: ns, x :: ds, vs, d, r, e => by
    simp only [RDs] at r
    obtain ⟨v, w, rfl, r1, r2⟩ := r
    rw [List.zip_cons_cons, List.lookup_cons] at e ⊢
    cases q : f == n with
    | true =>
      rw [q] at e
      cases e
      exact ⟨v, rfl, r1⟩
    | false =>
      rw [q] at e
      exact zip_look r2 e
def gFld (c f : Str) : G1 := fun x h => match x with
  | .obj c' ns ds => if c' = c then ((ns.zip ds).lookup f).map fun d => (d, h) else none
  | _ => none
section
variable {X : Cx} {Wx : WX}
theorem s_fld {c f : Str} {C : Addr} {e : Expr} {ce : CE} {pos : Pos} (hm : X.mg c = some (.ref C)) (hc : Cls X.K C) (hn : NoAttr X.K C f) (he : SE X Wx e ce) (hb : attributeBase e f X.env (eval e X.env) = eval e X.env := by rfl) :
    SE X Wx (.Attribute e f pos) (c1 (gFld c f) ce) := by
  refine pe_mono (pe_fld he hb) fun σ H Q k => ?_
  obtain ⟨μ, ρ, h, r, rs, k⟩ := use1 k
  refine ⟨μ, ρ, h, r, rs, k.imp fun v H1 ⟨μ1, h1, d, r1, d1, k1⟩ => ?_⟩
  unfold gFld at k1
  cases d with
  | obj c' ns ds =>
    simp only at k1
    split at k1
    · rename_i hcc
      subst hcc
      simp only [RD] at d1
      obtain ⟨a, C', dx, vs, rfl, hm', ha, hl, rd⟩ := d1
      rw [hm] at hm'
      cases hm'
      cases q : (ns.zip ds).lookup f with
      | none => rw [q] at k1; exact k1.elim
      | some d =>
        rw [q] at k1
        obtain ⟨v, e1, e2⟩ := zip_look rd q
        exact ⟨a, C, dx, _, v, rfl, ha, hc, hn, e1, k1 μ1 H1 v r1 .refl e2⟩
    · exact k1.elim
  | _ => exact k1.elim
end
def spIni (C : Addr) : Sp := fun vs H Q _ => ∃ x dx b d, vs = [V.ref x, b, d] ∧ H x = some (.ins C dx []) ∧ Q .non (upd H x (.ins C dx (calN.zip [b, d])))
def calB (p1 p2 p3 p4 q1 q2 q3 q4 : Pos) : List Stmt := [.Assign [.Attribute (.Name "self" p1) "born" p2] (.Name "born" p3) p4, .Assign [.Attribute (.Name "self" q1) "days" q2] (.Name "days" q3) q4]
section
variable {P : Program} {w : World} {K : PySem.W.Frag} {mg : Str → Option Value} {base : Heap}
theorem ini_ok {qual : Str} {st : Stmt} {f C : Addr} {fd : FuncData} {k : Nat} (F : Fun K "__init__" qual st f fd) (T : CalTxt K mg C f) (S : FnScope iniN iniN (defScope st))
    {p1 p2 p3 p4 q1 q2 q3 q4 : Pos} (hb : defBody st = calB p1 p2 p3 p4 q1 q2 q3 q4) (hn : (defScope st).names = iniSc) : FnOk P w K mg base (L2.CX P w) (k + 1) f fd iniN (spIni C) := by
  refine F.okX S (fun vs H Q E h => ?_) (fun cdv A outer s H vs Q E hr h => ?_)
  · obtain ⟨x, dx, b, d, rfl, _⟩ := h; rfl
  · rw [hb]
    generalize hX : cxOf (L2.CX P w) P w K mg base iniN qual (defScope st) f cdv A outer s H E = X
    have hN : X.N = iniN := by rw [← hX]; rfl
    have hs : X.env.scope.names = iniSc := by rw [← hX]; exact hn
    have hK : X.K = K := by rw [← hX]; rfl
    have v0 : PE X (.Name "self" p1) (tVar 0) := pe_var (by rw [hN]; rfl) (.inl (by rw [hs]; rfl)) (by decide) (by decide)
    have v0' : PE X (.Name "self" q1) (tVar 0) := pe_var (by rw [hN]; rfl) (.inl (by rw [hs]; rfl)) (by decide) (by decide)
    have v1 : PE X (.Name "born" p3) (tVar 1) := pe_var (by rw [hN]; rfl) (.inl (by rw [hs]; rfl)) (by decide) (by decide)
    have v2 : PE X (.Name "days" q3) (tVar 2) := pe_var (by rw [hN]; rfl) (.inl (by rw [hs]; rfl)) (by decide) (by decide)
    refine ⟨_, pss_cons (ps_fld v0 v1 (by subst hX; rfl)) (pss_one (ps_fld v0' v2 (by subst hX; rfl))), ?_⟩
    obtain ⟨x, dx, b, d, rfl, hx, q⟩ := h
    subst hX
    refine ⟨b, rfl, .ref x, rfl, x, C, dx, [], rfl, hx, T.cls, T.noB, by show 0 < 1000; decide, ?_⟩
    refine ⟨d, rfl, .ref x, rfl, x, C, dx, _, rfl, upd_same, T.cls, T.noD, by show 1 < 1000; decide, ?_⟩
    show Q .non _
    rw [upd_upd]
    exact q
end
def gCal : GL := fun xs h => match xs with
  | [b, d] => some (.obj cal calN [b, d], h)
  | _ => none
section
variable {X : Cx} {Wx : WX} {k : Nat} {fI C : Addr} {fd : FuncData} {p pos : Pos} {e : Expr} {es : List Expr} {cs : CA}
theorem s_cal (T : CalTxt X.K X.mg C fI) (F : FnOk X.prog X.w X.K X.mg X.base (L2.CX X.prog X.w) k fI fd iniN (spIni C)) (hr : Room (k + 1) X.A) (hb : Binds X.K fd iniN []) (ha : SA X Wx (e :: es) cs)
    (hg : Gl X cal := by rfl) (he : starEach (e :: es) X.env = (false, eval e X.env) :: starEach es X.env := by rfl) (hpl : (backTo pos (starEach es X.env)).any (·.1) = false := by rfl) :
    SE X Wx (.Call (.Name cal p) (e :: es) [] pos) (cC gCal cs) := by
  refine pe_mono (pe_make (dvs := []) (E := E0) T.mks F hr hg T.gC hb .nil passL ha (by decide) he hpl) fun σ H Q k => ?_
  obtain ⟨μ, ρ, h, r, rs, k⟩ := useC k
  refine ⟨μ, ρ, h, r, rs, k.imp fun vs H1 ⟨μ1, h1, ds, r1, d1, k1⟩ => ?_⟩
  unfold gCal at k1
  split at k1
  · rename_i b d
    intro x dx hx hdx ne
    have rd := d1
    simp only [RDs] at d1
    obtain ⟨vb, r', rfl, rb, vd, r'', rfl, rd1, rfl⟩ := d1
    refine ⟨x, dx, vb, vd, rfl, upd_same, rfl, ?_⟩
    rw [upd_upd]
    obtain ⟨r2, e2⟩ := r1.tup (o := .own x) hdx rfl
    have hx2 : upd H1 dx (.own x) x = none := by rw [upd_ne (Ne.symm ne)]; exact hx
    obtain ⟨r3, e3⟩ := r2.tup (o := .ins C dx (calN.zip [vb, vd])) hx2 rfl
    refine k1 μ1 _ _ r3 (e2.trans r1 e3) ?_
    simp only [RD]
    exact ⟨x, C, dx, [vb, vd], rfl, T.gC, upd_same, rfl, RDs.ext e3 r2 _ _ (RDs.ext e2 r1 _ _ rd)⟩
  · exact k1.elim
end
end Sx

set_option Elab.async false
set_option linter.all false
set_option maxRecDepth 100000
namespace Sx
open PySem PySem.Spec PyProof.Rows L2
open PySem.Calls

section
variable {X : Cx} {o e : Expr} {es : List Expr} {to : TE} {t : TA} {name : Str} {apos cpos : Pos} {idL idT : String} {rL rT : V → List V → Hp → VK → Prop}
theorem tp_ty {pins : List (Addr × Obj)} {σ : L2.St} {H : Hp} {s : Shared} {a : Addr} {vs : List V} (I : Inv X pins σ H s) (h : TpL X.K H a vs) : s.TypeIs (.ref a) "tuple" ∧ ∀ b, Value.ref a = .ref b → ∃ ob, s.heap.get? b = some ob ∧ ob.dict = none := by
  rcases h with ⟨ob, h1, h2⟩ | ⟨ob, its, n, h1, h2, h3, h4⟩
  · obtain ⟨e, _, its, _, p⟩ := (show ObjOk X.prog X.w H s.heap a (.frz ob (.tup vs)) from I.hok a _ h1)
    obtain ⟨o', e', c', _⟩ := p
    rw [e] at e'; cases e'
    exact ⟨⟨ob, e, c'⟩, fun b q => by cases q; exact ⟨ob, e, h2⟩⟩
  · exact ⟨⟨ob, I.kIn a ob h1, h2⟩, fun b q => by cases q; exact ⟨ob, I.kIn a ob h1, h3⟩⟩
def tBD (K : PySem.W.Frag) (rL rT : V → List V → Hp → VK → Prop) (to : TE) (t : TA) : TE := fun σ H Q => to σ H fun x H1 =>
  (tyV K "list" x H1 ∧ t σ H1 fun xs H2 => rL x xs H2 Q) ∨ (∃ a vs, x = .ref a ∧ TpL K H1 a vs ∧ t σ H1 fun xs H2 => rT x xs H2 Q)
theorem pe_bd (slotL : Slot "list" name idL) (slotT : Slot "tuple" name idT) (hL : typeOf (.builtin idL) = pure (.type "method_descriptor")) (hT : typeOf (.builtin idT) = pure (.type "method_descriptor")) (mL : MtR X idL rL) (mT : MtR X idT rT) (ho : PE X o to) (ha : PA X (e :: es) t)
    (hbase : attributeBase o name X.env (eval o X.env) = eval o X.env := by rfl)
    (hfew : ((backTo cpos (starEach (e :: es) X.env)).all (fun x => !x.1) && (backToKw cpos (keywordEach [] X.env)).all (fun x => x.1.isSome)
      && decide ((e :: es).length + ([] : List Keyword).length + (if ([] : List Keyword).isEmpty then 0 else 1) < 30)) = true := by rfl)
    (hline : (apos.endLine == cpos.line) = true := by rfl) (hs : starEach (e :: es) X.env = (false, eval e X.env) :: starEach es X.env := by rfl) (hplain : (backTo cpos (starEach es X.env)).any (·.1) = false := by rfl) :
    PE X (.Call (.Attribute o name apos) (e :: es) [] cpos) (tBD X.K rL rT to t) := by
  refine ⟨fun pins s σ H Q I h => ?_⟩
  refine wpAny_Call_method_late hbase hfew hline rfl (thn (ho.run pins s σ H _ I h) fun v s1 ⟨x, H1, I1, r1, q1⟩ => ?_)
  have fin : ∀ {id : String} {r : V → List V → Hp → VK → Prop}, MtR X id r → t σ H1 (fun xs H2 => r x xs H2 Q) → wpAny (model X.prog X.w) X.A (callWith cpos (.builtin id) [v] (backTo cpos (starEach (e :: es) X.env)) []) (EP X pins σ Q) X.xe s1 := fun {id r} hm q => by
    have hA := ha.run cpos pins s1 σ H1 _ I1 q
    rw [hs] at hA ⊢
    refine Calls.callWith_builtin (by show (false || (backTo cpos (starEach es X.env)).any (·.1)) = false; rw [hplain] <;> rfl) (Calls.evalArgs_plain ?_)
    exact thn hA fun us s2 ⟨vs, H2, I2, r2, q2⟩ => hm pins s2 σ H2 x vs v us Q I2 r1 r2 q2
  rcases q1 with ⟨ty, q⟩ | ⟨a, vs, rfl, ty, q⟩
  · obtain ⟨h1, h2⟩ := tyV_is I1 r1 ty
    exact ⟨"list", idL, F.plainAttrs_list, slotL, hL, h1, h2, fin mL q⟩
  · cases r1
    obtain ⟨h1, h2⟩ := tp_ty I1 ty
    exact ⟨"tuple", idT, F.plainAttrs_tuple, slotT, hT, h1, h2, fin mT q⟩
end

def itsP (d : D) (h : Hc) : Option (List PyData) := match toS d h with
  | some (.list ps) => some ps
  | some (.tuple ps) => some ps
  | _ => none
def gCount : G2 := fun x y h => match itsP x h, toS y h with
  | some ps, some q => some (.int (ps.countP (fun z => PyData.eqv z q) : Nat), h)
  | _, _ => none
structure RdsP (K : PySem.W.Frag) (T : String) (x y : V) (H : Hp) (ps : List PyData) (q : PyData) : Prop where
  a : Dp K H x (if T = "list" then .list ps else .tuple ps)
  b : Dp K H y q
  sa : SeqAt.shaped (if T = "list" then .list ps else .tuple ps) = true
  sb : SeqAt.shaped q = true
def rCount (K : PySem.W.Frag) (T : String) : V → List V → Hp → VK → Prop := fun x xs H Q => ∃ y ps q, xs = [y] ∧ RdsP K T x y H ps q ∧ Q (.int (ps.countP (fun z => PyData.eqv z q) : Nat)) H
section
variable {X : Cx}
theorem countP_map' {α β : Type} (f : α → β) (p : β → Bool) : ∀ l : List α, l.countP (fun a => p (f a)) = (l.map f).countP p
  | [] => rfl
  | a :: r => by
    have ih := countP_map' f p r
    rw [List.map_cons, List.countP_cons, List.countP_cons, ih]
theorem dp_tup {K : PySem.W.Frag} {H : Hp} {x : V} {ps : List PyData} (h : Dp K H x (.tuple ps)) : ∃ a vs, x = .ref a ∧ SqT K H a vs ∧ DpAll K H vs ps := by
  cases h with
  | tup hs ha => exact ⟨_, _, rfl, hs, ha⟩
theorem dp_lst {K : PySem.W.Frag} {H : Hp} {x : V} {ps : List PyData} (h : Dp K H x (.list ps)) : ∃ a vs, x = .ref a ∧ SqL K H a vs ∧ DpAll K H vs ps := by
  cases h with
  | lst hs ha => exact ⟨_, _, rfl, hs, ha⟩
theorem mt_countL (hu : X.A.units + 65 < cLine) : MtR X "list.count" (rCount X.K "list") := by
  intro pins s σ H x xs v us Q I rx rxs h
  obtain ⟨y, ps, q, rfl, ⟨a, b, sa, sb⟩, k⟩ := h
  rw [if_pos rfl] at a sa
  obtain ⟨u, rfl, ry⟩ := rxs.one
  obtain ⟨as, r1⟩ := Dp.reads I q y u b ry
  have hxs : PyData.canLayAll0 ps = true := SeqAt.canLay_of_shaped sa
  have hroom : X.A.units + 1 + min (PyData.depthAll ps) q.depth < cLine := roomIn sb hu
  obtain ⟨a', vs, rfl, hs, ha⟩ := dp_lst a
  cases rx
  obtain ⟨its, rv, ⟨⟨cls, dd, data, sls⟩, n, ho, hc, hdn, hdt⟩, hlen⟩ := I.list hs
  simp only at hc hdt
  subst hc hdt
  obtain ⟨bs, h4⟩ := Dp.readsAll I ps _ its ha rv
  have hmap : its.map (SeqAt.readOf s.heap) = ps := SeqAt.readsAll_map ps its bs hxs h4
  refine call_meets PySem.F.slot_list_count ⟨_, ho, rfl⟩ PySem.F.entry_list_count (PySem.F.args_list_count_2 _ _)
    (SeqAt.list_countAt a' its.toArray n dd sls u (fun w => PyData.eqv (SeqAt.readOf s.heap w) q)) ⟨ho, SeqAt.items_eqAt (vs := its.toArray) (show ReadsAll s.heap its.toArray.toList ps bs from h4) r1 hxs (SeqAt.canLay_of_shaped sb) hroom, ?_⟩
  refine ⟨.int (ps.countP (fun z => PyData.eqv z q) : Nat), H, I.tok _, ⟨s.toks, ?_⟩, k⟩
  rw [← hmap, ← countP_map' (SeqAt.readOf s.heap) (fun z => PyData.eqv z q) its]
theorem mt_countT (hu : X.A.units + 65 < cLine) : MtR X "tuple.count" (rCount X.K "tuple") := by
  intro pins s σ H x xs v us Q I rx rxs h
  obtain ⟨y, ps, q, rfl, ⟨a, b, sa, sb⟩, k⟩ := h
  rw [if_neg (by decide)] at a sa
  obtain ⟨u, rfl, ry⟩ := rxs.one
  obtain ⟨as, r1⟩ := Dp.reads I q y u b ry
  have hxs : PyData.canLayAll0 ps = true := SeqAt.canLay_of_shaped sa
  have hroom : X.A.units + 1 + min (PyData.depthAll ps) q.depth < cLine := roomIn sb hu
  obtain ⟨a', vs, rfl, hs, ha⟩ := dp_tup a
  cases rx
  obtain ⟨its, rv, p, hlen⟩ := I.tuple hs
  obtain ⟨⟨cls, dd, data, sls⟩, ho, hc, n, hdt⟩ := p
  simp only at hc hdt
  subst hc hdt
  obtain ⟨bs, h4⟩ := Dp.readsAll I ps _ its ha rv
  have hmap : its.map (SeqAt.readOf s.heap) = ps := SeqAt.readsAll_map ps its bs hxs h4
  refine call_meets PySem.F.slot_tuple_count ⟨_, ho, rfl⟩ PySem.F.entry_tuple_count (PySem.F.args_tuple_count_2 _ _)
    (SeqAt.tuple_countAt a' its.toArray n dd sls u (fun w => PyData.eqv (SeqAt.readOf s.heap w) q)) ⟨ho, SeqAt.items_eqAt (vs := its.toArray) (show ReadsAll s.heap its.toArray.toList ps bs from h4) r1 hxs (SeqAt.canLay_of_shaped sb) hroom, ?_⟩
  refine ⟨.int (ps.countP (fun z => PyData.eqv z q) : Nat), H, I.tok _, ⟨s.toks, ?_⟩, k⟩
  rw [← hmap, ← countP_map' (SeqAt.readOf s.heap) (fun z => PyData.eqv z q) its]
end

abbrev GM := D → List D → Hc → VO
def lVm (W : Wb) (g : GM) : V → List V → Hp → VK → Prop := fun x xs H Q => ∃ μ h dx ds, R W μ h H ∧ RD W μ H dx x ∧ RDs W μ H ds xs ∧ kO W μ h H Q (g dx ds h)
def isLst : D → Hc → Bool
  | .flst _, _ => true
  | .ref n, h => match h[n]? with | some (_, .lst _) => true | _ => false
  | _, _ => false
def isSeq : D → Hc → Bool
  | .tup _, _ => true
  | d, h => isLst d h
def cMt (ok : D → Hc → Bool) (g : GM) (o : CE) (a : CA) : CE := fun ρ h => (o ρ h).bind fun x h1 => if ok x h1 then (a ρ h1).bind fun ys h2 => (g x ys h2).res else .stuck
def cMt0 (ok : D → Hc → Bool) (g : G1) (o : CE) : CE := fun ρ h => (o ρ h).bind fun x h1 => if ok x h1 then (g x h1).res else .stuck
section
variable {W : Wb} {μ : List Addr} {h : Hc} {H : Hp} {d : D} {v : V}
theorem lst_ty (x : R W μ h H) (r : RD W μ H d v) (e : isLst d h = true) : tyV W.K "list" v H := by
  cases d with
  | flst ds =>
    simp only [RD] at r
    obtain ⟨a, vs, rfl, t, _⟩ := r
    exact .inl ⟨rfl, vs, t.seq⟩
  | ref n =>
    simp only [RD] at r
    obtain ⟨a, e1, rfl⟩ := r
    obtain ⟨⟨l, o⟩, e2, ro⟩ := x.at e1
    cases o with
    | lst ds =>
      obtain ⟨vs, q1, _⟩ := ro
      exact .inl ⟨rfl, vs, SqL.of q1⟩
    | _ => (first | (simp only [isSeq, e2] at e; cases e) | (simp only [isLst, e2] at e; cases e))
  | _ => cases e
theorem tup_ty (r : RD W μ H d v) (e : isTup d = true) : ∃ a vs, v = .ref a ∧ TpL W.K H a vs := by
  cases d with
  | tup ds =>
    simp only [RD] at r
    obtain ⟨a, vs, rfl, t, _⟩ := r
    exact ⟨a, vs, rfl, t⟩
  | _ => cases e
end
section
variable {X : Cx} {Wx : WX} {o e : Expr} {es : List Expr} {name : Str} {apos cpos : Pos} {id idL idT : String} {g : GM} {g0 : G1} {co : CE} {cs : CA}
theorem MtR.imp {r r' : V → List V → Hp → VK → Prop} (hm : MtR X id r) (i : ∀ x xs H Q, r' x xs H Q → r x xs H Q) : MtR X id r' := fun pins s σ H x xs v us Q I rx rxs q => hm pins s σ H x xs v us Q I rx rxs (i x xs H Q q)
theorem lA_imp {W : Wd} {σ : L2.St} {H : Hp} {Q Q' : List V → Hp → Prop} (k : lA W Wx cs σ H Q) (i : ∀ b H', Q b H' → Q' b H') : lA W Wx cs σ H Q' := by
  obtain ⟨μ, ρ, h, r, rs, k⟩ := k
  exact ⟨μ, ρ, h, r, rs, k.imp i⟩
theorem useM {ok : D → Hc → Bool} {σ : L2.St} {H : Hp} {Q : VK} (k : lE (wd X) Wx (cMt ok g co cs) σ H Q) :
    lE (wd X) Wx co σ H fun v H1 => ∃ μ1 h1 dx, R (wd X) μ1 h1 H1 ∧ RD (wd X) μ1 H1 dx v ∧ ok dx h1 = true ∧ lA (wd X) Wx cs σ H1 fun us H2 => ∃ μ h ds, R (wd X) μ h H2 ∧ RD (wd X) μ H2 dx v ∧ RDs (wd X) μ H2 ds us ∧ kO (wd X) μ h H2 Q (g dx ds h) := by
  obtain ⟨μ, ρ, h, r, rs, k⟩ := k
  refine ⟨μ, ρ, h, r, rs, (kR.bind r k).imp fun v H1 ⟨x, μ1, h1, _, r1, e1, d1, k1⟩ => ?_⟩
  by_cases hk : ok x h1 = true
  · rw [if_pos hk] at k1
    exact ⟨μ1, h1, x, r1, d1, hk, μ1, ρ, h1, r1, rs.ext e1 r, (kR.bind r1 k1).imp fun us H2 ⟨ys, μ2, h2, _, r2, e2, d2, k2⟩ => ⟨μ2, h2, ys, r2, RD.ext e2 r1 x v d1, d2, kO.of k2⟩⟩
  · rw [if_neg hk] at k1; exact k1.elim
theorem s_mtL (slot : Slot "list" name id) (hty : typeOf (.builtin id) = pure (.type "method_descriptor")) (hm : MtR X id (lVm (wd X) g)) (ho : SE X Wx o co) (ha : SA X Wx (e :: es) cs)
    (hbase : attributeBase o name X.env (eval o X.env) = eval o X.env := by rfl)
    (hfew : ((backTo cpos (starEach (e :: es) X.env)).all (fun x => !x.1) && (backToKw cpos (keywordEach [] X.env)).all (fun x => x.1.isSome)
      && decide ((e :: es).length + ([] : List Keyword).length + (if ([] : List Keyword).isEmpty then 0 else 1) < 30)) = true := by rfl)
    (hline : (apos.endLine == cpos.line) = true := by rfl) (hs : starEach (e :: es) X.env = (false, eval e X.env) :: starEach es X.env := by rfl) (hplain : (backTo cpos (starEach es X.env)).any (·.1) = false := by rfl) :
    SE X Wx (.Call (.Attribute o name apos) (e :: es) [] cpos) (cMt isLst g co cs) := by
  refine pe_mono (pe_bm F.plainAttrs_list slot hty hm ho ha hbase hfew hline hs hplain) fun σ H Q k => ?_
  obtain ⟨μ, ρ, h, r, rs, k⟩ := useM k
  exact ⟨μ, ρ, h, r, rs, k.imp fun v H1 ⟨μ1, h1, dx, r1, d1, hk, q⟩ => ⟨lst_ty r1 d1 hk, lA_imp q fun us H2 ⟨μ, h, ds, a, b, c, d⟩ => ⟨μ, h, dx, ds, a, b, c, d⟩⟩⟩
theorem s_mtD (slotL : Slot "list" name idL) (slotT : Slot "tuple" name idT) (hL : typeOf (.builtin idL) = pure (.type "method_descriptor")) (hT : typeOf (.builtin idT) = pure (.type "method_descriptor")) (mL : MtR X idL (lVm (wd X) fun x ys h => if isTup x then none else g x ys h)) (mT : MtR X idT (lVm (wd X) fun x ys h => if isTup x then g x ys h else none)) (ho : SE X Wx o co) (ha : SA X Wx (e :: es) cs)
    (hbase : attributeBase o name X.env (eval o X.env) = eval o X.env := by rfl)
    (hfew : ((backTo cpos (starEach (e :: es) X.env)).all (fun x => !x.1) && (backToKw cpos (keywordEach [] X.env)).all (fun x => x.1.isSome)
      && decide ((e :: es).length + ([] : List Keyword).length + (if ([] : List Keyword).isEmpty then 0 else 1) < 30)) = true := by rfl)
    (hline : (apos.endLine == cpos.line) = true := by rfl) (hs : starEach (e :: es) X.env = (false, eval e X.env) :: starEach es X.env := by rfl) (hplain : (backTo cpos (starEach es X.env)).any (·.1) = false := by rfl) :
    SE X Wx (.Call (.Attribute o name apos) (e :: es) [] cpos) (cMt isSeq g co cs) := by
  refine pe_mono (pe_bd slotL slotT hL hT mL mT ho ha hbase hfew hline hs hplain) fun σ H Q k => ?_
  obtain ⟨μ, ρ, h, r, rs, k⟩ := useM k
  refine ⟨μ, ρ, h, r, rs, k.imp fun v H1 ⟨μ1, h1, dx, r1, d1, hk, q⟩ => ?_⟩
  cases ht : isTup dx with
  | true =>
    obtain ⟨a, vs, z, t⟩ := tup_ty d1 ht
    exact .inr ⟨a, vs, z, t, lA_imp q fun us H2 ⟨μ, h, ds, a, b, c, d⟩ => ⟨μ, h, dx, ds, a, b, c, by show kO _ _ _ _ _ (if isTup dx = true then g dx ds h else none); rw [if_pos ht]; exact d⟩⟩
  | false =>
    exact .inl ⟨lst_ty r1 d1 (by cases dx <;> first | exact hk | cases ht), lA_imp q fun us H2 ⟨μ, h, ds, a, b, c, d⟩ => ⟨μ, h, dx, ds, a, b, c, by show kO _ _ _ _ _ (if isTup dx = true then none else g dx ds h); rw [ht, if_neg Bool.false_ne_true]; exact d⟩⟩
theorem s_mt0 (slot : Slot "list" name id) (hty : typeOf (.builtin id) = pure (.type "method_descriptor")) (hm : MtR X id (fun x xs H Q => xs = [] ∧ lV1 (wd X) g0 x H Q)) (ho : SE X Wx o co)
    (hbase : attributeBase o name X.env (eval o X.env) = eval o X.env := by rfl) (hline : (apos.endLine == cpos.line) = true := by rfl) : SE X Wx (.Call (.Attribute o name apos) [] [] cpos) (cMt0 isLst g0 co) := by
  refine pe_mono (pe_bm0 F.plainAttrs_list slot hty hm ho hbase hline) fun σ H Q ⟨μ, ρ, h, r, rs, k⟩ => ?_
  refine ⟨μ, ρ, h, r, rs, (kR.bind r k).imp fun v H1 ⟨x, μ1, h1, _, r1, e1, d1, k1⟩ => ?_⟩
  by_cases hk : isLst x h1 = true
  · rw [if_pos hk] at k1
    exact ⟨lst_ty r1 d1 hk, rfl, μ1, h1, x, r1, d1, kO.of k1⟩
  · rw [if_neg hk] at k1; exact k1.elim
end
def wrL (x : D) (h : Hc) : Option (Nat × List D) := match x with
  | .ref n => match h[n]? with
    | some (false, .lst ds) => some (n, ds)
    | _ => none
  | _ => none
theorem wrL_at {W : Wb} {μ : List Addr} {h : Hc} {H : Hp} {d : D} {v : V} {n : Nat} {ds : List D} (x : R W μ h H) (r : RD W μ H d v) (e : wrL d h = some (n, ds)) :
    ∃ a vs, v = .ref a ∧ μ[n]? = some a ∧ h[n]? = some (false, .lst ds) ∧ H a = some (.lst vs) ∧ RDs W μ H ds vs := by
  cases d with
  | ref m =>
    simp only [RD] at r
    obtain ⟨a, e1, rfl⟩ := r
    simp only [wrL] at e
    split at e
    · rename_i ds' e2
      injection e with e; injection e with e3 e4
      subst e3; subst e4
      obtain ⟨vs, q1, q2⟩ := x.ob m a _ e1 e2
      exact ⟨a, vs, rfl, e1, e2, q1, q2⟩
    · cases e
  | _ => cases e
def gAppend : GM := fun x ys h => match wrL x h, ys with
  | some (n, ds), [y] => if ds.length < sizeLine then some (.non, h.set n (false, .lst (ds ++ [y]))) else none
  | _, _ => none
def gExtend : GM := fun x ys h => match wrL x h, ys with
  | some (n, ds), [.ref m] => match h[m]? with
    | some (_, .lst es) => if ds.length + es.length ≤ sizeLine then some (.non, h.set n (false, .lst (ds ++ es))) else none
    | _ => none
  | _, _ => none
def gPop0 : G1 := fun x h => match wrL x h with
  | some (n, ds) => match ds[ds.length - 1]? with
    | some d => some (d, h.set n (false, .lst ds.dropLast))
    | none => none
  | none => none
def gCountM : GM := fun x ys h => match ys with | [y] => gCount x y h | _ => none
theorem RDs.dropLast {W : Wb} {μ : List Addr} {H : Hp} : ∀ {ds : List D} {vs : List V}, RDs W μ H ds vs → RDs W μ H ds.dropLast vs.dropLast
  | [], vs, r => by simp only [RDs] at r; subst r; exact RDs.nil
  | [d], vs, r => by
    simp only [RDs] at r
    obtain ⟨v, t, rfl, _, rfl⟩ := r
    exact RDs.nil
  | d :: d2 :: ds, vs, r => by
    simp only [RDs] at r
    obtain ⟨v, t, rfl, r1, v2, t2, rfl, r2, r3⟩ := r
    have ih := RDs.dropLast (RDs.cons r2 r3)
    exact RDs.cons r1 ih
section
variable {X : Cx} {Wx : WX} {o e e2 : Expr} {apos cpos : Pos} {co ce : CE} {cs : CA}
theorem rd1 {W : Wb} {μ : List Addr} {H : Hp} {d : D} {vs : List V} (r : RDs W μ H [d] vs) : ∃ v, vs = [v] ∧ RD W μ H d v := by
  simp only [RDs] at r
  obtain ⟨v, t, rfl, r1, rfl⟩ := r
  exact ⟨v, rfl, r1⟩
theorem m_append : MtR X "list.append" (lVm (wd X) gAppend) := MtR.imp mt_append fun x xs H Q ⟨μ, h, dx, ds, r, d1, d2, k⟩ => by
  unfold gAppend at k
  split at k
  · rename_i n l y e
    split at k
    · rename_i hz
      obtain ⟨a, vs, rfl, e1, e2, e3, e4⟩ := wrL_at r d1 e
      obtain ⟨v, rfl, rv⟩ := rd1 d2
      exact ⟨a, vs, v, rfl, rfl, e3, by rw [← e4.len]; exact hz, k.put r e1 e2 (RDs.append e4 (RDs.cons rv RDs.nil)) (by simp only [RD])⟩
    · exact k.elim
  · exact k.elim
theorem m_extend : MtR X "list.extend" (lVm (wd X) gExtend) := MtR.imp mt_extend fun x xs H Q ⟨μ, h, dx, ds, r, d1, d2, k⟩ => by
  unfold gExtend at k
  split at k
  · rename_i n l m e
    split at k
    · rename_i fl es e5
      split at k
      · rename_i hz
        obtain ⟨a, vs, rfl, e1, e2, e3, e4⟩ := wrL_at r d1 e
        obtain ⟨v, rfl, rv⟩ := rd1 d2
        simp only [RD] at rv
        obtain ⟨b, e6, rfl⟩ := rv
        obtain ⟨ws, q1, q2⟩ := r.ob m b _ e6 e5
        exact ⟨a, b, vs, ws, rfl, rfl, e3, q1, by rw [← e4.len, ← q2.len]; exact hz, k.put r e1 e2 (RDs.append e4 q2) (by simp only [RD])⟩
      · exact k.elim
    · exact k.elim
  · exact k.elim
theorem m_pop0 : MtR X "list.pop" (fun x xs H Q => xs = [] ∧ lV1 (wd X) gPop0 x H Q) := MtR.imp mt_pop fun x xs H Q ⟨hx, μ, h, dx, r, d1, k⟩ => by
  subst hx
  unfold gPop0 at k
  split at k
  · rename_i n l e
    split at k
    · rename_i d e5
      obtain ⟨a, vs, rfl, e1, e2, e3, e4⟩ := wrL_at r d1 e
      obtain ⟨v, q1, q2⟩ := e4.get e5
      exact ⟨a, vs, v, rfl, rfl, e3, by rw [← e4.len]; exact q1, k.put r e1 e2 e4.dropLast q2⟩
    · exact k.elim
  · exact k.elim
theorem mem_tup {W : Wb} {μ : List Addr} {h : Hc} {H : Hp} {d : D} {v : V} {ps : List PyData} (ht : isTup d = true) (e : toS d h = some (.list ps)) : False := by
  cases d with
  | tup ds =>
    unfold toS toP at e
    cases q : mapO (toP h 8) ds with
    | none => rw [q] at e; cases e
    | some l =>
      rw [q] at e
      simp only at e
      split at e
      · cases e
      · cases e
  | _ => cases ht
theorem mem_lst {h : Hc} {d : D} {ps : List PyData} (ht : ¬ isTup d = true) (e : toS d h = some (.tuple ps)) : False := by
  unfold toS at e
  split at e
  · rename_i p q
    split at e
    · cases e
      cases d with
      | tup ds => exact ht rfl
      | flst ds =>
        unfold toP at q
        cases q2 : mapO (toP h 8) ds with
        | none => rw [q2] at q; cases q
        | some l => rw [q2] at q; cases q
      | ref n =>
        unfold toP at q
        split at q
        · rename_i ds _
          cases q2 : mapO (toP h 8) ds with
          | none => rw [q2] at q; cases q
          | some l => rw [q2] at q; cases q
        · cases q
      | _ => cases q
    · cases e
  · cases e
theorem its_of {W : Wb} {μ : List Addr} {h : Hc} {H : Hp} {dx dy : D} {x y : V} {ps : List PyData} {q : PyData} (r : R W μ h H) (d1 : RD W μ H dx x) (d2 : RD W μ H dy y) (e1 : itsP dx h = some ps) (e2 : toS dy h = some q) :
    RdsP W.K (if isTup dx then "tuple" else "list") x y H ps q := by
  unfold itsP at e1
  obtain ⟨b1, b2⟩ := toS_dp (W := ⟨W, none⟩) r d2 e2
  split at e1
  · rename_i ps' e
    cases e1
    obtain ⟨a1, a2⟩ := toS_dp (W := ⟨W, none⟩) r d1 e
    rw [if_neg (fun z => mem_tup (W := W) (μ := μ) (H := H) (v := x) z e)]
    exact ⟨a1, b1, a2, b2⟩
  · rename_i ps' e
    cases e1
    obtain ⟨a1, a2⟩ := toS_dp (W := ⟨W, none⟩) r d1 e
    rw [if_pos (by
      apply Classical.byContradiction
      exact fun z => mem_lst z e)]
    exact ⟨a1, b1, a2, b2⟩
  · cases e1
theorem cnt_rd {T : String} {hT : Bool} (hh : (if hT then "tuple" else "list") = T) {x : V} {xs : List V} {H : Hp} {Q : VK} (k : lVm (wd X) (fun x ys h => if isTup x = hT then gCountM x ys h else none) x xs H Q) : rCount X.K T x xs H Q := by
  obtain ⟨μ, h, dx, ds, r, d1, d2, k⟩ := k
  change kO _ _ _ _ _ (if isTup dx = hT then gCountM dx ds h else none) at k
  split at k
  · rename_i ht
    unfold gCountM at k
    split at k
    · rename_i y
      obtain ⟨v, rfl, rv⟩ := rd1 d2
      unfold gCount at k
      split at k
      · rename_i ps q e1 e2
        have z := its_of r d1 rv e1 e2
        rw [ht, hh] at z
        exact ⟨v, ps, q, rfl, z, k.here r (by simp only [RD])⟩
      · exact k.elim
    · exact k.elim
  · exact k.elim
theorem lVm.swap {W : Wb} {g g' : GM} {x : V} {xs : List V} {H : Hp} {Q : VK} (k : lVm W g x xs H Q) (e : ∀ x ys h, g x ys h = g' x ys h) : lVm W g' x xs H Q := by
  obtain ⟨μ, h, dx, ds, r, d1, d2, k⟩ := k
  exact ⟨μ, h, dx, ds, r, d1, d2, by rw [← e]; exact k⟩
theorem ifT {α : Type} (b : Bool) (x y : α) : (if b then x else y) = if b = true then x else y := rfl
theorem ifF {α : Type} (b : Bool) (x y : α) : (if b then y else x) = if b = false then x else y := by cases b <;> rfl
theorem s_count (hu : X.A.units + 65 < cLine) (ho : SE X Wx o co) (ha : SA X Wx [e] cs)
    (hbase : attributeBase o "count" X.env (eval o X.env) = eval o X.env := by rfl)
    (hfew : ((backTo cpos (starEach [e] X.env)).all (fun x => !x.1) && (backToKw cpos (keywordEach [] X.env)).all (fun x => x.1.isSome)
      && decide ([e].length + ([] : List Keyword).length + (if ([] : List Keyword).isEmpty then 0 else 1) < 30)) = true := by rfl)
    (hline : (apos.endLine == cpos.line) = true := by rfl) (hs : starEach [e] X.env = (false, eval e X.env) :: starEach [] X.env := by rfl) (hplain : (backTo cpos (starEach [] X.env)).any (·.1) = false := by rfl) :
    SE X Wx (.Call (.Attribute o "count" apos) [e] [] cpos) (cMt isSeq gCountM co cs) :=
  s_mtD PySem.F.slot_list_count PySem.F.slot_tuple_count (by first | rfl | (show builtinType _ = _; rw [builtinType_eq_fast]; kernel_rfl)) (by first | rfl | (show builtinType _ = _; rw [builtinType_eq_fast]; kernel_rfl))
    (MtR.imp (mt_countL hu) fun x xs H Q k => cnt_rd (hT := false) rfl (k.swap fun x ys h => ifF _ _ _)) (MtR.imp (mt_countT hu) fun x xs H Q k => cnt_rd (hT := true) rfl (k.swap fun x ys h => ifT _ _ _)) ho ha hbase hfew hline hs hplain
theorem md_append : typeOf (.builtin "list.append") = pure (.type "method_descriptor") := by first | rfl | (show builtinType _ = _; rw [builtinType_eq_fast]; kernel_rfl)
theorem md_extend : typeOf (.builtin "list.extend") = pure (.type "method_descriptor") := by first | rfl | (show builtinType _ = _; rw [builtinType_eq_fast]; kernel_rfl)
theorem md_pop : typeOf (.builtin "list.pop") = pure (.type "method_descriptor") := by first | rfl | (show builtinType _ = _; rw [builtinType_eq_fast]; kernel_rfl)
end
end Sx

set_option Elab.async false
set_option linter.all false
set_option maxRecDepth 100000
namespace Sx
open PySem PySem.Spec PyProof.Rows L2

section
variable {X : Cx} {Wx : WX} {k n i : Nat} {x : Str} {p pos : Pos} {e : Expr} {es : List Expr} {cs : CA} {tab : List (Str × Fn)}
end
end Sx

set_option Elab.async false
set_option linter.all false
set_option maxRecDepth 100000
namespace Sx
open PySem PySem.Spec PyProof.Rows L2

def cPar3 (i j l : Nat) (a b c : CE) : CS := fun ρ h => ofR (a ρ h) ρ fun x h1 => ofR (b ρ h1) ρ fun y h2 => ofR (c ρ h2) ρ fun z h3 => .ok .nx (((ρ.set i (some x)).set j (some y)).set l (some z)) h3
section
variable {X : Cx} {Wx : WX} {a b c : Expr} {ca cb cc : CE} {pos : Pos}
theorem s_par3 {i j l : Nat} {x y z : Str} {px py pz pt : Pos} {kt k2 pt2} (hc : X.calm = true) (hN : X.N.Nodup) (ha : SE X Wx a ca) (hb : SE X Wx b cb) (hcc : SE X Wx c cc) (hi : X.N[i]? = some x := by rfl) (hj : X.N[j]? = some y := by rfl) (hl : X.N[l]? = some z := by rfl) (hij : i ≠ j := by decide) (hil : i ≠ l := by decide) (hjl : j ≠ l := by decide)
    (hx : X.env.scope.names.lookup x = some .local := by rfl) (hy : X.env.scope.names.lookup y = some .local := by rfl) (hz : X.env.scope.names.lookup z = some .local := by rfl)
    (hw : swappedStores [.Tuple [.Name x px, .Name y py, .Name z pz] kt pt] (.Tuple [a, b, c] k2 pt2) X.env = pure (some [x, y, z]) := by rfl)
    (hs : swapsWithSole [.Tuple [.Name x px, .Name y py, .Name z pz] kt pt] (.Tuple [a, b, c] k2 pt2) pos.line X.env = pure false := by rfl)
    (hs1 : starEach [a, b, c] X.env = (false, eval a X.env) :: starEach [b, c] X.env := by rfl) (hs2 : starEach [b, c] X.env = (false, eval b X.env) :: starEach [c] X.env := by rfl) (hs3 : starEach [c] X.env = (false, eval c X.env) :: starEach [] X.env := by rfl) :
    SS X Wx (.Assign [.Tuple [.Name x px, .Name y py, .Name z pz] kt pt] (.Tuple [a, b, c] k2 pt2) pos) (cPar3 i j l ca cb cc) := by
  refine ps_mono (ps_par3 hc hN hi hj hl hij hil hjl hx hy hz (pa_cons ha (pa_cons hb (pa_cons hcc pa_nil hs3) hs2) hs1) hw hs) fun D σ H ⟨μ, ρ, h, r, rs, k⟩ => ?_
  refine ⟨μ, ρ, h, r, rs, (kS.bind r rs k).imp fun v H1 ⟨x, μ1, h1, _, r1, e1, d1, k1⟩ => ?_⟩
  refine ⟨μ1, ρ, h1, r1, rs.ext e1 r, (kS.bind r1 (rs.ext e1 r) k1).imp fun u H2 ⟨y, μ2, h2, _, r2, e2, d2, k2⟩ => ?_⟩
  refine ⟨μ2, ρ, h2, r2, (rs.ext e1 r).ext e2 r1, (kS.bind r2 ((rs.ext e1 r).ext e2 r1) k2).imp fun w H3 ⟨z, μ3, h3, _, r3, e3, d3, k3⟩ => ?_⟩
  exact ⟨v, u, w, rfl, k3.nx r3 (((((rs.ext e1 r).ext e2 r1).ext e3 r2).put (RD.ext e3 r2 x v (RD.ext e2 r1 x v d1)) i).put (RD.ext e3 r2 y u d2) j |>.put d3 l)⟩
end
theorem s_ty {X : Cx} {Wx : WX} {x : Str} {n : String} {pos : Pos} (hm : X.mg x = none) (hg : Gl X x) (hv : bootBuiltins x = some (.type n)) (hn : x ≠ "__name__" := by decide) (hdb : (x == ("__debug__" : Str)) = false := by decide) : SE X Wx (.Name x pos) (cK (.ty n)) := by
  refine ⟨fun pins s σ H Q I ⟨μ, ρ, h, r, rs, k⟩ => ?_⟩
  exact ld_blt I hg hm hv ⟨.ty n, H, I, rfl, k μ H _ r .refl (by simp only [RD])⟩ hn hdb
def gAddI : G2 := fun x y h => match x, y with | .int i, .int j => some (.int (i + j), h) | _, _ => none
structure FT (K : PySem.W.Frag) (mg : Str → Option Value) (x qual : Str) (st : Stmt) (ps : List Str) (f : Addr) (fd : FuncData) : Prop where
  g : mg x = some (.ref f)
  fn : Fun K x qual st f fd
  b : Binds K fd ps []
  bt : ∀ (s : Shared) (us : List Value), us.length = ps.length → BindsTo s fd ⟨us, []⟩ (ps.zip us)
theorem FT.k {K : PySem.W.Frag} {mg : Str → Option Value} {x qual : Str} {st : Stmt} {ps : List Str} {f : Addr} {fd : FuncData} (T : FT K mg x qual st ps f fd) : PySem.W.keepIn K (.ref f) = true := T.fn.kp


theorem Room.u65 {k : Nat} {A : Around} (r : Room k A) : A.units + 65 < cLine := by have := r.un; omega
theorem Room.u64 {k : Nat} {A : Around} (r : Room k A) : A.units + 64 < cLine := r.units
end Sx

set_option Elab.async false
set_option linter.all false
set_option maxRecDepth 100000
namespace Sx
open PySem PySem.Spec PyProof.Rows L2
open PySem.W PySem.Calls PySem.HandSPX

theorem entry {K : Frag} {mg : Str → Option Value} {m : Fn} {ns : List Int} {H : Hp} {a : Addr} (hO : Only H) (hS : SqL K H a (ns.map V.int)) (hm : ∃ h', m [.flst (ns.map D.int)] [] = .ok (.bl true) h') :
    spOf ⟨K, mg⟩ 1 m [.ref a] H (fun v _ => v = .bl true) fun _ _ _ => False := by
  obtain ⟨h', e⟩ := hm
  have fz : FzL K H a (ns.map V.int) := by
    rcases hS with (q | q) | q
    · rcases hO a with z | ⟨o, xs, z⟩
      · rw [q] at z; cases z
      · rw [q] at z; cases z
    · exact .inl q
    · exact .inr q
  have rd : ∀ l : List Int, RDs ⟨K, mg⟩ [] H (l.map D.int) (l.map V.int) := fun l => by
    induction l with
    | nil => simp [RDs]
    | cons i l ih => exact RDs.cons (by simp only [RD]) ih
  refine ⟨[], [], [.flst (ns.map D.int)], ⟨rfl, List.nodup_nil, fun n a p e => by simp at e⟩, ?_, rfl, ?_⟩
  · refine RDs.cons ?_ RDs.nil
    simp only [RD]
    exact ⟨a, _, rfl, fz, rd ns⟩
  · rw [e]
    intro μ' H' v _ _ r
    simpa only [RD] using r
theorem walkW {l : PySem.W.OpenLaw} {n k : Nat} {q : Program} {loose : List Str} {XP : (Str → Option Value) → Heap → Prop} {YP : World → Heap → Prop} {d : DefRec} {x : Str} {m : Fn}
    (hn : l.most = some n) (hn2 : n ≤ sizeLine) (hdf : d.params.defaults = []) (hr : Room k callerA)
    (hm : ∀ ns : List Int, ns.length ≤ n → ∃ h', m [.flst (ns.map D.int)] [] = .ok (.bl true) h')
    (F : ∀ (w : World) (mg : Str → Option Value) (fa : Addr) (h : Heap), YP w h → h.Ns mainGlobals mg → mg d.name = some (.ref fa) →
      ∃ (K : PySem.W.Frag) (fd : FuncData), K.In h ∧ Binds K fd [x] [] ∧ (∀ base : Heap, K.In base → base.Ns mainGlobals mg → FnOk l.prog w K mg base (L2.CX l.prog w) k fa fd [x] (spOf ⟨K, mg⟩ 1 m)) ∧
        ∀ (s : Shared) (u : Value), BindsTo s fd ⟨[u], []⟩ [(x, u)]) :
    PySem.W.WalkO q loose XP YP l.row.toRowW d [] (fun f vs => PySem.call f vs) := by
  refine Att.attach_call hn hdf fun w s₀ s₁ mg mb fa o pm cd doc a vs ns G Y ho hd hcd hmg hobj hints hlen hg => ?_
  obtain ⟨K, fd, KX, _, hF, hb⟩ := F w mg fa _ Y G.T.g hmg
  exact law_call KX G.T.g G.T.b G.T.builtins G.T.nolimit hg hobj hints (Nat.le_trans hlen hn2) hr hF hb (fun H hO hS => entry hO hS (hm ns hlen)) fun H e s' h => by
    obtain ⟨_, _, _, _, _, _, _, _, _, _, _, _, z⟩ := h
    exact z
section
variable {P : Program} {K : Frag} {h : Heap} {mg : Str → Option Value}
theorem ft_mk (X : K.In h) (G : h.Ns mainGlobals mg) {x : Str} {st : Stmt} {ps : List Str} {f : Addr} {oc : Value} {od an : Option Addr} {osl : Array (Option Value)} {kV doc pm cdv ct : Value} (a : nsIn K mainGlobals x = some (some (.ref f)))
    (l : K.lookup f = some ⟨oc, od, .func (fnOf x x (defArgs st) (defBody st) (defScope st) .none kV doc pm an cdv ct), osl⟩) (c : codeIn K cdv x = true) (k : keepIn K (.ref f) = true)
    (hb : ∀ (kV doc pm : Value) (an : Option Addr) (cdv ct : Value) (us : List Value), us.length = ps.length → bindArgs (fnOf x x (defArgs st) (defBody st) (defScope st) .none kV doc pm an cdv ct) ⟨us, []⟩ = pure (ps.zip us)) : ∃ f fd, FT K mg x x st ps f fd :=
  ⟨f, _, mg_of X G a, fun_mk l c k, (fun_mk (st := st) l c k).binds hb, fun s us hl => .of_eq (hb kV doc pm an cdv ct us hl)⟩
structure ErrK (K : Frag) (c : Str) (C D fI : Addr) : Prop where
  a : nsIn K mainGlobals c = some (some (.ref C))
  cls : ∃ nm q N bs sn sub ab col dd k0 k1 k2 k3 k5, K.lookup C = some (excClassObj nm q C N bs (.ref D :: veTail) true sn sub ab col dd k0 k1 k2 k3 k5 "ValueError.__new__")
  sa : findIn K (.ref C) "__setattr__" = some (some (.builtin "object.__setattr__"))
  ga : findIn K (.ref C) "__getattribute__" = some (some (.builtin "BaseException.__getattribute__"))
  gg : findIn K (.ref C) "__getattr__" = some none
  noN : findIn K (.ref C) "what" = some none
  iC : findIn K (.ref C) "__init__" = some (some (.ref fI))
  kC : keepIn K (.ref C) = true
  tyC : typeIn K (.ref C) = some (.type "type")
theorem errk_mk {c : Str} {C D fI : Addr} {nm q : Str} {N : Addr} {bs : List Value} {sn : List Str} {sub : List Value} {ab : Bool} {col : Option Bool} {dd : Option Addr} {k0 k1 k2 k3 k5 : Option Value} (a : nsIn K mainGlobals c = some (some (.ref C)))
    (cls : K.lookup C = some (excClassObj nm q C N bs [.ref D, .type "ValueError", .type "Exception", .type "BaseException", .type "object"] true sn sub ab col dd k0 k1 k2 k3 k5 "ValueError.__new__"))
    (sa : findIn K (.ref C) "__setattr__" = some (some (.builtin "object.__setattr__"))) (ga : findIn K (.ref C) "__getattribute__" = some (some (.builtin "BaseException.__getattribute__"))) (gg : findIn K (.ref C) "__getattr__" = some none)
    (noN : findIn K (.ref C) "what" = some none) (iC : findIn K (.ref C) "__init__" = some (some (.ref fI))) (kC : keepIn K (.ref C) = true) (tyC : typeIn K (.ref C) = some (.type "type")) : ErrK K c C D fI :=
  ⟨a, ⟨nm, q, N, bs, sn, sub, ab, col, dd, k0, k1, k2, k3, k5, cls⟩, sa, ga, gg, noN, iC, kC, tyC⟩
theorem ErrK.cd {c : Str} {C D fI : Addr} (E : ErrK K c C D fI) : ∃ cd, clsIn K C = some cd ∧ cd.mro = .ref C :: .ref D :: veTail ∧ cd.hasDict = true := by
  obtain ⟨nm, q, N, bs, sn, sub, ab, col, dd, k0, k1, k2, k3, k5, e⟩ := E.cls
  exact ⟨_, by unfold clsIn; rw [e] <;> rfl, rfl, rfl⟩
theorem ErrK.sub {c : Str} {C D fI : Addr} (E : ErrK K c C D fI) (v : Value) : subIn K (.ref C) v = some ((Value.ref C :: Value.ref D :: veTail).contains v) := by
  obtain ⟨cd, h1, h2, _⟩ := E.cd
  show mroIn K C v = _
  unfold mroIn
  rw [h1, Option.bind_some, h2]
  rfl
theorem ve_in (C D : Addr) (T : String) (h : veTail.contains (.type T) = true) : (Value.ref C :: Value.ref D :: veTail).contains (.type T) = true := by
  simp only [List.contains_cons, h, Bool.or_true]
theorem ErrK.txt {c : Str} {C D fI : Addr} (E : ErrK K c C D fI) (X : K.In h) (G : h.Ns mainGlobals mg) (hCD : C ≠ D) : ErrTxt K mg c C D fI where
  gC := mg_of X G E.a
  cls := by
    obtain ⟨nm, q, N, bs, sn, sub, ab, col, dd, k0, k1, k2, k3, k5, e⟩ := E.cls
    exact ⟨nm, q, N, bs, _, sn, sub, ab, col, dd, k0, k1, k2, k3, k5, e, by show refsVE veTail = true; decide +kernel⟩
  sa := E.sa
  ga := E.ga
  gg := E.gg
  noN := E.noN
  iC := E.iC
  kC := E.kC
  exC := by rw [E.sub, ve_in]; decide +kernel
  veC := by rw [E.sub, ve_in]; decide +kernel
  tyC := E.tyC
  hdC := by
    obtain ⟨cd, h1, h2, h3⟩ := E.cd
    unfold hasDictIn
    rw [h1]
    exact h3
  sup := by
    obtain ⟨cd, h1, h2, h3⟩ := E.cd
    unfold ks_superIn
    rw [h1, Option.bind_some, h2]
    have n1 : (Value.ref C != Value.ref D) = true := by simpa using hCD
    have n2 : (Value.ref D != Value.ref D) = false := by simp
    rw [List.dropWhile_cons, if_pos n1, List.dropWhile_cons, n2, if_neg Bool.false_ne_true, List.drop_succ_cons, List.drop_zero]
    rfl
  subD := by
    rw [E.sub]
    simp
theorem ErrK.xf {c : Str} {C D fI : Addr} (E : ErrK K c C D fI) : XfC K C ∧ findIn K (.ref C) wWhat = some none := by
  refine ⟨⟨E.ga, E.gg, ?_, ?_⟩, E.noN⟩
  · rw [E.sub, ve_in]; decide +kernel
  · obtain ⟨cd, h1, h2, h3⟩ := E.cd
    unfold hasDictIn
    rw [h1]
    exact h3
end
end Sx

set_option Elab.async false
set_option linter.all false
set_option maxRecDepth 100000
namespace Sx
open PySem PySem.Spec PyProof.Rows L2
open PySem.W PySem.Calls PySem.HandSPX
section
variable {P : Program} {K : Frag} {h : Heap} {mg : Str → Option Value}
structure RefK (P : Program) (K : Frag) (D fI cc : Addr) : Prop where
  a : nsIn K mainGlobals "Refused" = some (some (.ref D))
  c : ∃ cd, clsIn K D = some cd
  f : ∃ (oc : Value) (od : Option Addr) (doc pm : Value) (an : Option Addr) (cda : Addr) (ct : Value) (osl : Array (Option Value)) (p : IniPos),
    K.lookup fI = some ⟨oc, od, .func (ksFn "__init__" "Refused.__init__" (iniA p) (iniB p) iniS .none .none doc pm an (.ref cda) ct cc), osl⟩ ∧ codeIn K (.ref cda) "Refused.__init__" = true ∧
    ∃ (ccl : Value) (cdd : Option Addr) (vs : Array Value) (ccs : Array (Option Value)) (file : Str) (tf : Tok), K.lookup cda = some ⟨ccl, cdd, .fields vs, ccs⟩ ∧ vs[2]? = some (.str file tf) ∧ ((P.main.file : Str) == file) = true
  cell : ∃ (cl : Value) (cld : Option Addr) (csl : Array (Option Value)), K.lookup cc = some ⟨cl, cld, .cell (some (.ref D)), csl⟩
  s : nsIn K mainGlobals "super" = some none
  top : (P.main.scope.names.lookup ("super" : Str)).isSome = false
  op : nsIn K cStatics "thirdparty.any" = some none
  tf : typeIn K (.ref fI) = some (.type "function")
  be : subIn K (.ref D) (.type "BaseException") = some true
  hd : hasDictIn K D = true
  ty : typeIn K (.ref D) = some (.type "type")
theorem refk_mk (p : IniPos) {D fI cc cda : Addr} {cd : ClassData} {oc : Value} {od : Option Addr} {doc pm : Value} {an : Option Addr} {ct : Value} {osl : Array (Option Value)} {ccl : Value} {cdd : Option Addr} {vs : Array Value} {ccs : Array (Option Value)} {file : Str} {tk : Tok} {cl : Value} {cld : Option Addr} {csl : Array (Option Value)}
    (a : nsIn K mainGlobals "Refused" = some (some (.ref D))) (c : clsIn K D = some cd) (i : findIn K (.ref D) "__init__" = some (some (.ref fI)))
    (l : K.lookup fI = some ⟨oc, od, .func (ksFn "__init__" "Refused.__init__" (iniA p) (iniB p) iniS .none .none doc pm an (.ref cda) ct cc), osl⟩) (co : codeIn K (.ref cda) "Refused.__init__" = true) (lc : K.lookup cda = some ⟨ccl, cdd, .fields vs, ccs⟩) (v : vs[2]? = some (.str file tk)) (fl : ((P.main.file : Str) == file) = true)
    (ce : K.lookup cc = some ⟨cl, cld, .cell (some (.ref D)), csl⟩) (s : nsIn K mainGlobals "super" = some none) (top : (P.main.scope.names.lookup ("super" : Str)).isSome = false) (op : nsIn K cStatics "thirdparty.any" = some none) (tf : typeIn K (.ref fI) = some (.type "function"))
    (be : subIn K (.ref D) (.type "BaseException") = some true) (hd : hasDictIn K D = true) (ty : typeIn K (.ref D) = some (.type "type")) : RefK P K D fI cc :=
  ⟨a, ⟨cd, c⟩, ⟨oc, od, doc, pm, an, cda, ct, osl, p, l, co, ccl, cdd, vs, ccs, file, tk, lc, v, fl⟩, ⟨cl, cld, csl, ce⟩, s, top, op, tf, be, hd, ty⟩
theorem RefK.base {D fI cc : Addr} (R : RefK P K D fI cc) (X : K.In h) (G : h.Ns mainGlobals mg) : BaseTxt P K mg D fI cc :=
  ⟨R.c, R.f, R.cell, mg_none_of X G R.s, R.top, R.op, R.tf⟩
theorem nd_snd {ps : List (Str × Addr)} (h : (ps.map (·.2)).Nodup) {a b : Str} {C : Addr} (h1 : (a, C) ∈ ps) (h2 : (b, C) ∈ ps) : a = b := by
  induction ps with
  | nil => cases h1
  | cons p ps ih =>
    rw [List.map_cons, List.nodup_cons] at h
    rcases List.mem_cons.mp h1 with e1 | e1 <;> rcases List.mem_cons.mp h2 with e2 | e2
    · rw [← e1] at e2; cases e2; rfl
    · exact absurd (List.mem_map.mpr ⟨_, e2, by rw [← e1]⟩) h.1
    · exact absurd (List.mem_map.mpr ⟨_, e1, by rw [← e2]⟩) h.1
    · exact ih h.2 e1 e2
theorem ef_mk (X : K.In h) (G : h.Ns mainGlobals mg) {D fI cc : Addr} {ps : List (Str × Addr)} (R : RefK P K D fI cc) (hE : ∀ p ∈ ps, ErrK K p.1 p.2 D fI) (hn : (D :: ps.map (·.2)).Nodup) (hs : (("Refused" : Str) :: ps.map (·.1)).Nodup) : EF K mg (ps.map (·.1)) := by
  rw [List.nodup_cons] at hn hs
  have at_ : ∀ {c C}, c ∈ ps.map (·.1) → mg c = some (.ref C) → (c, C) ∈ ps := fun {c C} hc hm => by
    obtain ⟨⟨c', C'⟩, h1, rfl⟩ := List.mem_map.mp hc
    have := (mg_of X G (hE _ h1).a).symm.trans hm
    cases this
    exact h1
  refine ⟨fun c hc C hC => (hE _ (at_ hc hC)).xf, fun c hc c' hc' C C' hC hC' => ?_⟩
  have E := hE _ (at_ hc hC)
  rcases List.mem_cons.mp hc' with rfl | hc2
  · have e := (mg_of X G R.a).symm.trans hC'
    cases e
    refine exm_ref R.be R.hd R.ty ?_
    rw [E.sub]
    simp
  · have E' := hE _ (at_ hc2 hC')
    refine exm_ref (by rw [E'.sub, ve_in]; decide +kernel) ?_ E'.tyC ?_
    · obtain ⟨cd, h1, h2, h3⟩ := E'.cd
      unfold hasDictIn
      rw [h1]
      exact h3
    · rw [E.sub]
      have nR : c' ≠ ("Refused" : Str) := fun z => hs.1 (z ▸ hc2)
      have nD : C' ≠ D := fun z => hn.1 (z ▸ List.mem_map.mpr ⟨_, at_ hc2 hC', rfl⟩)
      have nv : veTail.contains (Value.ref C') = false := by
        unfold veTail
        simp
      have ec : (Value.ref C' == Value.ref C) = decide (c' = c) := by
        by_cases z : c' = c
        · subst z
          have := hC.symm.trans hC'
          cases this
          simp
        · have : C' ≠ C := fun y => z (nd_snd hn.2 (at_ hc2 hC') (y ▸ at_ hc hC))
          simp [z, this]
      rw [List.contains_cons, List.contains_cons, ec, nv]
      have eD : (Value.ref C' == Value.ref D) = false := by simpa using nD
      rw [eD, decide_eq_false nR]
      rfl
theorem con_mk (X : K.In h) (G : h.Ns mainGlobals mg) {x : Str} {i : Int} {t : Tok} (a : nsIn K mainGlobals x = some (some (.int i t))) : ∃ t, mg x = some (.int i t) := ⟨t, mg_of X G a⟩
theorem cal_mk (X : K.In h) (G : h.Ns mainGlobals mg) {st : Stmt} {C fI : Addr} {oc : Value} {od an : Option Addr} {osl : Array (Option Value)} {kV doc pm cdv ct : Value} (a : nsIn K mainGlobals cal = some (some (.ref C))) (i : findIn K (.ref C) "__init__" = some (some (.ref fI)))
    (l : K.lookup fI = some ⟨oc, od, .func (fnOf "__init__" "Calendar.__init__" (defArgs st) (defBody st) (defScope st) .none kV doc pm an cdv ct), osl⟩) (c : codeIn K cdv "Calendar.__init__" = true) (k : keepIn K (.ref fI) = true)
    (mk : makesIn K C = true) (fn : isFn K (.ref fI) = true) (kC : keepIn K (.ref C) = true) (pg : plainGet K C Str.empty = true) (hd : hasDictIn K C = true) (po : plainOver K C = true) (sa : findIn K (.ref C) "__setattr__" = some (some (.builtin "object.__setattr__")))
    (nb : findIn K (.ref C) "born" = some none) (nd : findIn K (.ref C) "days" = some none)
    (hb : ∀ (kV doc pm : Value) (an : Option Addr) (cdv ct : Value) (us : List Value), us.length = iniN.length → bindArgs (fnOf "__init__" "Calendar.__init__" (defArgs st) (defBody st) (defScope st) .none kV doc pm an cdv ct) ⟨us, []⟩ = pure (iniN.zip us)) :
    ∃ C fI fd, CalTxt K mg C fI ∧ Fun K "__init__" "Calendar.__init__" st fI fd ∧ Binds K fd iniN [] :=
  ⟨C, fI, _, ⟨mg_of X G a, ⟨mk, i, fn, kC⟩, ⟨pg, hd, po, sa⟩, nb, nd⟩, fun_mk l c k, (fun_mk (st := st) l c k).binds hb⟩
end
end Sx

set_option Elab.async false
set_option linter.all false
set_option maxRecDepth 100000
namespace Sx
open PySem PySem.Spec PyProof.Rows L2
section
variable {W : Wd} {μ : List Addr} {h : Hc} {H : Hp}
end
section
variable {X : Cx} {Wx : WX} {tg a b e : Expr} {ca cb ce : CE} {p pos : Pos}
end
end Sx

set_option Elab.async false
set_option linter.all false
set_option maxRecDepth 100000
namespace Sx
open PySem

@[irreducible] def wE {α : Type} (r : Res α) (Q : α → Hc → Prop) : Prop := match r with
  | .ok a h => Q a h
  | .exn _ _ _ => False
  | .stuck => False
@[irreducible] def wX {α : Type} (r : Res α) (Q : α → Hc → Prop) (E : Str → D → Hc → Prop) : Prop := match r with
  | .ok a h => Q a h
  | .exn c x h => E c x h
  | .stuck => False
@[irreducible] def wS (r : ResS) (Q : Fl → Rho → Hc → Prop) : Prop := match r with
  | .ok f ρ h => Q f ρ h
  | .stuck => False
section
variable {α β : Type} {r : Res α} {f : α → Hc → Res β} {g : α → Hc → ResS} {Q Q' : α → Hc → Prop} {R : β → Hc → Prop} {E : Str → D → Hc → Prop} {S S' : Fl → Rho → Hc → Prop} {ρ : Rho} {h : Hc}
theorem wE_ok {a : α} : wE (.ok a h) Q = Q a h := by unfold wE; rfl
theorem wE_no : wE (.stuck : Res α) Q = False := by unfold wE; rfl
theorem wE_xn {c : Str} {x : D} : wE (.exn c x h : Res α) Q = False := by unfold wE; rfl
theorem wX_ok {a : α} : wX (.ok a h) Q E = Q a h := by unfold wX; rfl
theorem wX_no : wX (.stuck : Res α) Q E = False := by unfold wX; rfl
theorem wX_xn {c : Str} {x : D} : wX (.exn c x h : Res α) Q E = E c x h := by unfold wX; rfl
theorem wS_ok {fl : Fl} : wS (.ok fl ρ h) S = S fl ρ h := by unfold wS; rfl
theorem wS_no : wS .stuck S = False := by unfold wS; rfl
theorem wE.mono (w : wE r Q) (k : ∀ a h, Q a h → Q' a h) : wE r Q' := by
  cases r with
  | ok a h => rw [wE_ok] at w ⊢; exact k a h w
  | exn c x h => rw [wE_xn] at w; exact w.elim
  | stuck => rw [wE_no] at w; exact w.elim
theorem wE.eq (w : wE r Q) : ∃ a h, r = .ok a h ∧ Q a h := by
  cases r with
  | ok a h => rw [wE_ok] at w; exact ⟨a, h, rfl, w⟩
  | exn c x h => rw [wE_xn] at w; exact w.elim
  | stuck => rw [wE_no] at w; exact w.elim
theorem wE.of {a : α} (e : r = .ok a h) (q : Q a h) : wE r Q := by rw [e, wE_ok]; exact q
theorem wE.x (w : wE r Q) : wX r Q E := by
  obtain ⟨a, h, rfl, q⟩ := w.eq
  rw [wX_ok]; exact q
theorem wS.eq {r : ResS} (w : wS r S) : ∃ f ρ h, r = .ok f ρ h ∧ S f ρ h := by
  cases r with
  | ok f ρ h => rw [wS_ok] at w; exact ⟨f, ρ, h, rfl, w⟩
  | stuck => rw [wS_no] at w; exact w.elim
theorem wS.mono {r : ResS} (w : wS r S) (k : ∀ f ρ h, S f ρ h → S' f ρ h) : wS r S' := by
  obtain ⟨f, ρ, h, rfl, q⟩ := w.eq
  rw [wS_ok]; exact k f ρ h q
theorem wS_seq {a b : CS} : wS (cSeq a b ρ h) S = wS (a ρ h) fun f ρ1 h1 => match f with | .nx => wS (b ρ1 h1) S | f => S f ρ1 h1 := by
  unfold cSeq
  cases a ρ h with
  | stuck => exact wS_no.trans wS_no.symm
  | ok f ρ1 h1 => rw [wS_ok (S := fun f ρ h => match f with | .nx => _ | f => _)]; cases f <;> first | rfl | exact wS_ok
end
theorem for_inv {t : TGT} {b : CS} {Q : Fl → Rho → Hc → Prop} (I : List D → Rho → Hc → Prop) (end_ : ∀ ρ h, I [] ρ h → Q .nx ρ h)
    (step : ∀ d r ρ h, I (d :: r) ρ h → ∃ ρ1, asg t d ρ = some ρ1 ∧ wS (b ρ1 h) fun f ρ2 h2 => match f with | .nx => I r ρ2 h2 | .ct => I r ρ2 h2 | .bk => Q .nx ρ2 h2 | f => Q f ρ2 h2) :
    ∀ (l : List D) (ρ : Rho) (h : Hc), I l ρ h → wS (cForB t b l ρ h) Q
  | [], ρ, h, i => by
    unfold cForB
    rw [wS_ok]; exact end_ ρ h i
  | d :: r, ρ, h, i => by
    obtain ⟨ρ1, e, w⟩ := step d r ρ h i
    simp only [cForB, e]
    obtain ⟨f, ρ2, h2, q, w⟩ := w.eq
    rw [q]
    cases f with
    | nx => exact for_inv I end_ step r ρ2 h2 w
    | ct => exact for_inv I end_ step r ρ2 h2 w
    | bk => exact wS_ok.mpr w
    | ret d => exact wS_ok.mpr w
    | exn c x => exact wS_ok.mpr w
theorem while_inv {t : CT} {b : CS} {Q : Fl → Rho → Hc → Prop} (I : Nat → Rho → Hc → Prop)
    (step : ∀ m ρ h, I m ρ h → wX (t ρ h) (fun x h1 => match x with
      | true => wS (b ρ h1) fun f ρ2 h2 => match f with | .nx => ∃ k, k < m ∧ I k ρ2 h2 | .ct => ∃ k, k < m ∧ I k ρ2 h2 | .bk => Q .nx ρ2 h2 | f => Q f ρ2 h2
      | false => Q .nx ρ h1) (fun c x h1 => Q (.exn c x) ρ h1)) :
    ∀ (n m : Nat) (ρ : Rho) (h : Hc), m < n → I m ρ h → wS (cWhile n t b ρ h) Q
  | 0, m, ρ, h, hm, _ => absurd hm (Nat.not_lt_zero _)
  | n + 1, m, ρ, h, hm, i => by
    have w := step m ρ h i
    unfold cWhile
    cases e : t ρ h with
    | stuck => rw [e, wX_no] at w; exact w.elim
    | exn c x h1 => rw [e, wX_xn] at w; exact wS_ok.mpr w
    | ok x h1 =>
      rw [e, wX_ok] at w
      cases x with
      | false => exact wS_ok.mpr w
      | true =>
        simp only [ofR]
        have w : wS (b ρ h1) _ := w
        obtain ⟨f, ρ2, h2, q, w⟩ := w.eq
        rw [q]
        cases f with
        | nx =>
          obtain ⟨k, hk, i2⟩ := w
          exact while_inv I step n k ρ2 h2 (by omega) i2
        | ct =>
          obtain ⟨k, hk, i2⟩ := w
          exact while_inv I step n k ρ2 h2 (by omega) i2
        | bk => exact wS_ok.mpr w
        | ret d => exact wS_ok.mpr w
        | exn c x => exact wS_ok.mpr w
theorem er_int {i : Int} : D.isErr (.int i) = false := id rfl
theorem er_bl {i : Bool} : D.isErr (.bl i) = false := id rfl
theorem er_str {i : Str} : D.isErr (.str i) = false := id rfl
theorem er_non : D.isErr .non = false := id rfl
theorem er_tup {i : List D} : D.isErr (.tup i) = false := id rfl
theorem er_flst {i : List D} : D.isErr (.flst i) = false := id rfl
theorem er_ref {i : Nat} : D.isErr (.ref i) = false := id rfl
theorem er_obj {c : Str} {n : List Str} {i : List D} : D.isErr (.obj c n i) = false := id rfl
theorem er_ty {i : String} : D.isErr (.ty i) = false := id rfl
theorem er_gl {i : Str} : D.isErr (.gl i) = false := id rfl
theorem get_set {h : Hc} {n : Nat} {x y : Bool × O} (e : h[n]? = some y) : (h.set n x)[n]? = some x := List.getElem?_set_self (List.getElem?_eq_some_iff.mp e).1
end Sx

set_option Elab.async false
set_option linter.all false
set_option maxRecDepth 100000
namespace Sx
open PySem
section
variable {α β : Type} {a b c : CE} {t u : CT} {x y : CS} {l : CA} {ρ ρ' : Rho} {h h' : Hc} {i j k n : Nat} {g g' : G2} {g1 : G1} {gl : GL} {gm : GM} {m : Fn} {d e : D} {ds es : List D} {p q : Int} {s : Str} {B : Bool}
theorem q_bok {v : α} {f : α → Hc → Res β} : Res.bind (.ok v h) f = f v h := id rfl
theorem q_bxn {v : D} {f : α → Hc → Res β} : Res.bind (.exn s v h) f = .exn s v h := id rfl
theorem q_ofok {v : α} {f : α → Hc → ResS} : ofR (.ok v h) ρ f = f v h := id rfl
theorem q_ofxn {v : D} {f : α → Hc → ResS} : ofR (.exn s v h) ρ f = .ok (.exn s v) ρ h := id rfl
theorem q_vo : VO.res (some (d, h)) = .ok d h := id rfl
theorem q_var : cVar i ρ h = match ρ[i]? with | some (some d) => if d.isErr then .stuck else .ok d h | _ => .stuck := id rfl
theorem q_k : cK d ρ h = .ok d h := id rfl
theorem q_c1 : c1 g1 a ρ h = (a ρ h).bind fun x h1 => (g1 x h1).res := id rfl
theorem q_c2 : c2 g a b ρ h = (a ρ h).bind fun x h1 => (b ρ h1).bind fun y h2 => (g x y h2).res := id rfl
theorem q_nil : cNil ρ h = .ok [] h := id rfl
theorem q_cons : cCons a l ρ h = (a ρ h).bind fun x h1 => (l ρ h1).bind fun xs h2 => .ok (x :: xs) h2 := id rfl
theorem q_c : cC gl l ρ h = (l ρ h).bind fun xs h1 => (gl xs h1).res := id rfl
theorem q_call : cCall m l ρ h = (l ρ h).bind m := id rfl
theorem q_callK {is : List Nat} : cCallK m is l ρ h = (l ρ h).bind fun xs h1 => m (pick is xs) h1 := id rfl
theorem q_b : cB a ρ h = (a ρ h).bind fun x h1 => match x with | .bl b => .ok b h1 | _ => .stuck := id rfl
theorem q_tru : cTru a ρ h = (a ρ h).bind fun x h1 => match truD x h1 with | some b => .ok b h1 | none => .stuck := id rfl
theorem q_not : cNot t ρ h = (t ρ h).bind fun b h1 => .ok (!b) h1 := id rfl
theorem q_and : cAnd t u ρ h = (t ρ h).bind fun x h1 => if x = true then u ρ h1 else .ok false h1 := by unfold cAnd; congr; funext x h1; cases x <;> rfl
theorem q_or : cOr t u ρ h = (t ρ h).bind fun x h1 => if x = true then .ok true h1 else u ρ h1 := by unfold cOr; congr; funext x h1; cases x <;> rfl
theorem q_ifE : cIfE t a b ρ h = (t ρ h).bind fun x h1 => if x = true then a ρ h1 else b ρ h1 := by unfold cIfE; congr; funext x h1; cases x <;> rfl
theorem q_andV : cAndV a b ρ h = (a ρ h).bind fun x h1 => match x with | .bl B => if B = true then b ρ h1 else .ok (.bl false) h1 | _ => .stuck := by
  unfold cAndV; congr; funext x h1
  cases x with
  | bl B => cases B <;> rfl
  | _ => rfl
theorem q_orV : cOrV a b ρ h = (a ρ h).bind fun x h1 => match x with | .bl B => if B = true then .ok (.bl true) h1 else b ρ h1 | _ => .stuck := by
  unfold cOrV; congr; funext x h1
  cases x with
  | bl B => cases B <;> rfl
  | _ => rfl
theorem q_notV : cNotV a ρ h = (a ρ h).bind fun x h1 => match x with | .bl b => .ok (.bl (!b)) h1 | _ => .stuck := id rfl
theorem q_chain : cChain g g' a b c ρ h = (a ρ h).bind fun x h1 => (b ρ h1).bind fun y h2 => (g x y h2).res.bind fun z h3 => match z with
    | .bl B => if B = true then (c ρ h3).bind fun w h4 => (g' y w h4).res else .ok (.bl false) h3
    | _ => .stuck := by
  unfold cChain; congr; funext x h1; congr; funext y h2; congr; funext z h3
  cases z with
  | bl B => cases B <;> rfl
  | _ => rfl
def thenS (r : ResS) (y : CS) : ResS := match r with
  | .ok .nx ρ' h' => y ρ' h'
  | r => r
theorem q_seq : cSeq x y ρ h = thenS (x ρ h) y := id rfl
theorem q_tnx : thenS (.ok .nx ρ h) y = y ρ h := id rfl
theorem q_trt : thenS (.ok (.ret d) ρ h) y = .ok (.ret d) ρ h := id rfl
theorem q_txn : thenS (.ok (.exn s d) ρ h) y = .ok (.exn s d) ρ h := id rfl
theorem q_tbk : thenS (.ok .bk ρ h) y = .ok .bk ρ h := id rfl
theorem q_tct : thenS (.ok .ct ρ h) y = .ok .ct ρ h := id rfl
theorem q_tif {P : Prop} [Decidable P] {r r' : ResS} : thenS (if P then r else r') y = if P then thenS r y else thenS r' y := by split <;> rfl
theorem q_bif {P : Prop} [Decidable P] {r r' : Res α} {f : α → Hc → Res β} : Res.bind (if P then r else r') f = if P then Res.bind r f else Res.bind r' f := by split <;> rfl
theorem q_oif {P : Prop} [Decidable P] {r r' : Res α} {f : α → Hc → ResS} : ofR (if P then r else r') ρ f = if P then ofR r ρ f else ofR r' ρ f := by split <;> rfl
theorem q_eif {P : Prop} [Decidable P] {r r' : ResS} : endD (if P then r else r') = if P then endD r else endD r' := by split <;> rfl
theorem q_skip : cSkip ρ h = .ok .nx ρ h := id rfl
theorem q_drop : cDrop a ρ h = ofR (a ρ h) ρ fun _ h1 => .ok .nx ρ h1 := id rfl
theorem q_ret : cRet a ρ h = ofR (a ρ h) ρ fun d h1 => .ok (.ret d) ρ h1 := id rfl
theorem q_retN : cRetN ρ h = .ok (.ret .non) ρ h := id rfl
theorem q_bk : cBk ρ h = .ok .bk ρ h := id rfl
theorem q_ct : cCt ρ h = .ok .ct ρ h := id rfl
theorem q_set : cSet i a ρ h = ofR (a ρ h) ρ fun d h1 => .ok .nx (ρ.set i (some d)) h1 := id rfl
theorem q_par : cPar i j a b ρ h = ofR (a ρ h) ρ fun x h1 => ofR (b ρ h1) ρ fun y h2 => .ok .nx ((ρ.set i (some x)).set j (some y)) h2 := id rfl
theorem q_par3 : cPar3 i j k a b c ρ h = ofR (a ρ h) ρ fun x h1 => ofR (b ρ h1) ρ fun y h2 => ofR (c ρ h2) ρ fun z h3 => .ok .nx (((ρ.set i (some x)).set j (some y)).set k (some z)) h3 := id rfl
theorem q_asg {t : TGT} : cAsg t a ρ h = ofR (a ρ h) ρ fun d h1 => match asg t d ρ with | some ρ1 => .ok .nx ρ1 h1 | none => .stuck := id rfl
theorem q_if : cIf t x y ρ h = ofR (t ρ h) ρ fun z h1 => if z = true then x ρ h1 else y ρ h1 := by unfold cIf; congr; funext z h1; cases z <;> rfl
theorem q_raise : cRaise s a ρ h = ofR (a ρ h) ρ fun x h1 => .ok (.exn s x) ρ h1 := id rfl
theorem q_mt {ok : D → Hc → Bool} : cMt ok gm a l ρ h = (a ρ h).bind fun x h1 => if ok x h1 then (l ρ h1).bind fun ys h2 => (gm x ys h2).res else .stuck := id rfl
theorem q_mt0 {ok : D → Hc → Bool} : cMt0 ok g1 a ρ h = (a ρ h).bind fun x h1 => if ok x h1 then (g1 x h1).res else .stuck := id rfl
theorem q_itS : cItS a ρ h = (a ρ h).bind fun d h1 => match seqL d h1 with | some p => .ok p h1 | none => .stuck := id rfl
theorem q_itE : cItE a ρ h = (a ρ h).bind fun d h1 => match seqL d h1 with | some p => .ok (numb 0 p.1, p.2) h1 | none => .stuck := id rfl
theorem q_end0 : endD (.ok .nx ρ h) = .ok .non h := id rfl
theorem q_endr : endD (.ok (.ret d) ρ h) = .ok d h := id rfl
theorem q_endx : endD (.ok (.exn s d) ρ h) = .exn s d h := id rfl
-- operations
theorem q_lt : gLt (.int p) (.int q) h = some (.bl (decide (p < q)), h) := id rfl
theorem q_le : gLe (.int p) (.int q) h = some (.bl (decide (p ≤ q)), h) := id rfl
theorem q_gt : gGt (.int p) (.int q) h = some (.bl (decide (q < p)), h) := id rfl
theorem q_ge : gGe (.int p) (.int q) h = some (.bl (decide (q ≤ p)), h) := id rfl
theorem q_sub : gSub (.int p) (.int q) h = some (.int (p - q), h) := id rfl
theorem q_add : gAdd (.int p) (.int q) h = some (.int (p + q), h) := id rfl
theorem q_addT (z : ds.length + es.length ≤ sizeLine) : gAdd (.tup ds) (.tup es) h = some (.tup (ds ++ es), h) := if_pos z
theorem q_mul (z : mulOk p q = true) : gMul (.int p) (.int q) h = some (.int (p * q), h) := if_pos z
theorem q_div (z : divOk q = true) : gDiv (.int p) (.int q) h = some (.int (p.fdiv q), h) := if_pos z
theorem q_mod (z : ¬ q = 0) : gMod (.int p) (.int q) h = some (.int (p.fmod q), h) := if_neg z
theorem q_neg : gNeg (.int p) h = some (.int (-p), h) := id rfl
theorem q_inti : gInt [.int p] h = some (.int p, h) := id rfl
theorem q_intb : gInt [.bl B] h = some (.int (if B = true then 1 else 0), h) := by cases B <;> rfl
theorem q_max : gMax [.int p, .int q] h = some (.int (if q > p then q else p), h) := id rfl
theorem q_min : gMin [.int p, .int q] h = some (.int (if q < p then q else p), h) := id rfl
theorem q_lst (z : ds.length ≤ sizeLine) : gLstD ds h = some (.ref h.length, h ++ [(false, .lst ds)]) := if_pos z
theorem q_tup (z : ds.length ≤ sizeLine) : gTupD ds h = some (.tup ds, h) := if_pos z
theorem q_lenT : gLen [.tup ds] h = some (.int ds.length, h) := id rfl
theorem q_lenF : gLen [.flst ds] h = some (.int ds.length, h) := id rfl
theorem q_lenR {f : Bool} (z : h[n]? = some (f, .lst ds)) : gLen [.ref n] h = some (.int ds.length, h) := by simp only [gLen, asSeq, z]
theorem q_truT : truD (.tup ds) h = some (!ds.isEmpty) := id rfl
theorem q_truF : truD (.flst ds) h = some (!ds.isEmpty) := id rfl
theorem q_truB : truD (.bl B) h = some B := id rfl
theorem q_truI : truD (.int p) h = some (p != 0) := id rfl
theorem q_ixT : gIx (.tup ds) (.int p) h = match L2.atI ds p with | some d => some (d, h) | none => none := id rfl
theorem q_ixF : gIx (.flst ds) (.int p) h = match L2.atI ds p with | some d => some (d, h) | none => none := id rfl
theorem q_ixR {f : Bool} (z : h[n]? = some (f, .lst ds)) : gIx (.ref n) (.int p) h = match L2.atI ds p with | some d => some (d, h) | none => none := by
  simp only [gIx, asSeq, z] <;> (cases L2.atI ds p <;> rfl)
theorem at_nat {l : List D} (z : l[i]? = some d) : L2.atI l (i : Int) = some d := by
  have hl := (List.getElem?_eq_some_iff.mp z).1
  unfold L2.atI L2.ixN
  have h1 : (0 : Int) ≤ (i : Int) := by omega
  have h2 : (i : Int) < (l.length : Nat) := by omega
  rw [if_pos h1, if_pos h2]
  simpa using z
theorem at_0 {l : List D} : L2.atI (d :: l) 0 = some d := at_nat (i := 0) rfl
theorem at_1 {l : List D} : L2.atI (d :: e :: l) 1 = some e := at_nat (i := 1) rfl
end
end Sx

set_option Elab.async false
set_option linter.all false
set_option maxRecDepth 100000
namespace Sx
open PySem
abbrev iL (l : List Int) : List D := l.map D.int
abbrev iT (l : List Int) : D := .tup (iL l)
theorem intsOf_iL : ∀ l : List Int, intsOf (iL l) = some l
  | [] => id rfl
  | i :: l => by
    show (match intsOf (iL l) with | some r => some (i :: r) | none => none) = _
    rw [intsOf_iL l]
theorem blsOf_bL : ∀ l : List Bool, blsOf (l.map D.bl) = some l
  | [] => id rfl
  | i :: l => by
    show (match blsOf (l.map D.bl) with | some r => some (i :: r) | none => none) = _
    rw [blsOf_bL l]
theorem mapO_int (h : Hc) (n : Nat) : ∀ l : List Int, mapO (toP h n) (iL l) = some (l.map PyData.int)
  | [] => id rfl
  | i :: l => by
    have e : toP h n (.int i) = some (.int i) := by cases n <;> rfl
    have ih := mapO_int h n l
    simp only [iL] at ih
    simp only [iL, List.map_cons, mapO, e, ih]
theorem lay_int : ∀ l : List Int, PyData.canLayAll0 (l.map PyData.int) = true
  | [] => by simp [PyData.canLayAll0]
  | i :: l => by simp [PyData.canLayAll0, PyData.canLay0, lay_int l]
theorem dep_int : ∀ l : List Int, PyData.depthAll (l.map PyData.int) = 0
  | [] => by simp [PyData.depthAll]
  | i :: l => by simp [PyData.depthAll, PyData.depth, dep_int l]
theorem sh_int (i : Int) : SeqAt.shaped (.int i) = true := by simp [SeqAt.shaped, PyData.canLay0, PyData.depth]
theorem sh_tup (l : List Int) : SeqAt.shaped (.tuple (l.map PyData.int)) = true := by
  unfold SeqAt.shaped
  simp [PyData.canLay0, PyData.depth, lay_int, dep_int]
section
variable {h : Hc} {a b : List Int} {i j : Int} {n m : Nat} {f g : Bool}
theorem toS_int : toS (.int i) h = some (.int i) := by
  show (match some (PyData.int i) with | some p => if SeqAt.shaped p then some p else none | none => none) = _
  simp only [sh_int, if_true]
theorem toS_tup : toS (iT a) h = some (.tuple (a.map PyData.int)) := by
  unfold toS toP
  rw [mapO_int]
  simp only [sh_tup, if_true]
theorem eqv_int : PyData.eqv (.int i) (.int j) = decide (i = j) := by
  simp only [PyData.eqv]
  rfl
theorem eqvs_int : ∀ a b : List Int, PyData.eqvAll (a.map PyData.int) (b.map PyData.int) = decide (a = b)
  | [], [] => by simp [PyData.eqvAll]
  | [], _ :: _ => by simp [PyData.eqvAll]
  | _ :: _, [] => by simp [PyData.eqvAll]
  | x :: a, y :: b => by
    simp [PyData.eqvAll, eqv_int, eqvs_int a b]
theorem eqD_int : eqD (.int i) (.int j) h = some (decide (i = j)) := by
  simp only [eqD, toS_int, eqv_int]
theorem eqD_tup : eqD (iT a) (iT b) h = some (decide (a = b)) := by
  simp only [eqD, toS_tup]
  simp [PyData.eqv, eqvs_int]
theorem q_eqI : gEq (.int i) (.int j) h = some (.bl (decide (i = j)), h) := by simp only [gEq, eqD_int]
theorem q_eqT : gEq (iT a) (iT b) h = some (.bl (decide (a = b)), h) := by simp only [gEq, eqD_tup]
theorem q_neT : gNe (iT a) (iT b) h = some (.bl (!decide (a = b)), h) := by simp only [gNe, eqD_tup]
theorem countP_int : ∀ a : List Int, (a.map PyData.int).countP (fun z => PyData.eqv z (.int i)) = a.count i
  | [] => id rfl
  | x :: a => by
    rw [List.map_cons, List.countP_cons, List.count_cons, countP_int a, eqv_int]
    by_cases c : x = i <;> simp [c]
theorem q_cntT : gCountM (iT a) [.int i] h = some (.int (a.count i : Nat), h) := by
  simp only [gCountM, gCount, itsP, toS_tup, toS_int, countP_int]
theorem q_sumT : gSum [iT a] h = some (.int a.sum, h) := by simp only [gSum, asSeq, intsOf_iL]
theorem q_sumR (e : h[n]? = some (f, .lst (iL a))) : gSum [.ref n] h = some (.int a.sum, h) := by simp only [gSum, asSeq, e, intsOf_iL]
theorem q_allR {l : List Bool} (e : h[n]? = some (f, .lst (l.map D.bl))) : gAll [.ref n] h = some (.bl (l.all id), h) := by
  simp only [gAll, isTup, Bool.false_eq_true, if_false, asSeq, e, blsOf_bL]
theorem q_tupR {ds : List D} (e : h[n]? = some (f, .lst ds)) : gTuple [.ref n] h = some (.tup ds, h) := by simp only [gTuple, asSeq, e]
theorem q_app {ds : List D} {d : D} (e : h[n]? = some (false, .lst ds)) (z : ds.length < sizeLine) : gAppend (.ref n) [d] h = some (.non, h.set n (false, .lst (ds ++ [d]))) := by
  simp only [gAppend, wrL, e, z, if_true]
theorem ok_lst {ds : List D} (e : h[n]? = some (f, .lst ds)) : isLst (.ref n) h = true := by simp only [isLst, e]
theorem ok_seqT {ds : List D} : isSeq (.tup ds) h = true := id rfl
end
theorem ulkS_nil {h1 : Hc} {r : ResS} : ulkS h1 [] r = r := by cases r <;> rfl
theorem q_for {ci : CI} {t : TGT} {b : CS} {ρ : Rho} {h h1 : Hc} {l : List D} (e : ci ρ h = .ok (l, []) h1) : cFor ci t b ρ h = cForB t b l ρ h1 := by
  unfold cFor
  rw [e]
  exact ulkS_nil
theorem q_thenw {r : ResS} {y : CS} {S : Fl → Rho → Hc → Prop} : wS (thenS r y) S = wS r fun f ρ h => match f with | .nx => wS (y ρ h) S | f => S f ρ h := by
  cases r with
  | stuck => exact wS_no.trans wS_no.symm
  | ok f ρ h => rw [wS_ok (S := fun f ρ h => match f with | .nx => _ | f => _)]; cases f <;> first | rfl | exact wS_ok
theorem wE_end {r : ResS} {Q : D → Hc → Prop} (w : wS r fun f _ h => match f with | .nx => Q .non h | .ret d => Q d h | _ => False) : wE (endD r) Q := by
  obtain ⟨f, ρ, h, e, q⟩ := w.eq
  subst e
  cases f with
  | nx => exact wE_ok.mpr q
  | ret d => exact wE_ok.mpr q
  | _ => exact q.elim
theorem wE_run {n N : Nat} {b : CS} {ds : List D} {h : Hc} {Q : D → Hc → Prop} (e : ds.length = n) (w : wS (b (ds.map some ++ List.replicate (N - n) none) h) fun f _ h => match f with | .nx => Q .non h | .ret d => Q d h | _ => False) : wE (runD n N b ds h) Q := by
  unfold runD
  rw [if_pos e]
  exact wE_end w
theorem wS.of {r : ResS} {f : Fl} {ρ : Rho} {h : Hc} {S : Fl → Rho → Hc → Prop} (e : r = .ok f ρ h) (q : S f ρ h) : wS r S := by rw [e, wS_ok]; exact q
theorem wS_step {x y : CS} {ρ ρ' : Rho} {h h' : Hc} {S : Fl → Rho → Hc → Prop} (e : x ρ h = .ok .nx ρ' h') (w : wS (y ρ' h') S) : wS (cSeq x y ρ h) S := by
  rw [q_seq, e, q_tnx]
  exact w
theorem wS_loop {x y : CS} {ρ : Rho} {h : Hc} {S : Fl → Rho → Hc → Prop} (w : wS (x ρ h) fun f ρ h => match f with | .nx => wS (y ρ h) S | f => S f ρ h) : wS (cSeq x y ρ h) S := by
  rw [q_seq, q_thenw]
  exact w
theorem wS_ret {a : CE} {ρ : Rho} {h h' : Hc} {d : D} {S : Fl → Rho → Hc → Prop} (e : a ρ h = .ok d h') (w : S (.ret d) ρ h') : wS (cRet a ρ h) S := by
  rw [q_ret, e, q_ofok, wS_ok]
  exact w
theorem sz_0 : 0 < sizeLine := by decide
theorem sz_1 : 1 ≤ sizeLine := by decide
theorem sz_2 : 2 ≤ sizeLine := by decide
theorem sz_3 : 3 ≤ sizeLine := by decide
theorem sz_4 : 4 ≤ sizeLine := by decide
theorem sz_5 : 5 ≤ sizeLine := by decide
theorem sz_6 : 6 ≤ sizeLine := by decide
theorem sz_7 : 7 ≤ sizeLine := by decide
theorem sz_8 : 8 ≤ sizeLine := by decide
theorem sz_9 : 9 ≤ sizeLine := by decide
theorem sz_10 : 10 ≤ sizeLine := by decide
theorem sz_11 : 11 ≤ sizeLine := by decide
theorem sz_12 : 12 ≤ sizeLine := by decide
theorem sz_13 : 13 ≤ sizeLine := by decide
theorem sz_14 : 14 ≤ sizeLine := by decide
theorem asg_nm {i : Nat} {d : D} {ρ : Rho} : asg (.nm i) d ρ = some (ρ.set i (some d)) := id rfl
theorem asg_t2 {i j : Nat} {d e : D} {ρ : Rho} : asg (.tp [.nm i, .nm j]) (.tup [d, e]) ρ = some ((ρ.set i (some d)).set j (some e)) := id rfl
theorem numb_cons {n : Nat} {d : D} {r : List D} : numb n (d :: r) = .tup [.int (n : Int), d] :: numb (n + 1) r := id rfl
theorem seqL_t {ds : List D} {h : Hc} : seqL (.tup ds) h = some (ds, []) := id rfl
theorem q_addR {h : Hc} {m n : Nat} {f g : Bool} {ds es : List D} (e1 : h[m]? = some (f, .lst ds)) (e2 : h[n]? = some (g, .lst es)) (z : ds.length + es.length ≤ sizeLine) : gAdd (.ref m) (.ref n) h = some (.ref h.length, h ++ [(false, .lst (ds ++ es))]) := by
  simp only [gAdd, e1, e2]
  rw [if_pos z]
theorem get_new {h : Hc} {p : Bool × O} : (h ++ [p])[h.length]? = some p := by simp
theorem set_new {h : Hc} {p q : Bool × O} : (h ++ [p]).set h.length q = h ++ [q] := by simp
end Sx

set_option Elab.async false
set_option linter.all false
set_option maxRecDepth 100000
namespace Sx
open PySem
section
variable {α : Type} {t : TGT} {tt : CT} {e : CE} {ρ : Rho} {vs : List Nat} {ci : CI} {h h1 h2 : Hc} {l xs : List D}
theorem q_comp (e1 : ci ρ h = .ok (l, []) h1) (z : l.length < sizeLine) (e2 : cCompB t tt e (wipeD ρ vs) l h1 = .ok xs h2) : cComp vs ci t tt e ρ h = .ok (.ref h2.length) (h2 ++ [(false, .lst xs)]) := by
  unfold cComp
  rw [e1]
  show (if decide (l.length < sizeLine) = true then _ else _) = _
  rw [if_pos (by simpa using z)]
  show (Res.bind (ulkR h1 [] (noX (cCompB t tt e (wipeD ρ vs) l h1))) _) = _
  rw [e2]
  rfl
theorem comp_all (mk F : α → D) : ∀ (l : List α), (∀ a ∈ l, ∃ ρ1, asg t (mk a) ρ = some ρ1 ∧ e ρ1 h = .ok (F a) h) → cCompB t cYes e ρ (l.map mk) h = .ok (l.map F) h
  | [], _ => rfl
  | a :: r, q => by
    obtain ⟨ρ1, e1, e2⟩ := q a (by simp)
    simp only [List.map_cons, cCompB, e1, cYes, Res.bind, e2, comp_all mk F r (fun x hx => q x (by simp [hx]))]
theorem comp_some (mk F : α → D) (P : α → Bool) : ∀ (l : List α), (∀ a ∈ l, ∃ ρ1, asg t (mk a) ρ = some ρ1 ∧ tt ρ1 h = .ok (P a) h ∧ e ρ1 h = .ok (F a) h) → cCompB t tt e ρ (l.map mk) h = .ok ((l.filter P).map F) h
  | [], _ => rfl
  | a :: r, q => by
    obtain ⟨ρ1, e1, e2, e3⟩ := q a (by simp)
    have ih := comp_some mk F P r (fun x hx => q x (by simp [hx]))
    simp only [List.map_cons, cCompB, e1, e2, Res.bind]
    cases p : P a with
    | true => simp only [e3, Res.bind, ih, List.filter_cons, p, if_true, List.map_cons]
    | false => simp only [ih, List.filter_cons, p, Bool.false_eq_true, if_false]
end
theorem q_cutT {x : CE} {lo hi : Option CE} {ρ : Rho} {h : Hc} : cCut x lo hi ρ h = (x ρ h).bind fun d h1 => (cPart lo ρ h1).bind fun l h2 => (cPart hi ρ h2).bind fun u h3 => (gSl d l u h3).res := id rfl
theorem q_pn {ρ : Rho} {h : Hc} : cPart none ρ h = .ok none h := id rfl
theorem q_ps {c : CE} {ρ : Rho} {h : Hc} : cPart (some c) ρ h = (c ρ h).bind fun e h2 => match e with | .int i => .ok (some i) h2 | _ => .stuck := id rfl
theorem q_slT {ds : List D} {l u : Option Int} {h : Hc} : gSl (.tup ds) l u h = some (.tup (cutD ds l u), h) := id rfl
theorem isi_int {i : Int} {h : Hc} : gIsi [.int i, .ty "int"] h = some (.bl true, h) := by simp [gIsi, tyOf, isiB]
theorem isi_intb {i : Int} {h : Hc} : gIsi [.int i, .ty "bool"] h = some (.bl false, h) := by simp [gIsi, tyOf, isiB]
theorem isi_tup {ds : List D} {h : Hc} : gIsi [.tup ds, .ty "tuple"] h = some (.bl true, h) := by simp [gIsi, tyOf, isiB]
theorem q_itR1 {a : CE} {ρ : Rho} {h h1 : Hc} {n : Nat} (e : a ρ h = .ok (.int (n : Nat)) h1) (hn : n ≤ 1000) : cItR1 a ρ h = .ok ((List.range n).map fun (i : Nat) => .int (i : Int), []) h1 := by
  unfold cItR1
  have c : (decide (-(2 ^ 62) ≤ ((n : Nat) : Int)) && decide (((n : Nat) : Int) < 2 ^ 62)) = true := by simp only [Bool.and_eq_true, decide_eq_true_eq]; omega
  simp only [e, q_bok, c, if_true, Int.toNat_natCast, Int.zero_add]
theorem q_itR2 {a b : CE} {ρ : Rho} {h h1 h2 : Hc} {i j : Int} (e : a ρ h = .ok (.int i) h1) (e2 : b ρ h1 = .ok (.int j) h2) (hi : -1000 ≤ i) (hi2 : i ≤ 1000) (hj : -1000 ≤ j) (hj2 : j ≤ 1000) :
    cItR2 a b ρ h = .ok ((List.range (j - i).toNat).map fun (k : Nat) => .int (i + (k : Int)), []) h2 := by
  unfold cItR2
  have c : (decide (-(2 ^ 62) ≤ i) && decide (i < 2 ^ 62) && (decide (-(2 ^ 62) ≤ j) && decide (j < 2 ^ 62))) = true := by simp only [Bool.and_eq_true, decide_eq_true_eq]; omega
  simp only [e, e2, q_bok, c, if_true]
theorem repD_1 {k : Nat} {d : D} : repD (k : Int) [d] = List.replicate k d := by
  unfold repD
  rw [Int.toNat_natCast]
  induction k with
  | zero => rfl
  | succ k ih => rw [List.replicate_succ, List.flatten_cons, ih, List.replicate_succ]; rfl
theorem set_same : ∀ (h : Hc) (n : Nat) (p : Bool × O), h[n]? = some p → h.set n p = h
  | [], _, _, e => by simp at e
  | x :: h, 0, p, e => by simp at e; simp [e]
  | x :: h, n + 1, p, e => by
    simp only [List.getElem?_cons_succ] at e
    simp only [List.set_cons_succ, set_same h n p e]
theorem lck1 {h : Hc} {w : Nat} {p : Bool × O} (e : h[w]? = some p) : lckL [w] h = h.set w (true, p.2) := by simp only [lckL, lock1, e]
theorem lck1_ne {h : Hc} {w i : Nat} {p : Bool × O} (e : h[w]? = some p) (ne : i ≠ w) : (lckL [w] h)[i]? = h[i]? := by rw [lck1 e]; exact List.getElem?_set_ne (Ne.symm ne)
theorem ulk_lck {h : Hc} {w : Nat} {p : Bool × O} (e : h[w]? = some p) : ulkL h [w] (lckL [w] h) = h := by
  rw [lck1 e]
  simp only [ulkL, e, List.set_set]
  exact set_same h w p e
theorem seqL_r {h : Hc} {w : Nat} {f : Bool} {ds : List D} (e : h[w]? = some (f, .lst ds)) : seqL (.ref w) h = some (ds, [w]) := by simp only [seqL, e]
end Sx

set_option Elab.async false
set_option linter.all false
set_option maxRecDepth 100000
namespace Sx
open PySem
mutual
inductive PD : D → PyData → Prop
  | int (i : Int) : PD (.int i) (.int i)
  | str (s : Str) : PD (.str s) (.str s)
  | non : PD .non .none
  | tup {ds : List D} {ps : List PyData} : PDs ds ps → PD (.tup ds) (.tuple ps)
inductive PDs : List D → List PyData → Prop
  | nil : PDs [] []
  | cons {d : D} {p : PyData} {ds : List D} {ps : List PyData} : PD d p → PDs ds ps → PDs (d :: ds) (p :: ps)
end
mutual
theorem PD.eqv {x y : D} {p q : PyData} : PD x p → PD y q → (PyData.eqv p q = true ↔ x = y)
  | .int i, .int j => by rw [eqv_int]; simp
  | .int i, .str t => by simp [PyData.eqv]
  | .int i, .non => by simp [PyData.eqv]
  | .int i, .tup _ => by simp [PyData.eqv]
  | .str s, .int j => by simp [PyData.eqv]
  | .str s, .str t => by simp [PyData.eqv]
  | .str s, .non => by simp [PyData.eqv]
  | .str s, .tup _ => by simp [PyData.eqv]
  | .non, .int j => by simp [PyData.eqv]
  | .non, .str t => by simp [PyData.eqv]
  | .non, .non => by simp [PyData.eqv]
  | .non, .tup _ => by simp [PyData.eqv]
  | .tup a, .int j => by simp [PyData.eqv]
  | .tup a, .str t => by simp [PyData.eqv]
  | .tup a, .non => by simp [PyData.eqv]
  | .tup a, .tup b => by
    have := PDs.eqv a b
    simpa [PyData.eqv] using this
theorem PDs.eqv {xs ys : List D} {ps qs : List PyData} : PDs xs ps → PDs ys qs → (PyData.eqvAll ps qs = true ↔ xs = ys)
  | .nil, .nil => by simp [PyData.eqvAll]
  | .nil, .cons _ _ => by simp [PyData.eqvAll]
  | .cons _ _, .nil => by simp [PyData.eqvAll]
  | .cons a as, .cons b bs => by
    have h1 := PD.eqv a b
    have h2 := PDs.eqv as bs
    simp [PyData.eqvAll, h1, h2]
end
def pu : Nat → D → Bool
  | _, .int _ => true
  | _, .str s => PyData.strOk s
  | _, .non => true
  | n + 1, .tup ds => ds.all (pu n)
  | _, _ => false
theorem pu_PD : ∀ (n : Nat) (d : D), pu n d = true → ∃ p : PyData, PD d p ∧ p.canLay0 = true ∧ p.depth ≤ n ∧ ∀ (h : Hc) (m : Nat), n ≤ m → toP h m d = some p := by
  intro n
  induction n with
  | zero =>
    intro d e
    cases d with
    | int i => exact ⟨_, .int i, by simp [PyData.canLay0], by simp [PyData.depth], fun h m _ => by cases m <;> rfl⟩
    | str i => exact ⟨_, .str i, by simpa [PyData.canLay0, pu] using e, by simp [PyData.depth], fun h m _ => by cases m <;> rfl⟩
    | non => exact ⟨_, .non, by simp [PyData.canLay0], by simp [PyData.depth], fun h m _ => by cases m <;> rfl⟩
    | _ => simp [pu] at e
  | succ n ih =>
    intro d e
    cases d with
    | int i => exact ⟨_, .int i, by simp [PyData.canLay0], by simp [PyData.depth], fun h m _ => by cases m <;> rfl⟩
    | str i => exact ⟨_, .str i, by simpa [PyData.canLay0, pu] using e, by simp [PyData.depth], fun h m _ => by cases m <;> rfl⟩
    | non => exact ⟨_, .non, by simp [PyData.canLay0], by simp [PyData.depth], fun h m _ => by cases m <;> rfl⟩
    | tup ds =>
      have key : ∀ l : List D, l.all (pu n) = true → ∃ ps, PDs l ps ∧ PyData.canLayAll0 ps = true ∧ PyData.depthAll ps ≤ n ∧ ∀ (h : Hc) (m : Nat), n ≤ m → mapO (toP h m) l = some ps := by
        intro l
        induction l with
        | nil => exact fun _ => ⟨[], .nil, by simp [PyData.canLayAll0], by simp [PyData.depthAll], fun h m _ => rfl⟩
        | cons d l il =>
          intro hl
          simp only [List.all_cons, Bool.and_eq_true] at hl
          obtain ⟨p, a1, a2, a3, a4⟩ := ih d hl.1
          obtain ⟨ps, b1, b2, b3, b4⟩ := il hl.2
          refine ⟨p :: ps, .cons a1 b1, by simp [PyData.canLayAll0, a2, b2], ?_, fun h m hm => by simp only [mapO, a4 h m hm, b4 h m hm]⟩
          simp only [PyData.depthAll]
          omega
      obtain ⟨ps, a1, a2, a3, a4⟩ := key ds (by simpa [pu] using e)
      refine ⟨.tuple ps, .tup a1, by simpa [PyData.canLay0] using a2, by simp only [PyData.depth]; omega, fun h m hm => ?_⟩
      obtain ⟨k, rfl⟩ : ∃ k, m = k + 1 := ⟨m - 1, by omega⟩
      simp only [toP, a4 h k (by omega)]
    | _ => simp [pu] at e
theorem pu_toS {d : D} (e : pu 9 d = true) : ∃ p : PyData, PD d p ∧ ∀ h : Hc, toS d h = some p := by
  obtain ⟨p, a, b, c, f⟩ := pu_PD 9 d e
  refine ⟨p, a, fun h => ?_⟩
  unfold toS
  rw [f h 9 (Nat.le_refl _)]
  have s : SeqAt.shaped p = true := by
    unfold SeqAt.shaped
    rw [b, Bool.true_and]
    exact decide_eq_true (by omega)
  simp only [s, if_true]
section
variable {x y : D} {h : Hc}
theorem eqD_pu (hx : pu 9 x = true) (hy : pu 9 y = true) : ∃ b : Bool, eqD x y h = some b ∧ (b = true ↔ x = y) := by
  obtain ⟨p, a, e⟩ := pu_toS hx
  obtain ⟨q, b, f⟩ := pu_toS hy
  exact ⟨PyData.eqv p q, by simp only [eqD, e h, f h], PD.eqv a b⟩
theorem q_eqS (hx : pu 9 x = true) : gEq x x h = some (.bl true, h) := by
  obtain ⟨b, e, f⟩ := eqD_pu (h := h) hx hx
  simp only [gEq, e, f.mpr rfl]
theorem q_neS (hx : pu 9 x = true) : gNe x x h = some (.bl false, h) := by
  obtain ⟨b, e, f⟩ := eqD_pu (h := h) hx hx
  simp only [gNe, e, f.mpr rfl, Bool.not_true]
theorem q_eqN (hx : pu 9 x = true) (hy : pu 9 y = true) (n : x ≠ y) : gEq x y h = some (.bl false, h) := by
  obtain ⟨b, e, f⟩ := eqD_pu (h := h) hx hy
  have : b = false := by
    cases b with
    | false => rfl
    | true => exact absurd (f.mp rfl) n
  simp only [gEq, e, this]
end
theorem pu_iL (n : Nat) : ∀ l : List Int, (iL l).all (pu n) = true
  | [] => rfl
  | i :: l => by
    have := pu_iL n l
    simp only [iL, List.map_cons, List.all_cons, pu, Bool.true_and] at this ⊢
    cases n <;> simpa [pu] using this
theorem pu_iT (n : Nat) (l : List Int) : pu (n + 1) (iT l) = true := by
  simpa only [iT, pu] using pu_iL n l
theorem pu_int (n : Nat) (i : Int) : pu n (.int i) = true := by cases n <;> rfl
theorem pu_str (n : Nat) (i : Str) : pu n (.str i) = PyData.strOk i := by cases n <;> rfl
theorem wS_forR {ci : CI} {t : TGT} {b : CS} {ρ : Rho} {h h1 : Hc} {l : List D} {w : Nat} {p : Bool × O} {Q : Fl → Rho → Hc → Prop} (e : ci ρ h = .ok (l, [w]) h1) (hw : h1[w]? = some p)
    (k : wS (cForB t b l ρ (lckL [w] h1)) fun f ρ2 h2 => Q f ρ2 (h2.set w p)) : wS (cFor ci t b ρ h) Q := by
  obtain ⟨f, ρ2, h2, e2, q⟩ := k.eq
  refine wS.of (f := f) (ρ := ρ2) (h := h2.set w p) ?_ q
  unfold cFor
  rw [e]
  show ulkS h1 [w] (cForB t b l ρ (lckL [w] h1)) = _
  rw [e2]
  simp only [ulkS, ulkL, hw]
def Ap (h h' : Hc) : Prop := ∃ t, h' = h ++ t
theorem Ap.refl {h : Hc} : Ap h h := ⟨[], by simp⟩
theorem Ap.trans {h h1 h2 : Hc} (a : Ap h h1) (b : Ap h1 h2) : Ap h h2 := by
  obtain ⟨t, rfl⟩ := a
  obtain ⟨u, rfl⟩ := b
  exact ⟨t ++ u, by simp⟩
theorem Ap.app {h h1 : Hc} (a : Ap h h1) (l : Hc) : Ap h (h1 ++ l) := a.trans ⟨l, rfl⟩
theorem Ap.new {h : Hc} (l : Hc) : Ap h (h ++ l) := ⟨l, rfl⟩
theorem Ap.get {h h1 : Hc} {i : Nat} {p : Bool × O} (a : Ap h h1) (e : h[i]? = some p) : h1[i]? = some p := by
  obtain ⟨t, rfl⟩ := a
  rw [List.getElem?_append_left (List.getElem?_eq_some_iff.mp e).1]; exact e
theorem Ap.len {h h1 : Hc} (a : Ap h h1) : h.length ≤ h1.length := by
  obtain ⟨t, rfl⟩ := a
  rw [List.length_append]; omega
theorem Ap.put {h h1 : Hc} {i : Nat} (a : Ap h h1) (hi : h.length ≤ i) (p : Bool × O) : Ap h (h1.set i p) := by
  obtain ⟨t, rfl⟩ := a
  exact ⟨t.set (i - h.length) p, by rw [List.set_append_right _ _ hi]⟩
theorem q_mulT {ds : List D} {k : Int} {h : Hc} (z : repOk k ds = true) : gMul (.tup ds) (.int k) h = some (.tup (repD k ds), h) := if_pos z
section
variable {ds es : List D} {h : Hc} {n m : Nat} {f g : Bool}
end
end Sx

set_option Elab.async false
set_option linter.all false
set_option maxRecDepth 100000
namespace Sx
open PySem PySem.Spec PyProof.Rows L2
def intsV : List Value → Option (List Int)
  | [] => some []
  | .int i _ :: r => match intsV r with | some l => some (i :: l) | none => none
  | _ => none
structure ConT (K : PySem.W.Frag) (mg : Str → Option Value) (x : Str) (is : List Int) : Prop where
  has : ∃ (A : Addr) (o : Obj) (its : Array Value) (n : Nat), mg x = some (.ref A) ∧ K.lookup A = some o ∧ o.cls = .type "tuple" ∧ o.dict = none ∧ o.data = .seq its n ∧ its.size ≤ sizeLine ∧ intsV its.toList = some is
end Sx

set_option Elab.async false
set_option linter.all false
set_option maxRecDepth 100000
namespace Sx
open PySem PySem.Spec PyProof.Rows L2
abbrev KD := List (L2.Key × D)
def dGet : KD → L2.Key → Option D
  | [], _ => none
  | (j, d) :: r, k => if j = k then some d else dGet r k
def dHas : KD → L2.Key → Bool
  | [], _ => false
  | (j, _) :: r, k => decide (j = k) || dHas r k
def dPut (l : KD) (k : L2.Key) (d : D) : KD := if dHas l k = true then l.map fun kv => if kv.1 = k then (kv.1, d) else kv else l ++ [(k, d)]
def dDrop : KD → L2.Key → KD
  | [], _ => []
  | (j, d) :: r, k => if j = k then dDrop r k else (j, d) :: dDrop r k
section
variable {W : Wb} {μ : List Addr} {h : Hc} {H : Hp}
def RKs (W : Wb) (μ : List Addr) (H : Hp) : KD → List (L2.Key × V) → Prop
  | [], l => l = []
  | (k, d) :: r, l => ∃ v t, l = (k, v) :: t ∧ RD W μ H d v ∧ RKs W μ H r t
theorem RKs.of : ∀ {l : KD} {vs : List V}, RDs W μ H (l.map (·.2)) vs → RKs W μ H l ((l.map (·.1)).zip vs)
  | [], vs, r => by simp [RKs]
  | (k, d) :: l, vs, r => by
    simp only [List.map_cons, RDs] at r
    obtain ⟨v, t, rfl, r1, r2⟩ := r
    exact ⟨v, _, rfl, r1, RKs.of r2⟩
theorem RKs.to : ∀ {l : KD} {kv : List (L2.Key × V)}, RKs W μ H l kv → ∃ vs, kv = (l.map (·.1)).zip vs ∧ RDs W μ H (l.map (·.2)) vs
  | [], kv, r => ⟨[], by simpa [RKs] using r, by simp [RDs]⟩
  | (k, d) :: l, kv, r => by
    obtain ⟨v, t, rfl, r1, r2⟩ := r
    obtain ⟨vs, e, q⟩ := RKs.to r2
    exact ⟨v :: vs, by rw [e]; rfl, RDs.cons r1 q⟩
theorem RKs.len : ∀ {l : KD} {kv : List (L2.Key × V)}, RKs W μ H l kv → kv.length = l.length
  | [], kv, r => by have r : kv = [] := r; rw [r]; rfl
  | (k, d) :: l, kv, r => by
    obtain ⟨v, t, rfl, r1, r2⟩ := r
    simp [RKs.len r2]
theorem RKs.get : ∀ {l : KD} {kv : List (L2.Key × V)} {k : L2.Key}, RKs W μ H l kv → (∀ d, dGet l k = some d → ∃ v, valV kv k = some v ∧ RD W μ H d v) ∧ (dGet l k = none → valV kv k = none)
  | [], kv, k, r => by
    have r : kv = [] := r
    subst r
    exact ⟨fun d e => (by cases e), fun _ => rfl⟩
  | (j, d) :: l, kv, k, r => by
    obtain ⟨v, t, rfl, r1, r2⟩ := r
    obtain ⟨g1, g2⟩ := RKs.get (k := k) r2
    by_cases c : j = k
    · refine ⟨fun d' e => ⟨v, ?_, ?_⟩, fun e => ?_⟩
      · simp [valV, c]
      · simp only [dGet, if_pos c] at e; cases e; exact r1
      · simp only [dGet, if_pos c] at e; cases e
    · have ev : valV ((j, v) :: t) k = valV t k := by simp [valV, List.find?_cons, c]
      refine ⟨fun d' e => ?_, fun e => ?_⟩
      · simp only [dGet, if_neg c] at e
        rw [ev]; exact g1 d' e
      · simp only [dGet, if_neg c] at e
        rw [ev]; exact g2 e
theorem RKs.has : ∀ {l : KD} {kv : List (L2.Key × V)} {k : L2.Key}, RKs W μ H l kv → (kv.any fun p => decide (p.1 = k)) = dHas l k
  | [], kv, k, r => by have r : kv = [] := r; subst r; rfl
  | (j, d) :: l, kv, k, r => by
    obtain ⟨v, t, rfl, r1, r2⟩ := r
    simp only [List.any_cons, dHas, RKs.has (k := k) r2]
theorem RKs.app : ∀ {l m : KD} {kv kw : List (L2.Key × V)}, RKs W μ H l kv → RKs W μ H m kw → RKs W μ H (l ++ m) (kv ++ kw)
  | [], m, kv, kw, r, q => by have r : kv = [] := r; subst r; exact q
  | (j, d) :: l, m, kv, kw, r, q => by
    obtain ⟨v, t, rfl, r1, r2⟩ := r
    exact ⟨v, _, rfl, r1, RKs.app r2 q⟩
theorem RKs.mapped {k : L2.Key} {d : D} {v : V} (rd : RD W μ H d v) : ∀ {l : KD} {kv : List (L2.Key × V)}, RKs W μ H l kv → RKs W μ H (l.map fun p => if p.1 = k then (p.1, d) else p) (kv.map fun p => if p.1 = k then (p.1, v) else p)
  | [], kv, r => by have r : kv = [] := r; subst r; exact rfl
  | (j, e) :: l, kv, r => by
    obtain ⟨w, t, rfl, r1, r2⟩ := r
    simp only [List.map_cons]
    by_cases c : j = k
    · simp only [if_pos c]; exact ⟨v, _, rfl, rd, RKs.mapped rd r2⟩
    · simp only [if_neg c]; exact ⟨w, _, rfl, r1, RKs.mapped rd r2⟩
theorem RKs.put {l : KD} {kv : List (L2.Key × V)} {k : L2.Key} {d : D} {v : V} (r : RKs W μ H l kv) (rd : RD W μ H d v) : RKs W μ H (dPut l k d) (putK kv k v) := by
  unfold dPut putK
  rw [RKs.has r]
  split
  · exact RKs.mapped rd r
  · exact RKs.app r ⟨v, [], rfl, rd, rfl⟩
theorem RKs.drop : ∀ {l : KD} {kv : List (L2.Key × V)} {k : L2.Key}, RKs W μ H l kv → RKs W μ H (dDrop l k) (dropK kv k)
  | [], kv, k, r => by have r : kv = [] := r; subst r; exact rfl
  | (j, d) :: l, kv, k, r => by
    obtain ⟨v, t, rfl, r1, r2⟩ := r
    have ih := RKs.drop (k := k) r2
    unfold dropK at ih ⊢
    by_cases c : j = k
    · simp only [dDrop, if_pos c, List.filter_cons, c, ne_eq, not_true_eq_false, decide_false, Bool.false_eq_true, if_false]
      exact ih
    · simp only [dDrop, if_neg c, List.filter_cons, ne_eq, c, not_false_eq_true, decide_true, if_true]
      exact ⟨v, _, rfl, r1, ih⟩
theorem R.dk (x : R W μ h H) {n : Nat} {v : V} {f : Bool} {l : KD} (r : RD W μ H (.ref n) v) (e : h[n]? = some (f, .dic l)) : ∃ a kv, v = .ref a ∧ μ[n]? = some a ∧ Rd H a (.dK kv) ∧ RKs W μ H l kv := by
  simp only [RD] at r
  obtain ⟨a, e1, rfl⟩ := r
  obtain ⟨vs, e2, e3⟩ := x.ob n a _ e1 e
  refine ⟨a, _, rfl, e1, ?_, RKs.of e3⟩
  rcases e2 with e2 | ⟨_, e2⟩
  · exact .inl e2
  · exact .inr e2
end
section
variable {W : Wd} {Wx : WX} {μ : List Addr} {h : Hc} {H : Hp} {Q : V → Hp → Prop}
theorem kO.dic {l : KD} {kv : List (L2.Key × V)} (k : kO W μ h H Q (some (.ref h.length, h ++ [(false, .dic l)]))) (x : R W μ h H) (r : RKs W μ H l kv) {p : Addr} (hp : H p = none) : Q (.ref p) (upd H p (.dK kv)) := by
  obtain ⟨vs, rfl, r'⟩ := r.to
  obtain ⟨a, b⟩ := x.dic hp r'
  refine k _ _ _ a b ?_
  simp only [RD]
  exact ⟨p, by rw [← x.len]; simp, rfl⟩
theorem kO.putD {l : KD} {kv : List (L2.Key × V)} {n : Nat} {a : Addr} {o : O} {d : D} {v : V} (k : kO W μ h H Q (some (d, h.set n (false, .dic l)))) (x : R W μ h H) (e : μ[n]? = some a) (e2 : h[n]? = some (false, o)) (r : RKs W μ H l kv) (rd : RD W μ H d v) : Q v (upd H a (.dK kv)) := by
  obtain ⟨vs, rfl, r'⟩ := r.to
  obtain ⟨y, b⟩ := x.putD e e2 r'
  exact k _ _ _ y b (RD.ext b x d v rd)
end
section
variable {X : Cx} {Wx : WX} {a b e o i : Expr} {ca cb ce co ci : CE} {pos tpos apos cpos : Pos}
end
end Sx

set_option Elab.async false
set_option linter.all false
set_option maxRecDepth 100000
namespace Sx
open PySem PySem.Spec PyProof.Rows L2
section
variable {X : Cx} {Wx : WX} {a b e o i : Expr} {ca cb ce co ci : CE} {pos tpos apos cpos : Pos}
def insI (x : Int) : List Int → List Int
  | [] => [x]
  | y :: l => if x ≤ y then x :: y :: l else y :: insI x l
def sortI : List Int → List Int
  | [] => []
  | x :: l => insI x (sortI l)
theorem insI_perm (x : Int) : ∀ l : List Int, (insI x l).Perm (x :: l)
  | [] => List.Perm.refl _
  | y :: l => by
    unfold insI
    split
    · exact List.Perm.refl _
    · exact ((insI_perm x l).cons y).trans (List.Perm.swap _ _ _)
theorem sortI_perm : ∀ l : List Int, (sortI l).Perm l
  | [] => List.Perm.refl _
  | x :: l => (insI_perm x _).trans ((sortI_perm l).cons x)
theorem insI_sorted (x : Int) : ∀ l : List Int, l.Pairwise (· ≤ ·) → (insI x l).Pairwise (· ≤ ·)
  | [], _ => by simp [insI]
  | y :: l, h => by
    unfold insI
    have h' := List.pairwise_cons.mp h
    split
    · rename_i c
      refine List.pairwise_cons.mpr ⟨fun z hz => ?_, h⟩
      rcases List.mem_cons.mp hz with rfl | hz
      · exact c
      · exact Int.le_trans c (h'.1 z hz)
    · rename_i c
      refine List.pairwise_cons.mpr ⟨fun z hz => ?_, insI_sorted x l h'.2⟩
      rcases List.mem_cons.mp ((insI_perm x l).mem_iff.mp hz) with rfl | hz
      · omega
      · exact h'.1 z hz
theorem sortI_sorted : ∀ l : List Int, (sortI l).Pairwise (· ≤ ·)
  | [] => List.Pairwise.nil
  | x :: l => insI_sorted x _ (sortI_sorted l)
theorem sorted_uniq : ∀ {a b : List Int}, a.Perm b → a.Pairwise (· ≤ ·) → b.Pairwise (· ≤ ·) → a = b
  | [], b, p, _, _ => (List.nil_perm.mp p).symm
  | x :: a, [], p, _, _ => by simp at p
  | x :: a, y :: b, p, h1, h2 => by
    have h1' := List.pairwise_cons.mp h1
    have h2' := List.pairwise_cons.mp h2
    have m1 : x ∈ y :: b := p.mem_iff.mp (by simp)
    have m2 : y ∈ x :: a := p.mem_iff.mpr (by simp)
    have e : x = y := by
      rcases List.mem_cons.mp m1 with z | z
      · exact z
      · rcases List.mem_cons.mp m2 with w | w
        · exact w.symm
        · exact Int.le_antisymm (h1'.1 y w) (h2'.1 x z)
    subst e
    rw [sorted_uniq (List.Perm.cons_inv p) h1'.2 h2'.2]
theorem sortI_uniq {ys l : List Int} (p : ys.Perm l) (s : ys.Pairwise (· ≤ ·)) : ys = sortI l := sorted_uniq (p.trans (sortI_perm l).symm) s (sortI_sorted l)
def keysI : KD → Option (List Int)
  | [] => some []
  | (.inl i, _) :: r => match keysI r with | some l => some (i :: l) | none => none
  | _ :: _ => none
def gSorted : GL := fun xs h => match xs with
  | [.ref n] => match h[n]? with
    | some (_, .dic l) => match keysI l with
      | some ks => if ks.length < 64 then some (.ref h.length, h ++ [(false, .lst ((sortI ks).map D.int))]) else none
      | _ => none
    | some (_, .lst ds) => match intsOf ds with
      | some ns => some (.ref h.length, h ++ [(false, .lst ((sortI ns).map D.int))])
      | _ => none
    | _ => none
  | _ => none
theorem keysI_ok {W : Wb} {μ : List Addr} {H : Hp} : ∀ {l : KD} {kv : List (L2.Key × V)} {ks : List Int}, RKs W μ H l kv → keysI l = some ks → kv.map (·.1) = ks.map Sum.inl
  | [], kv, ks, r, e => by have r : kv = [] := r; subst r; cases e; rfl
  | (.inl i, d) :: l, kv, ks, r, e => by
    obtain ⟨v, t, rfl, r1, r2⟩ := r
    simp only [keysI] at e
    cases q : keysI l with
    | none => rw [q] at e; cases e
    | some m =>
      rw [q] at e
      cases e
      simp [keysI_ok r2 q]
  | (.inr i, d) :: l, kv, ks, r, e => by cases e
theorem k_sorted (hc : X.calm = true) : CallR X (.builtin "sorted") (lVs (wd X) gSorted) := by
  intro pins s σ H xs us Q I r k
  obtain ⟨μ, h, ds, x, rs, k⟩ := k
  unfold gSorted at k
  split at k
  · rename_i n
    obtain ⟨v, rfl, rd⟩ := rds1 rs
    split at k
    · rename_i f l e
      split at k
      · rename_i ks ek
        split at k
        · rename_i hz
          obtain ⟨a, kv, rfl, e1, e2, rk⟩ := x.dk rd e
          exact call_sortedDI hc pins s σ H _ us Q I r ⟨a, kv, ks, rfl, e2, keysI_ok rk ek, hz, fun ys p pm st hp => by
            rw [sortI_uniq pm st]
            exact k.lst x (RDs.ints _) hp⟩
        · exact False.elim k
      · exact False.elim k
    · rename_i f es e
      split at k
      · rename_i ns en
        simp only [RD] at rd
        obtain ⟨a, e1, rfl⟩ := rd
        obtain ⟨vs, e2, e3⟩ := x.ob n a _ e1 e
        obtain ⟨rfl, _⟩ := intsOf_ok e3 en
        exact cr_sortedI pins s σ H _ us Q I r ⟨a, ns, rfl, SqL.of e2, fun ys p pm st hp => by
          rw [sortI_uniq pm st]
          exact k.lst x (RDs.ints _) hp⟩
      · exact False.elim k
    · exact False.elim k
  · exact False.elim k
end
end Sx

set_option Elab.async false
set_option linter.all false
set_option maxRecDepth 100000
namespace Sx
open PySem PySem.Spec PyProof.Rows L2
def kC2 (W : Wd) (μ1 : List Addr) (h1 : Hc) (H1 : Hp) (p : Addr) (Q : V → Hp → Prop) : Res (List D) → Prop
  | .ok xs h3 => xs.length < sizeLine ∧ kC W μ1 h1 H1 p Q (.ok xs h3)
  | _ => False
def er (p : Addr) (H : Hp) : Hp := fun a => if a = p then none else H a
theorem er_ne {p a : Addr} {H : Hp} (h : a ≠ p) : er p H a = H a := if_neg h
theorem er_le {p a : Addr} {H : Hp} {o : HO} (e : er p H a = some o) : H a = some o := by
  unfold er at e
  split at e
  · cases e
  · exact e
section
variable {W : Wb} {μ : List Addr} {h : Hc} {H : Hp} {p : Addr} {ws : List V}
theorem er_keep (hp : H p = some (.lst ws)) {a : Addr} {o : HO} (e : H a = some o) (hm : ∀ zs, o ≠ .lst zs) : er p H a = some o := by
  rw [er_ne]
  · exact e
  · rintro rfl
    rw [hp] at e
    injection e with e
    exact hm _ e.symm
mutual
theorem RD.er (hp : H p = some (.lst ws)) : ∀ (d : D) (v : V), RD W μ H d v → RD W μ (er p H) d v
  | .non, v, e => by simpa only [RD] using e
  | .bl _, v, e => by simpa only [RD] using e
  | .int _, v, e => by simpa only [RD] using e
  | .str _, v, e => by simpa only [RD] using e
  | .tup ds, v, e => by
    simp only [RD] at e ⊢
    obtain ⟨a, vs, e1, e2, e3⟩ := e
    refine ⟨a, vs, e1, ?_, RDs.er hp ds vs e3⟩
    rcases e2 with ⟨o, e2, dd⟩ | e2
    · exact .inl ⟨o, er_keep hp e2 (fun _ z => by cases z), dd⟩
    · exact .inr e2
  | .ref n, v, e => by simpa only [RD] using e
  | .flst ds, v, e => by
    simp only [RD] at e ⊢
    obtain ⟨a, vs, e1, e2, e3⟩ := e
    refine ⟨a, vs, e1, ?_, RDs.er hp ds vs e3⟩
    rcases e2 with ⟨o, e2⟩ | e2
    · exact .inl ⟨o, er_keep hp e2 (fun _ z => by cases z)⟩
    · exact .inr e2
  | .obj c ns ds, v, e => by
    simp only [RD] at e ⊢
    obtain ⟨a, C, dx, vs, e1, e2, e3, e4, e5⟩ := e
    exact ⟨a, C, dx, vs, e1, e2, er_keep hp e3 (fun _ z => by cases z), e4, RDs.er hp ds vs e5⟩
  | .ty _, v, e => by simpa only [RD] using e
  | .gl _, v, e => by simpa only [RD] using e
  | .err _ _, v, e => by simp only [RD] at e
  | .clo f c q vs ds, v, e => by
    simp only [RD] at e ⊢
    obtain ⟨e1, e2, e3⟩ := e
    exact ⟨e1, er_keep hp e2 (fun _ z => by unfold LamX.CodeO at z; cases z), RDs.er hp ds vs e3⟩
theorem RDs.er (hp : H p = some (.lst ws)) : ∀ (ds : List D) (vs : List V), RDs W μ H ds vs → RDs W μ (er p H) ds vs
  | [], vs, e => by simpa only [RDs] using e
  | d :: ds, vs, e => by
    simp only [RDs] at e ⊢
    obtain ⟨v, r, e1, e2, e3⟩ := e
    exact ⟨v, r, e1, RD.er hp d v e2, RDs.er hp ds r e3⟩
end
theorem R.er (x : R W μ h H) (hp : H p = some (.lst ws)) (hn : p ∉ μ) : R W μ h (er p H) := by
  refine ⟨x.len, x.nd, fun n a q e1 e2 => ?_⟩
  have na : a ≠ p := fun z => hn (z ▸ List.mem_of_getElem? e1)
  have r := x.ob n a q e1 e2
  obtain ⟨f, o⟩ := q
  cases o with
  | lst ds =>
    obtain ⟨vs, r1, r2⟩ := r
    exact ⟨vs, by rw [er_ne na]; exact r1, RDs.er hp ds vs r2⟩
  | dic kvs =>
    obtain ⟨vs, r1, r2⟩ := r
    exact ⟨vs, by rw [er_ne na]; exact r1, RDs.er hp _ vs r2⟩
  | tab y q =>
    obtain ⟨ps, r1, r2, r3⟩ := r
    refine ⟨ps, by rw [er_ne na]; exact r1, r2, fun pos cv z => ?_⟩
    obtain ⟨c, z1, z2⟩ := r3 pos cv z
    exact ⟨c, z1, er_keep hp z2 (fun _ z => by unfold LamX.CodeO at z; cases z)⟩
  | dcd kvs => exact r.keepD (er_ne na) (fun d v => RD.er hp d v)
  | dif kvs => exact r.keepF (er_ne na) (fun d v => RD.er hp d v)
theorem Ext.er {μ1 : List Addr} {h1 : Hc} {H1 : Hp} (E : Ext μ h H μ1 h1 H1) (hp : H p = none) : Ext μ h H μ1 h1 (er p H1) :=
  ⟨E.pre, fun a o e k => by
    rw [er_ne (ne_of_none e hp)]
    exact E.frame a o e k, fun a z => by
    rw [er_ne (fun q => z (by rw [q]; exact hp))]
    exact E.dom a z, E.hc⟩
theorem SqL.er {K : PySem.W.Frag} {a : Addr} {xs : List V} (h : SqL K (er p H) a xs) : SqL K H a xs := by
  rcases h with (h | ⟨o, h⟩) | h
  · exact .inl (.inl (er_le h))
  · exact .inl (.inr ⟨o, er_le h⟩)
  · exact .inr h
theorem SqT.er {K : PySem.W.Frag} {a : Addr} {xs : List V} (h : SqT K (er p H) a xs) : SqT K H a xs := by
  rcases h with (h | ⟨o, h⟩) | h
  · exact .inl (.inl (er_le h))
  · exact .inl (.inr ⟨o, er_le h⟩)
  · exact .inr h
end
section
variable {X : Cx} {Wx : WX} {tg it elt tg1 it1 : Expr} {ifs ifs1 : List Expr} {tp : Bool} {ci : CI} {ci1 : CE} {t t1 : TGT} {tt tt1 : CT} {ce : CE} {scope : Scope} {own : List (Str × Nat)} {vs1 : List Nat} {pos : Pos}
theorem kC2.start {μ μ1 : List Addr} {h h1 : Hc} {H H1 : Hp} {σ : L2.St} {Q : V → Hp → Prop} {ls : List Nat} {p : Addr} {r : Res (List D)} {W : Wd} (x : R W μ h H) (x1 : R W μ1 h1 H1) (E : Ext μ h H μ1 h1 H1) (hp : H1 p = none)
    (k : kR (RD W) W Wx μ h H σ Q ((ulkR h1 ls (noX r)).bind fun xs h2 => if decide (xs.length < sizeLine) then .ok (.ref h2.length) (h2 ++ [(false, .lst xs)]) else .stuck)) : kC2 W μ1 (lckL ls h1) H1 p Q (preR [] r) := by
  cases r with
  | ok xs h3 =>
    have k : kR (RD W) W Wx μ h H σ Q (if decide (xs.length < sizeLine) then .ok (.ref (ulkL h1 ls h3).length) ((ulkL h1 ls h3) ++ [(false, .lst xs)]) else .stuck) := k
    by_cases c : xs.length < sizeLine
    · rw [if_pos (decide_eq_true c)] at k
      exact ⟨by simpa using c, kC.start (r := .ok xs h3) (Wx := Wx) (σ := σ) x x1 E hp k⟩
    · rw [if_neg (by simpa using c)] at k
      exact False.elim k
  | exn c x h => exact False.elim k
  | stuck => exact False.elim k
end
end Sx

set_option Elab.async false
set_option linter.all false
set_option maxRecDepth 100000
namespace Sx
open PySem PySem.Spec PySem.Calls PyProof.Rows PySem.W
section
variable {prog : Program} {w : World} {A : Around} {E : Value → Shared → Prop} {s : Shared}
theorem collect_tup {l : Addr} {vs : List Value} {Q : List Value → Shared → Prop} (hl : IsTup s.heap l vs.toArray)
    (h : Q vs { s with heap := (s.heap.push (seqObj "list" #[] 0)).update s.heap.objs.size (Obj.mapSeq (· ++ vs.toArray)) }) (hsz : vs.length ≤ sizeLine) :
    wpAny (model prog w) A (collect (.ref l)) Q E s := by
  obtain ⟨o, ho, hc, n, hd⟩ := id hl
  unfold collect
  refine wpAny_bind (wpAny_runValue (codeAny_builtin entry_proto_collect' ?_))
  show wpAny _ _ (do again (.builtin "list.__iadd__" ⟨[← newList [], .ref l], []⟩)) _ _ s
  refine wpAny_bind (wpAny_newList (wpAny_pure ⟨Code.quiet_builtin _ (by decide +kernel), codeAny_builtin entry_list_iadd' ?_⟩))
  show wpAny _ _ (Builtin.List.listExtendWith (.ref s.heap.objs.size) (.ref l) (.ref s.heap.objs.size)) _ _ { s with heap := s.heap.push (seqObj "list" #[] 0) }
  unfold Builtin.List.listExtendWith
  have ho' : (s.heap.push (seqObj "list" #[] 0)).get? l = some o := Heap.get?_push_of_some _ ho
  refine wpAny_bind (wpAny_typeOf (T := "tuple") ⟨o, ho', hc⟩ ?_)
  have ht : (Value.type "tuple" == Value.type "tuple") = true := by rfl
  rw [if_pos (by rw [ht]; simp)]
  refine wpAny_bind (listItems_at ho' hd ?_)
  refine wpAny_bind (listItems_at (xs := #[]) (n := 0) (Heap.get?_push_size _ rfl) rfl ?_)
  rw [if_neg (by simp)]
  refine wpAny_bind (listUpdate_at (xs := #[]) (n := 0) (Heap.get?_push_size _ rfl) rfl ?_ (Nat.zero_le _) (by show (#[] ++ vs.toArray).size ≤ sizeLine + 1; simp only [Array.size_append, List.size_toArray, List.length_nil]; omega))
  refine wpAny_pure ?_
  show wpAny (model prog w) A (do
      let o ← load s.heap.objs.size
      match o.data with
      | .seq xs _ => pure xs.toList
      | _ => unsupported "internal:collect") Q E { s with heap := (s.heap.push (seqObj "list" #[] 0)).update s.heap.objs.size (Obj.mapSeq (· ++ vs.toArray)) }
  refine wpAny_bind (wpAny_load (get?_update_seq (Heap.get?_push_size _ rfl) _) ?_)
  show wpAny _ _ (pure ((#[] : Array Value) ++ vs.toArray).toList) Q E _
  refine wpAny_pure ?_
  simpa using h
def SqH (h : Heap) (l : Addr) (vs : List Value) : Prop := h.IsList l vs.toArray ∨ IsTup h l vs.toArray
theorem collect_sq {l : Addr} {vs : List Value} {Q : List Value → Shared → Prop} (hl : SqH s.heap l vs)
    (h : Q vs { s with heap := (s.heap.push (seqObj "list" #[] 0)).update s.heap.objs.size (Obj.mapSeq (· ++ vs.toArray)) }) (hsz : vs.length ≤ sizeLine) :
    wpAny (model prog w) A (collect (.ref l)) Q E s := by
  rcases hl with hl | hl
  · exact collect_list hl h hsz
  · exact collect_tup hl h hsz
theorem sorted_of_sortT {l : Addr} {vs : List Value} {Q : Value → Shared → Prop} (hl : SqH s.heap l vs) (hL : vs.length ≤ sizeLine)
    (body : ∀ E' : Value → Shared → Prop, wpAny (model prog w) A.in1.in1 (Builtin.«list.sort» ⟨[.ref (s.heap.objs.size + 1)], []⟩) (fun f s' => f = .done (.ret .none) ∧ Q (.ref (s.heap.objs.size + 1)) s') E' { s with heap := copyHeap s.heap vs }) :
    wpAny (model prog w) A (call (.builtin "sorted") [.ref l] []) Q E s := by
  refine call_function_entry_kw kind_sorted plain_sorted entry_sorted (args_sorted1 _) ?_
  unfold Builtin.«sorted»
  refine wpAny_bind (m := checkCount "sorted" 1 1 _) (wpAny_pure ?_)
  refine wpAny_bind (collect_sq hl ?_ hL)
  refine wpAny_bind (wpAny_newList ?_ hL)
  have hsz : ((s.heap.push (seqObj "list" #[] 0)).update s.heap.objs.size (Obj.mapSeq (· ++ vs.toArray))).objs.size = s.heap.objs.size + 1 := by
    rw [Heap.size_update, size_push']
  show wpAny _ _ _ _ _ { s with heap := copyHeap s.heap vs }
  rw [hsz]
  refine wpAny_bind (wpAny_holding (wpAny_call_entry_kw slot_list_sort ⟨_, copyHeap_at s.heap vs, rfl⟩ entry_list_sort ?body (args_list_sort _)))
  case body =>
    show wpAny (model prog w) A.in1.in1 (Builtin.«list.sort» ⟨[.ref (s.heap.objs.size + 1)], []⟩) _ _ _
    refine wpAny_mono (body _) (fun f s' hf => ?_) fun _ _ e => e
    obtain ⟨rfl, hq⟩ := hf
    exact ⟨_, rfl, wpAny_pure ⟨_, rfl, hq⟩⟩
end
section
open PySem.SeqAt
variable {prog : Program} {w : World} {A : Around} {E : Value → Shared → Prop} {s : Shared}
theorem tup_call_lt {Q : Value → Shared → Prop} {l b : Addr} {items items2 : Array Value} {e r : Nat → Bool} (hl : s.heap.IsTuple l items) (hb : s.heap.IsTuple b items2)
    (he : ∀ j (h1 : j < items.size) (h2 : j < items2.size), EqAt A.in1 s items[j] items2[j] (e j)) (hr : ∀ j (h1 : j < items.size) (h2 : j < items2.size), e j = false → RcLt A.in1 s items[j] items2[j] (r j))
    (h : Q (.bool (firstLt e r (decide (items.size < items2.size)) (List.range (min items.size items2.size)))) s) : wpAny (model prog w) A (call (.builtin "tuple.__lt__") [.ref l, .ref b]) Q E s := by
  obtain ⟨⟨cls, dd, data, sl⟩, ho, hc, n, hd⟩ := id hl
  obtain ⟨⟨cls2, dd2, data2, sl2⟩, ho2, hc2, n2, hd2⟩ := id hb
  simp only at hc hd hc2 hd2
  subst hc hd hc2 hd2
  exact call_meets PySem.F.slot_tuple_lt ⟨_, ho, rfl⟩ PySem.F.entry_tuple_lt (PySem.F.args_tuple_lt_2 _ _) (tuple_ltAt l b items items2 n n2 dd dd2 sl sl2 e r) ⟨ho, ho2, he, hr, h⟩
theorem tup_one_lt {xs ys : List PyData} {a b : Value} {as bs : List Addr} {Q : Bool → Shared → Prop} (ra : Reads s.heap a (.tuple xs) as) (rb : Reads s.heap b (.tuple ys) bs) (h : alike (.tuple xs) (.tuple ys) = true)
    (hu : A.units + min (PyData.tuple xs).depth (PyData.tuple ys).depth < cLine) (hq : Q (dataLt (.tuple xs) (.tuple ys)) s) : wpAny (model prog w) A (oneLt' true a b) Q E s := by
  have hal : alikeAll xs ys = true := by simpa [alike] using h
  cases ra with
  | @tuple l o vs n _ as₁ h1 h2 h3 h4 =>
    cases rb with
    | @tuple l' o' vs' n' _ bs₁ k1 k2 k3 k4 =>
      have n1 : vs.size = xs.length := by simpa using ReadsAll.length _ _ _ h4
      have n2 : vs'.size = ys.length := by simpa using ReadsAll.length _ _ _ k4
      rw [dataLt_tuple, ← firstLt_toks xs ys hal, ← n1, ← n2] at hq
      rw [oneLt'_eq]
      simp only [if_true]
      refine wpAny_bind (wpAny_cRoomFor (room_here hu) ?_)
      refine wpAny_bind (wpAny_callSpecialIfBound?_slot (T := "tuple") ⟨_, h1, h2⟩ PySem.F.slot_tuple_lt (tup_call_lt (e := pairEq xs ys) (r := fun j => dataLt (xs.getD j .none) (ys.getD j .none)) ⟨_, h1, h2, _, h3⟩ ⟨_, k1, k2, _, k3⟩ (fun j j1 j2 => ?_) (fun j j1 j2 hj => ?_) ?_))
      · have := eqAt_alikeAll xs ys A.in1 s vs.toList vs'.toList _ _ h4 k4 hal (room_in hu) j (by simpa using j1) (by simpa using j2)
        simpa using this
      · have := rcLt_alikeAll xs ys A.in1 s vs.toList vs'.toList _ _ h4 k4 hal (room_in hu) j (by simpa using j1) (by simpa using j2) hj
        simpa using this
      · exact wpAny_truthy_bool hq
def neT : PyData → Bool
  | .tuple (_ :: _) => true
  | _ => false
theorem firsts_any {M : Model} : ∀ {vs : List Value} {ds : List PyData}, EachIs (fun v d => ∃ as, Reads s.heap v d as) vs ds → (∀ d ∈ ds, ∃ xs, d = .tuple xs) → ∀ {Q : List (Option Value) → Shared → Prop},
    (∀ fs : List (Option Value), fs.map (·.isSome) = ds.map neT → Q fs s) → wpAny M A (vs.mapM firstOfTuple') Q E s
  | _, _, .nil, _, Q, h => by rw [List.mapM_nil]; exact wpAny_pure (h [] rfl)
  | _, _, .cons (b := d) ⟨as, r⟩ t, ht, Q, h => by
    obtain ⟨xs, rfl⟩ := ht d (by simp)
    cases r with
    | @tuple l o its n _ _ h1 h2 h3 h4 =>
      rw [List.mapM_cons]
      refine wpAny_bind ?_
      rw [kas_first_eq]
      refine wpAny_bind (Looks.here (show Looks M s.heap (typeOf (.ref l)) o.cls from (Looks.ld h1).andThen .now) ?_)
      rw [h2, if_neg (by first | decide | simp)]
      refine wpAny_bind (listItems_at h1 h3 (wpAny_pure ?_))
      refine wpAny_bind (firsts_any t (fun d hd => ht d (List.mem_cons_of_mem _ hd)) fun fs hf => wpAny_pure (h _ ?_))
      rw [List.map_cons, List.map_cons, hf]
      congr 1
      have n1 : its.size = xs.length := by simpa using ReadsAll.length _ _ _ h4
      cases xs with
      | nil =>
        have : its[0]? = none := by rw [Array.getElem?_eq_none]; simpa using Nat.le_of_eq n1
        rw [this]; rfl
      | cons x xs =>
        have : its[0]? = some (its[0]'(by rw [n1]; simp)) := Array.getElem?_eq_getElem _
        rw [this]; rfl
theorem mixed_kind {vs : List Value} {ds : List PyData} {Q : SortKind → Shared → Prop} (h2 : 2 ≤ vs.length) (e : EachIs (fun v d => ∃ as, Reads s.heap v d as) vs ds) (ht : ∀ d ∈ ds, ∃ xs, d = .tuple xs) (no : ds.all neT = false)
    (h : Q (if neT (ds.headD .none) then general' else oneType') s) : wpAny (model prog w) A (keyKind' vs.toArray) Q E s := by
  rw [keyKind'_eq, List.mapM_toArray, map_eq_pure_bind]
  refine wpAny_bind (wpAny_bind (firsts_any e ht fun fs hf => wpAny_pure ?_))
  have a1 : (fs.toArray.all fun x => x.isSome) = false := by
    have : fs.all (fun x => x.isSome) = ds.all neT := by
      have q : (fs.map (·.isSome)).all id = (ds.map neT).all id := by rw [hf]
      rw [List.all_map, List.all_map] at q
      exact q
    rw [List.all_toArray, this, no]
  rw [if_neg (by rw [a1]; simp)]
  have hd0 : (fs.toArray[0]?.bind id).isSome = neT (ds.headD .none) := by
    cases fs with
    | nil =>
      cases ds with
      | nil => rfl
      | cons d ds => simp at hf
    | cons f fs =>
      cases ds with
      | nil => simp at hf
      | cons d ds =>
        simp only [List.map_cons, List.cons.injEq] at hf
        simpa using hf.1
  rw [hd0]
  cases c : neT (ds.headD .none) with
  | true =>
    rw [c] at h
    simp only [if_true] at h ⊢
    exact wpAny_pure h
  | false =>
    rw [c] at h
    simp only [Bool.false_eq_true, if_false] at h ⊢
    obtain ⟨v₁, v₂, rest, rfl⟩ : ∃ v₁ v₂ rest, vs = v₁ :: v₂ :: rest := by
      match vs, h2 with
      | [], h2 => simp at h2
      | [_], h2 => simp at h2
      | v₁ :: v₂ :: rest, _ => exact ⟨v₁, v₂, rest, rfl⟩
    rw [oneTypeOnly'_eq, List.mapM_toArray, map_eq_pure_bind]
    refine wpAny_bind (wpAny_bind (wpAny_bind (kas_mapM (r := Value.type "tuple") _ (fun v hv Q' hq => ?_) (wpAny_pure ?_))))
    · obtain ⟨d, hd, as, r⟩ := e.left v hv
      obtain ⟨xs, rfl⟩ := ht d hd
      exact (looks_reads r).here hq
    · have hall : ((List.map (fun _ => Value.type "tuple") (v₁ :: v₂ :: rest)).toArray.all fun x => x == Value.type "tuple") = true := by
        simp only [List.all_toArray, List.all_map, List.all_eq_true]
        intro _ _
        rfl
      have h0 : (List.map (fun _ => Value.type "tuple") (v₁ :: v₂ :: rest)).toArray[0]? = some (Value.type "tuple") := by simp
      rw [h0]
      simp only [hall, if_true]
      exact wpAny_pure (wpAny_pure h)
theorem SortsTup {vs : List Value} {ds : List PyData} (e : EachIs (fun v d => ∃ as, Reads s.heap v d as) vs ds) (hal : AllAlike ds) (ht : ∀ d ∈ ds, ∃ xs, d = .tuple xs) (hu : ∀ d, d ∈ ds → A.units + d.depth < cLine) : SortsAt prog w A s (dataKind s.heap ds) vs := by
  cases no : ds.all neT with
  | true =>
    refine SortsAt.data e hal (.inl fun d hd => ?_) hu
    have := List.all_eq_true.mp no d hd
    obtain ⟨xs, rfl⟩ := ht d hd
    cases xs with
    | nil => cases this
    | cons x r => exact ⟨x, r, rfl⟩
  | false =>
    have room : ∀ {d d' : PyData}, d ∈ ds → A.units + min d.depth d'.depth < cLine := fun {d d'} hd => Nat.lt_of_le_of_lt (Nat.add_le_add_left (Nat.min_le_left _ _) _) (hu d hd)
    refine ⟨fun v hv => ?_, if neT (ds.headD .none) then general' else oneType', ?_, fun h2 E Q hq => mixed_kind h2 e ht no hq⟩
    · obtain ⟨d, hd, as, r⟩ := e.left v hv
      exact ⟨_, dataKind_some hal hd r⟩
    · intro E x y a b Q ha hb hq
      obtain ⟨d, as, hd, ra, rfl⟩ := dataKind_inv ha
      obtain ⟨d', as', hd', rb, rfl⟩ := dataKind_inv hb
      have hdd := hal d hd d' hd'
      have hroom := room (d' := d') hd
      have hq' : Q (dataLt d d') s := hq
      obtain ⟨xs, rfl⟩ := ht d hd
      obtain ⟨ys, rfl⟩ := ht d' hd'
      cases c : neT (ds.headD .none) with
      | true =>
        simp only [if_true]
        show wpAny (model prog w) A (oneLt' false x y) Q E s
        exact oneLt_alike (f := false) (fun z => absurd z (by simp)) ra rb hdd (by simp) hroom hq'
      | false =>
        simp only [Bool.false_eq_true, if_false]
        rw [keyLt'_oneType]
        exact tup_one_lt ra rb hdd hroom hq'
end
section
variable {prog : Program} {w : World} {A : Around} {E : Value → Shared → Prop} {s : Shared}
theorem sorted_dataT {β : Type} {vs : List Value} {bs : List β} {enc : β → PyData} {R : Value → β → Prop} {l : Addr} {Q : Value → Shared → Prop} (hl : SqH s.heap l vs) (e : EachIs R vs bs) (er : EachIs (fun v b => ∃ as, Reads s.heap v (enc b) as) vs bs) (hal : AllAlike (bs.map enc)) (hk : (∀ d ∈ bs.map enc, ∃ xs, d = .tuple xs) ∨ Sortable (bs.map enc)) (hL : bs.length ≤ sizeLine)
    (hu : ∀ b, b ∈ bs → A.units + 2 + (enc b).depth < cLine) (h : ∀ out, out.length = bs.length → EachIs R out (bs.mergeSort (dataLe false enc)) → Q (.ref (s.heap.objs.size + 1)) { s with heap := sortedAll s.heap vs (List.toArray out) }) :
    wpAny (model prog w) A (call (.builtin "sorted") [.ref l]) Q E s := by
  have er' : EachIs (fun v b => ∃ as, Reads (sortingHeap (copyHeap s.heap vs) (s.heap.objs.size + 1) vs) v (enc b) as) vs bs := er.mono fun _ _ ⟨as, r⟩ => ⟨as, PyProof.Rows.Reads.keeps (fun _ _ => sorting_copy_old) r⟩
  have hLv : vs.length ≤ sizeLine := by rw [e.length]; exact hL
  refine sorted_of_sortT hl hLv fun _ => list_sort_vals (s := { s with heap := copyHeap s.heap vs }) (copyHeap_at s.heap vs)
    (hk.elim (fun hk => SortsTup (s := { s with heap := sortingHeap (copyHeap s.heap vs) (s.heap.objs.size + 1) vs }) (each_map (R := fun v d => ∃ as, Reads (sortingHeap (copyHeap s.heap vs) (s.heap.objs.size + 1) vs) v d as) enc er') hal hk (bound_map hu)) fun hk => SortsAt.data (s := { s with heap := sortingHeap (copyHeap s.heap vs) (s.heap.objs.size + 1) vs }) (each_map (R := fun v d => ∃ as, Reads (sortingHeap (copyHeap s.heap vs) (s.heap.objs.size + 1) vs) v d as) enc er') hal hk (bound_map hu)) hLv ⟨rfl, ?_⟩
  exact h _ (by rw [sortVals_length false rfl]; exact e.length) (sortVals_data false e er' hal)
theorem dataLe_tups {β : Type} (x : β → List Int) : dataLe false (fun b => .tuple ((x b).map .int)) = fun p q => decide (x p ≤ x q) := by
  have e := dataLe_rows x
  rw [← e]
  funext p q
  show (!dataLt (.tuple ((x q).map .int)) (.tuple ((x p).map .int))) = (!dataLt (.list ((x q).map .int)) (.list ((x p).map .int)))
  rw [dataLt_list, dataLt_tuple]
end
end Sx

set_option Elab.async false
set_option linter.all false
set_option maxRecDepth 100000
namespace Sx
open PySem PySem.Spec PyProof.Rows L2
def rowI : D → Option (List Int)
  | .tup es => intsOf es
  | _ => none
def rowsOf : List D → Option (List (List Int))
  | [] => some []
  | d :: r => match rowI d with
    | some l => match rowsOf r with
      | some ls => some (l :: ls)
      | none => none
    | none => none
def leR (a b : List Int) : Bool := decide (a ≤ b)
def sortR (ls : List (List Int)) : List (List Int) := ls.mergeSort leR
def dataB (ps : List PyData) : Bool := (ps.all fun p => ps.all fun q => PySem.W.alike p q) && ((ps.all fun p => match p with | .tuple _ => true | _ => false) || (ps.all fun p => match p with | .none => false | .tuple _ => false | _ => true)) && ps.all fun p => decide (p.depth ≤ 50)
def srtX (ds : List D) (h : Hc) : VO := match mapO (toP h 8) ds with
  | some ps => if dataB ps then some (.ref h.length, h ++ [(false, .lst (((ds.zip ps).mergeSort fun a b => !PySem.W.dataLt b.2 a.2).map (·.1)))]) else none
  | none => none
def srtD (ds : List D) (h : Hc) : VO := match intsOf ds with
  | some ns => some (.ref h.length, h ++ [(false, .lst ((sortI ns).map D.int))])
  | none => match rowsOf ds with
    | some ls => some (.ref h.length, h ++ [(false, .lst ((sortR ls).map fun l => .tup (l.map D.int)))])
    | none => srtX ds h
def gSrt : GL := fun xs h => match gSorted xs h with
  | some r => some r
  | none => match xs with
    | [.tup ds] => srtD ds h
    | [.ref n] => match h[n]? with
      | some (_, .lst ds) => srtD ds h
      | _ => none
    | _ => none
theorem mapO_ints (h : Hc) (n : Nat) : ∀ l : List Int, mapO (toP h n) (l.map D.int) = some (l.map PyData.int)
  | [] => id rfl
  | i :: l => by
    have e : toP h n (.int i) = some (.int i) := by cases n <;> rfl
    simp only [List.map_cons, mapO, e, mapO_ints h n l]
theorem intsOf_eq : ∀ {ds : List D} {ns : List Int}, intsOf ds = some ns → ds = ns.map D.int
  | [], ns, e => by injection e with e; subst e; rfl
  | .int i :: ds, ns, e => by
    have e : (match intsOf ds with | some r => some (i :: r) | none => none) = some ns := e
    cases q : intsOf ds with
    | none => rw [q] at e; cases e
    | some r =>
      rw [q] at e
      injection e with e
      subst e
      rw [intsOf_eq q]; rfl
  | .non :: _, _, e => by cases e
  | .bl _ :: _, _, e => by cases e
  | .str _ :: _, _, e => by cases e
  | .tup _ :: _, _, e => by cases e
  | .flst _ :: _, _, e => by cases e
  | .ref _ :: _, _, e => by cases e
  | .obj _ _ _ :: _, _, e => by cases e
  | .ty _ :: _, _, e => by cases e
  | .gl _ :: _, _, e => by cases e
  | .err _ _ :: _, _, e => by cases e
theorem rowI_eq {d : D} {l : List Int} (e : rowI d = some l) : d = .tup (l.map D.int) := by
  cases d with
  | tup es =>
    simp only [rowI] at e
    rw [intsOf_eq e]
  | _ => cases e
section
variable {X : Cx} {pins : List (Addr × Obj)} {s : Shared} {σ : L2.St} {H : Hp} {μ : List Addr} {h : Hc} {Q : VK}
theorem rows_bs (I : Inv X pins σ H s) (x : R (wd X) μ h H) : ∀ {ds : List D} {vs : List V} {its : List Value} {ls : List (List Int)}, RDs (wd X) μ H ds vs → Vals vs its → rowsOf ds = some ls →
    ∃ bs : List (V × List Int), bs.map (·.1) = vs ∧ bs.map (·.2) = ls ∧ PySem.W.EachIs (fun v b => RelV b.1 v) its bs ∧ PySem.W.EachIs (fun v b => ∃ as, Reads s.heap v (.tuple (b.2.map .int)) as) its bs ∧ ∀ b ∈ bs, RD (wd X) μ H (.tup (b.2.map D.int)) b.1
  | [], vs, its, ls, r, v, e => by
    simp only [RDs] at r; subst r
    cases v
    injection e with e; subst e
    exact ⟨[], rfl, rfl, .nil, .nil, by simp⟩
  | d :: ds, vs, its, ls, r, v, e => by
    simp only [RDs] at r
    obtain ⟨y, t, rfl, r1, r2⟩ := r
    cases v with
    | cons v1 v2 =>
      simp only [rowsOf] at e
      cases q : rowI d with
      | none => rw [q] at e; cases e
      | some l =>
        rw [q] at e
        cases q2 : rowsOf ds with
        | none => rw [q2] at e; cases e
        | some l2 =>
          rw [q2] at e
          injection e with e
          subst e
          obtain ⟨bs, e1, e2, e3, e4, e5⟩ := rows_bs I x r2 v2 q2
          obtain rfl := rowI_eq q
          have tp : toP h 1 (.tup (l.map D.int)) = some (.tuple (l.map .int)) := by simp only [toP, mapO_ints]
          obtain ⟨as, rd⟩ := Dp.reads I _ y _ (toP_dp x 1 _ y _ r1 tp) v1
          refine ⟨(y, l) :: bs, by rw [List.map_cons, e1], by rw [List.map_cons, e2], .cons v1 e3, .cons ⟨as, rd⟩ e4, fun b hb => ?_⟩
          rcases List.mem_cons.mp hb with z | z
          · subst z; exact r1
          · exact e5 b z
theorem data_bs (I : Inv X pins σ H s) (x : R (wd X) μ h H) : ∀ {ds : List D} {vs : List V} {its : List Value} {ps : List PyData}, RDs (wd X) μ H ds vs → Vals vs its → mapO (toP h 8) ds = some ps →
    ∃ bs : List (V × D × PyData), bs.map (·.1) = vs ∧ bs.map (·.2) = ds.zip ps ∧ bs.map (·.2.2) = ps ∧ PySem.W.EachIs (fun v b => RelV b.1 v) its bs ∧ PySem.W.EachIs (fun v b => ∃ as, Reads s.heap v b.2.2 as) its bs ∧ ∀ b ∈ bs, RD (wd X) μ H b.2.1 b.1
  | [], vs, its, ps, r, v, e => by
    simp only [RDs] at r; subst r
    cases v
    injection e with e; subst e
    exact ⟨[], rfl, rfl, rfl, .nil, .nil, by simp⟩
  | d :: ds, vs, its, ps, r, v, e => by
    simp only [RDs] at r
    obtain ⟨y, t, rfl, r1, r2⟩ := r
    cases v with
    | cons v1 v2 =>
      simp only [mapO] at e
      cases q : toP h 8 d with
      | none => rw [q] at e; cases e
      | some p =>
        rw [q] at e
        cases q2 : mapO (toP h 8) ds with
        | none => rw [q2] at e; cases e
        | some p2 =>
          rw [q2] at e
          injection e with e
          subst e
          obtain ⟨bs, e1, e2, e3, e4, e5, e6⟩ := data_bs I x r2 v2 q2
          obtain ⟨as, rd⟩ := Dp.reads I _ y _ (toP_dp x 8 _ y _ r1 q) v1
          refine ⟨(y, d, p) :: bs, by rw [List.map_cons, e1], by rw [List.map_cons, e2, List.zip_cons_cons], by rw [List.map_cons, e3], .cons v1 e4, .cons ⟨as, rd⟩ e5, fun b hb => ?_⟩
          rcases List.mem_cons.mp hb with z | z
          · subst z; exact r1
          · exact e6 b z
theorem rds_data {W : Wd} : ∀ (bs : List (V × D × PyData)), (∀ b ∈ bs, RD W μ H b.2.1 b.1) → RDs W μ H (bs.map fun b => b.2.1) (bs.map (·.1))
  | [], _ => RDs.nil
  | b :: bs, k => RDs.cons (k b (by simp)) (rds_data bs fun c hc => k c (by simp [hc]))
theorem each_valsD : ∀ {out : List Value} {bs : List (V × D × PyData)}, PySem.W.EachIs (fun v b => RelV b.1 v) out bs → Vals (bs.map (·.1)) out
  | _, _, .nil => .nil
  | _, _, .cons a b => .cons a (each_valsD b)
theorem dataB_ok {ps : List PyData} (e : dataB ps = true) : PySem.W.AllAlike ps ∧ ((∀ d ∈ ps, ∃ xs, d = .tuple xs) ∨ PySem.W.Sortable ps) ∧ ∀ p ∈ ps, p.depth ≤ 50 := by
  unfold dataB at e
  simp only [Bool.and_eq_true, Bool.or_eq_true, List.all_eq_true, decide_eq_true_eq] at e
  obtain ⟨⟨e1, e2⟩, e3⟩ := e
  refine ⟨fun d hd d' hd' => e1 d hd d' hd', ?_, e3⟩
  rcases e2 with e2 | e2
  · refine .inl fun d hd => ?_
    have := e2 d hd
    split at this
    · exact ⟨_, rfl⟩
    · cases this
  · refine .inr (.inr fun d hd => ?_)
    have := e2 d hd
    split at this
    · cases this
    · cases this
    · rename_i h1 h2
      exact ⟨h1, h2⟩
theorem each_vals : ∀ {out : List Value} {bs : List (V × List Int)}, PySem.W.EachIs (fun v b => RelV b.1 v) out bs → Vals (bs.map (·.1)) out
  | _, _, .nil => .nil
  | _, _, .cons a b => .cons a (each_vals b)
theorem each_ints : ∀ {its : List Value} {ns : List Int}, Vals (ns.map V.int) its → PySem.W.EachIs (fun v (i : Int) => RelV (.int i) v) its ns
  | _, [], r => by cases r; exact .nil
  | _, n :: ns, r => by
    rw [List.map_cons] at r
    cases r with
    | cons a b => exact .cons a (each_ints b)
theorem ints_each : ∀ {its : List Value} {ns : List Int}, PySem.W.EachIs (fun v (i : Int) => RelV (.int i) v) its ns → Vals (ns.map V.int) its
  | _, _, .nil => .nil
  | _, _, .cons a b => .cons a (ints_each b)
theorem rds_rows {W : Wd} : ∀ (bs : List (V × List Int)), (∀ b ∈ bs, RD W μ H (.tup (b.2.map D.int)) b.1) → RDs W μ H (bs.map fun b => .tup (b.2.map D.int)) (bs.map (·.1))
  | [], _ => RDs.nil
  | b :: bs, k => RDs.cons (k b (by simp)) (rds_rows bs fun c hc => k c (by simp [hc]))
theorem srt_core (hu : X.A.units + 64 < cLine) (I : Inv X pins σ H s) (x : R (wd X) μ h H) {ds : List D} {vs : List V} {its : List Value} {a : Addr} (r : RDs (wd X) μ H ds vs) (v : Vals vs its) (hl : SqH s.heap a its) (hz : vs.length ≤ sizeLine) (k : kO (wd X) μ h H Q (srtD ds h)) :
    wpAny (model X.prog X.w) X.A (call (.builtin "sorted") [.ref a]) (EP X pins σ Q) X.xe s := by
  have lv := v.length
  unfold srtD at k
  cases e : intsOf ds with
  | some ns =>
    rw [e] at k
    obtain ⟨rfl, _⟩ := intsOf_ok r e
    have ei := each_ints v
    refine sorted_dataT (enc := fun i : Int => .int i) hl ei (ei.mono fun u i ru => ?_) ?_ (.inr (.inr ?_)) (by simpa using hz) (fun i hi => by simp only [PyData.depth]; omega) fun out hlen ho => ?_
    · obtain ⟨t, rfl⟩ := ru
      exact ⟨[], .int _ _⟩
    · intro d hd d' hd'
      obtain ⟨i, _, rfl⟩ := List.mem_map.mp hd
      obtain ⟨j, _, rfl⟩ := List.mem_map.mp hd'
      rfl
    · intro d hd
      obtain ⟨i, _, rfl⟩ := List.mem_map.mp hd
      exact ⟨by simp, by simp⟩
    · rw [PySem.W.dataLe_int (fun i : Int => i)] at ho
      have es : ns.mergeSort (fun a b => decide (a ≤ b)) = sortI ns := by
        refine sortI_uniq (List.mergeSort_perm ..) ?_
        have := List.pairwise_mergeSort (le := fun (a b : Int) => decide (a ≤ b)) (fun a b c h1 h2 => by simp at h1 h2 ⊢; omega) (fun a b => by simp; omega) ns
        exact this.imp fun h => of_decide_eq_true h
      rw [es] at ho
      have vo := ints_each ho
      obtain ⟨ep, he'⟩ := PyProof.Rows.sortedAll_at s.heap its out.toArray
      have hlen2 : ((sortI ns).map V.int).length ≤ sizeLine := by
        rw [List.length_map, (sortI_perm ns).length_eq]; simpa using hz
      exact ⟨.ref _, upd H (s.heap.objs.size + 1) (.lst ((sortI ns).map V.int)), I.laid (t' := s.toks) (fun _ _ => PyProof.Rows.sortedAll_old) (Nat.le_succ _) ⟨hlen2, out, ep, vo, he'⟩, rfl, k.lst x (RDs.ints _) (I.hok.fresh (Nat.le_succ _))⟩
  | none =>
    rw [e] at k
    cases e2 : rowsOf ds with
    | none =>
      rw [e2] at k
      have k : kO (wd X) μ h H Q (srtX ds h) := k
      unfold srtX at k
      cases e3 : mapO (toP h 8) ds with
      | none => rw [e3] at k; exact False.elim k
      | some ps =>
        rw [e3] at k
        simp only at k
        split at k
        · rename_i hb
          obtain ⟨bs, b1, b2, b3, b4, b5, b6⟩ := data_bs I x r v e3
          obtain ⟨k1, k2, k3⟩ := dataB_ok hb
          have bl : bs.length = vs.length := by rw [← b1, List.length_map]
          have em : bs.map (fun b => b.2.2) = ps := b3
          refine sorted_dataT (enc := fun b : V × D × PyData => b.2.2) hl b4 b5 (by rw [em]; exact k1) (by rw [em]; exact k2) (by omega) (fun b hb => ?_) fun out hlen ho => ?_
          · have := k3 b.2.2 (by rw [← em]; exact List.mem_map.mpr ⟨b, hb, rfl⟩)
            omega
          · have vo := each_valsD ho
            have pm := List.mergeSort_perm bs (PySem.W.dataLe false fun b : V × D × PyData => b.2.2)
            have ed : (bs.mergeSort (PySem.W.dataLe false fun b : V × D × PyData => b.2.2)).map (fun b => b.2.1) = ((ds.zip ps).mergeSort fun a b => !PySem.W.dataLt b.2 a.2).map (·.1) := by
              have q : (bs.mergeSort (PySem.W.dataLe false fun b : V × D × PyData => b.2.2)).map (·.2) = (ds.zip ps).mergeSort fun a b => !PySem.W.dataLt b.2 a.2 := by
                rw [← b2]
                exact List.map_mergeSort fun a _ b _ => rfl
              rw [← q, List.map_map]; rfl
            have rr := rds_data (W := wd X) (μ := μ) (H := H) (bs.mergeSort (PySem.W.dataLe false fun b : V × D × PyData => b.2.2)) fun b hb => b6 b (pm.mem_iff.mp hb)
            rw [ed] at rr
            generalize (bs.mergeSort (PySem.W.dataLe false fun b : V × D × PyData => b.2.2)).map (·.1) = zs at vo rr
            obtain ⟨ep, he'⟩ := PyProof.Rows.sortedAll_at s.heap its out.toArray
            have hlen2 : zs.length ≤ sizeLine := by rw [vo.length, hlen]; omega
            exact ⟨.ref _, upd H (s.heap.objs.size + 1) (.lst zs), I.laid (t' := s.toks) (fun _ _ => PyProof.Rows.sortedAll_old) (Nat.le_succ _) ⟨hlen2, out, ep, vo, he'⟩, rfl, k.lst x rr (I.hok.fresh (Nat.le_succ _))⟩
        · exact False.elim k
    | some ls =>
      rw [e2] at k
      obtain ⟨bs, b1, b2, b3, b4, b5⟩ := rows_bs I x r v e2
      have bl : bs.length = vs.length := by rw [← b1, List.length_map]
      refine sorted_dataT (enc := fun b : V × List Int => .tuple (b.2.map .int)) hl b3 b4 ?_ (.inl ?_) (by omega) (fun b hb => ?_) fun out hlen ho => ?_
      · intro d hd d' hd'
        obtain ⟨i, _, rfl⟩ := List.mem_map.mp hd
        obtain ⟨j, _, rfl⟩ := List.mem_map.mp hd'
        have al : ∀ a b : List Int, PySem.W.alikeAll (a.map .int) (b.map .int) = true := by
          intro a
          induction a with
          | nil => intro b; simp [PySem.W.alikeAll]
          | cons x a ih =>
            intro b
            cases b with
            | nil => simp [PySem.W.alikeAll]
            | cons y b => simp [PySem.W.alikeAll, PySem.W.alike, ih]
        simp only [PySem.W.alike]
        exact al _ _
      · intro d hd
        obtain ⟨b, hb, rfl⟩ := List.mem_map.mp hd
        exact ⟨_, rfl⟩
      · have : ∀ l : List Int, PyData.depthAll (l.map .int) = 0 := by
          intro l
          induction l with
          | nil => simp [PyData.depthAll]
          | cons i l ih => simp [PyData.depthAll, PyData.depth, ih]
        simp only [PyData.depth, this]
        omega
      · rw [dataLe_tups (fun b : V × List Int => b.2)] at ho
        have vo := each_vals ho
        have pm := List.mergeSort_perm bs (fun p q : V × List Int => decide (p.2 ≤ q.2))
        have em : (bs.mergeSort (fun p q : V × List Int => decide (p.2 ≤ q.2))).map (·.2) = sortR ls := by
          rw [← b2]
          exact List.map_mergeSort fun a _ b _ => rfl
        have rr := rds_rows (W := wd X) (μ := μ) (H := H) (bs.mergeSort (fun p q : V × List Int => decide (p.2 ≤ q.2))) fun b hb => b5 b (pm.mem_iff.mp hb)
        have ed : (bs.mergeSort (fun p q : V × List Int => decide (p.2 ≤ q.2))).map (fun b => D.tup (b.2.map D.int)) = (sortR ls).map fun l => .tup (l.map D.int) := by
          rw [← em, List.map_map]; rfl
        rw [ed] at rr
        generalize (bs.mergeSort (fun p q : V × List Int => decide (p.2 ≤ q.2))).map (·.1) = zs at vo rr
        obtain ⟨ep, he'⟩ := PyProof.Rows.sortedAll_at s.heap its out.toArray
        have hlen2 : zs.length ≤ sizeLine := by rw [vo.length, hlen]; omega
        exact ⟨.ref _, upd H (s.heap.objs.size + 1) (.lst zs), I.laid (t' := s.toks) (fun _ _ => PyProof.Rows.sortedAll_old) (Nat.le_succ _) ⟨hlen2, out, ep, vo, he'⟩, rfl, k.lst x rr (I.hok.fresh (Nat.le_succ _))⟩
end
theorem k_srt {X : Cx} (hu : X.A.units + 64 < cLine) (hc : X.calm = true) : CallR X (.builtin "sorted") (lVs (wd X) gSrt) := by
  intro pins s σ H xs us Q I r k
  obtain ⟨μ, h, ds, x, rs, k⟩ := k
  unfold gSrt at k
  cases e : gSorted ds h with
  | some p =>
    rw [e] at k
    exact k_sorted hc pins s σ H xs us Q I r ⟨μ, h, ds, x, rs, by rw [e]; exact k⟩
  | none =>
    rw [e] at k
    rcases ds with _ | ⟨d, _ | ⟨d2, r2⟩⟩
    · exact False.elim k
    · cases d with
      | tup es =>
        obtain ⟨v, rfl, rd⟩ := rds1 rs
        simp only [RD] at rd
        obtain ⟨a, vs, rfl, t, r1⟩ := rd
        obtain ⟨its, rv, ht, hz⟩ := I.tuple t.seq
        rw [Vals.ref1 r]
        exact srt_core hu I x r1 rv (.inr ht) hz k
      | ref n =>
        obtain ⟨v, rfl, rd⟩ := rds1 rs
        cases eh : h[n]? with
        | none => simp only [eh] at k; exact False.elim k
        | some p =>
          obtain ⟨f, o⟩ := p
          cases o with
          | dic _ => simp only [eh] at k; exact False.elim k
          | tab _ => simp only [eh] at k; exact False.elim k
          | dcd _ => simp only [eh] at k; exact False.elim k
          | dif _ => simp only [eh] at k; exact False.elim k
          | lst es =>
            simp only [eh] at k
            simp only [RD] at rd
            obtain ⟨a, e1, rfl⟩ := rd
            obtain ⟨vs, e2, e3⟩ := x.ob n a _ e1 eh
            obtain ⟨its, rv, ht, hz⟩ := I.list (SqL.of e2)
            rw [Vals.ref1 r]
            exact srt_core hu I x e3 rv (.inl ht.isList) (by simpa using hz) k
      | _ => exact False.elim k
    · cases d <;> exact False.elim k
section
variable {X : Cx} {e kx : Expr} {te tk : TE} {pos p2 : Pos}
end
end Sx

set_option Elab.async false
set_option linter.all false
set_option maxRecDepth 100000
namespace Sx
open PySem PySem.Spec PyProof.Rows L2
def gExt : GM := fun x ys h => match gExtend x ys h with
  | some r => some r
  | none => match wrL x h, ys with
    | some (n, ds), [.tup es] => if ds.length + es.length ≤ sizeLine then some (.non, h.set n (false, .lst (ds ++ es))) else none
    | _, _ => none
section
variable {X : Cx}
theorem mt_extT {x y : V} {v : Value} {us : List Value} {pins : List (Addr × Obj)} {s : Shared} {σ : L2.St} {H : Hp} {Q : VK} {a b : Addr} {xs zs : List V} (I : Inv X pins σ H s) (rx : RelV (.ref a) v) (rv : Vals [V.ref b] us) (hH : H a = some (.lst xs)) (hb : SqT X.K H b zs) (hz : xs.length + zs.length ≤ sizeLine)
    (q : Q .non (upd H a (.lst (xs ++ zs)))) : wpAny (model X.prog X.w) X.A (call (.builtin "list.extend") (v :: us)) (EP X pins σ Q) X.xe s := by
  cases rx
  obtain ⟨u, rfl, ru⟩ := rv.one
  cases ru
  obtain ⟨z, its, n, r, hl, e⟩ := I.lstM hH
  obtain ⟨its2, r2, ht, z2⟩ := I.tuple hb
  have l2 := r2.length
  obtain ⟨o2, ho2, hc2, n2, hd2⟩ := id ht
  have hsz : its.toArray.size + its2.toArray.size ≤ sizeLine := by rw [List.size_toArray, List.size_toArray]; omega
  refine wpAny_call_entry PySem.F.slot_list_extend ⟨_, e, rfl⟩ PySem.F.entry_list_extend ?_ (PySem.F.args_list_extend_2 _ _)
  unfold Builtin.«list.extend»
  refine wpAny_bind (m := PySem.selfAndOne "list.extend" _) (wpAny_pure ?_)
  show wpAny _ _ (Builtin.List.listExtendWith (.ref a) (.ref b) .none) _ _ s
  unfold Builtin.List.listExtendWith
  refine wpAny_bind (wpAny_typeOf (T := "tuple") ⟨o2, ho2, hc2⟩ ?_)
  have htt : (Value.type "tuple" == Value.type "tuple") = true := by rfl
  rw [if_pos (by rw [htt]; simp)]
  refine wpAny_bind (listItems_at ho2 hd2 ?_)
  refine wpAny_bind (listItems_at e rfl ?_)
  have hlong : ¬ (!its.toArray.isEmpty && Builtin.List.listTooLong (its.toArray.size + its2.toArray.size)) = true := by
    rw [notLongL hsz, Bool.and_false]
    exact Bool.false_ne_true
  rw [if_neg hlong]
  refine wpAny_bind (listUpdate_at e rfl ?_ (by rw [List.size_toArray]; omega) (by rw [Array.size_append]; omega))
  refine wpAny_pure ⟨.none, rfl, ?_⟩
  refine ⟨.non, _, I.lset (t' := s.toks) (its' := its ++ its2) hH e (by simp) (r.append r2) ?_, rfl, q⟩
  rw [List.length_append]
  exact hz
theorem m_ext : MtR X "list.extend" (lVm (wd X) gExt) := by
  intro pins s σ H x xs v us Q I rx rxs k
  obtain ⟨μ, h, dx, ds, r, d1, d2, k⟩ := k
  unfold gExt at k
  cases e : gExtend dx ds h with
  | some p =>
    rw [e] at k
    exact m_extend pins s σ H x xs v us Q I rx rxs ⟨μ, h, dx, ds, r, d1, d2, by rw [e]; exact k⟩
  | none =>
    rw [e] at k
    cases e2 : wrL dx h with
    | none => simp only [e2] at k; exact False.elim k
    | some p =>
      obtain ⟨n, l⟩ := p
      simp only [e2] at k
      rcases ds with _ | ⟨d, _ | ⟨d3, r3⟩⟩
      · exact False.elim k
      · cases d with
        | tup es =>
          simp only at k
          split at k
          · rename_i hz
            obtain ⟨a, vs, rfl, m1, m2, m3, m4⟩ := wrL_at r d1 e2
            obtain ⟨w, rfl, rw_⟩ := rd1 d2
            simp only [RD] at rw_
            obtain ⟨b, zs, rfl, t, rz⟩ := rw_
            exact mt_extT (x := .non) (y := .non) I rx rxs m3 t.seq (by rw [← m4.len, ← rz.len]; exact hz) (k.put r m1 m2 (RDs.append m4 rz) (by simp only [RD]))
          · exact False.elim k
        | _ => exact False.elim k
      · cases d <;> exact False.elim k
end
end Sx

set_option Elab.async false
set_option linter.all false
set_option maxRecDepth 100000
namespace Sx
open PySem
section
variable {h h1 h2 h3 : Hc} {n m : Nat} {f : Bool} {l : KD} {k : Int} {d : D} {ρ : Rho} {ds es : List D}
abbrev rL (l : List (List Int)) : List D := l.map iT
theorem rowI_iT {l : List Int} : rowI (iT l) = some l := intsOf_iL l
theorem rowsOf_r0 : ∀ {l : List (List Int)}, rowsOf (rL l) = some l
  | [] => rfl
  | r :: l => by
    have ih := rowsOf_r0 (l := l)
    simp only [rL] at ih
    simp only [rL, List.map_cons, rowsOf, rowI_iT, ih]
theorem ints_rL {l : List (List Int)} (ne : l ≠ []) : intsOf (rL l) = none := by
  obtain ⟨x, r, rfl⟩ := List.exists_cons_of_ne_nil ne
  rfl
theorem q_srtR0 {l : List (List Int)} (ne : l ≠ []) (g : h[n]? = some (f, .lst (rL l))) : gSrt [.ref n] h = some (.ref h.length, h ++ [(false, .lst (rL (sortR l)))]) := by
  have e : gSorted [.ref n] h = none := by
    unfold gSorted
    simp only [g, ints_rL ne]
  unfold gSrt srtD
  rw [e]
  simp only [g, ints_rL ne, rowsOf_r0]
end
theorem leR_total (a b : List Int) : (leR a b || leR b a) = true := by
  unfold leR
  rcases Std.le_total (a := a) (b := b) with h | h
  · simp [h]
  · simp [h]
theorem leR_trans (a b c : List Int) (h1 : leR a b = true) (h2 : leR b c = true) : leR a c = true := by
  unfold leR at *
  exact decide_eq_true (Std.le_trans (of_decide_eq_true h1) (of_decide_eq_true h2))
theorem sortR_sorted (l : List (List Int)) : (sortR l).Pairwise (fun a b => leR a b = true) := List.pairwise_mergeSort leR_trans leR_total l
theorem sortR_perm (l : List (List Int)) : (sortR l).Perm l := List.mergeSort_perm l leR
section
variable {t t1 : TGT} {tt tt1 : CT} {e ci1 : CE} {ρ : Rho} {vs vs1 : List Nat} {ci : CI}
end
end Sx

set_option Elab.async false
set_option linter.all false
set_option maxRecDepth 100000
namespace Sx
open PySem PySem.Spec PyProof.Rows L2
theorem rat_add (p q : Rat) : p + q = ((p.num * q.den + q.num * p.den : Int) : Rat) / ((p.den * q.den : Nat) : Rat) := by
  rw [Rat.add_def, Rat.normalize_eq_mkRat, Rat.mkRat_eq_div]
def Bd (k : Nat) (q : Rat) : Prop := q.num.natAbs < 2 ^ k ∧ q.den < 2 ^ k
theorem Bd.up {j k : Nat} {q : Rat} (b : Bd j q) (h : j ≤ k) : Bd k q :=
  have p : 2 ^ j ≤ 2 ^ k := Nat.pow_le_pow_right (by omega) h
  ⟨Nat.lt_of_lt_of_le b.1 p, Nat.lt_of_lt_of_le b.2 p⟩
theorem Bd.mk {k : Nat} {n : Int} {d : Nat} (h : 0 < d) (b1 : n.natAbs < 2 ^ k) (b2 : d < 2 ^ k) : Bd k ((n : Rat) / (d : Rat)) := by
  constructor
  · rw [← Rat.mkRat_eq_div, Rat.num_mkRat, if_neg (by omega)]
    exact Nat.lt_of_le_of_lt (Int.natAbs_ediv_le_natAbs _ _) b1
  · rw [← Rat.mkRat_eq_div, Rat.den_mkRat, if_neg (by omega)]
    exact Nat.lt_of_le_of_lt (Nat.div_le_self _ _) b2
theorem lt_mul {a b j k : Nat} (h1 : a < 2 ^ j) (h2 : b < 2 ^ k) : a * b < 2 ^ (j + k) := by
  rw [Nat.pow_add]
  rcases Nat.eq_zero_or_pos b with rfl | p
  · rw [Nat.mul_zero]; exact Nat.mul_pos (Nat.two_pow_pos _) (Nat.two_pow_pos _)
  · exact Nat.lt_of_lt_of_le (Nat.mul_lt_mul_of_pos_right h1 p) (Nat.mul_le_mul_left _ (Nat.le_of_lt h2))
theorem add_lt {a b c d : Int} {j k : Nat} (h1 : a.natAbs < 2 ^ j) (h2 : b.natAbs < 2 ^ k) (h3 : c.natAbs < 2 ^ k) (h4 : d.natAbs < 2 ^ j) : (a * b + c * d).natAbs < 2 ^ (j + k + 1) := by
  have e : 2 ^ (j + k + 1) = 2 ^ (j + k) + 2 ^ (j + k) := by rw [Nat.pow_succ]; omega
  have l1 := lt_mul h1 h2
  have l2 := lt_mul h3 h4
  rw [Nat.add_comm k j] at l2
  have t := Int.natAbs_add_le (a * b) (c * d)
  rw [Int.natAbs_mul, Int.natAbs_mul] at t
  omega
theorem Bd.add {j k : Nat} {p q : Rat} (a : Bd j p) (b : Bd k q) : Bd (j + k + 1) (p + q) := by
  rw [rat_add]
  have e : 2 ^ (j + k + 1) = 2 ^ (j + k) + 2 ^ (j + k) := by rw [Nat.pow_succ]; omega
  have h3 := lt_mul a.2 b.2
  exact .mk (Nat.mul_pos p.den_pos q.den_pos) (add_lt a.1 b.2 b.1 a.2) (by omega)
theorem Bd.neg {k : Nat} {q : Rat} (b : Bd k q) : Bd k (-q) := by
  refine ⟨?_, ?_⟩
  · rw [Rat.neg_num, Int.natAbs_neg]; exact b.1
  · rw [Rat.neg_den]; exact b.2
theorem Bd.sub {j k : Nat} {p q : Rat} (a : Bd j p) (b : Bd k q) : Bd (j + k + 1) (p - q) := by
  rw [Rat.sub_eq_add_neg]
  exact a.add b.neg
end Sx

set_option Elab.async false
set_option linter.all false
set_option maxRecDepth 100000
namespace Sx
open PySem PySem.Spec PyProof.Rows L2
open PySem.W PySem.Calls PySem.HandSPX
structure FnT (P : Program) (w : World) (K : Frag) (mg : Str → Option Value) (base : Heap) (fa : Addr) (fd : FuncData) (ps : List Str) (sp : Sp) : Prop where
  run : ∀ (s : Shared) (H : Hp) (args : Args) (us : List Value) (vs : List V) (Q : VK) (E : XK),
    Env0 P w K mg base callerA [] s H → BindsTo s fd args (ps.zip us) → Vals vs us → sp vs H Q E →
    codeAny (model P w) callerA (.call (.ref fa) args) (CR (L2.CX P w) [] P w H s Q E) s
end Sx
namespace Sx
open PySem PySem.Spec PyProof.Rows L2
open PySem.W PySem.Calls PySem.HandSPX
structure Trk (s : Shared) (cs : List (Addr × Addr)) (a : Addr) (xs : List V) (K : Frag) (H : Hp) : Prop where
  tab : ∀ p ∈ cs, H p.2 = some (.tbl #[])
  one : ∀ b, H b = none ∨ b ∈ cs.map (·.2) ∨ (b = a ∧ ∃ o, H b = some (.frz o (.lst xs)))
  scr : SqL K H a xs
  kn : H a ≠ none → K.lookup a = none
section
variable {P : Program} {w : World} {K : Frag} {mg mb : Str → Option Value} {fa a : Addr} {cs : List (Addr × Addr)} {fd : FuncData} {x : Str} {sp : Sp} {s : Shared} {vs : List Value} {ns : List Int} {H : Hp}
abbrev lstO (vs : List Value) : Obj := { cls := .type "list", data := .seq vs.toArray }
abbrev tabO (ps : Array Value) : Obj := { cls := .none, data := .fields ps }
theorem Trk.free (t : Trk s cs a (ns.map V.int) K H) (ha : s.heap.get? a = some (lstO vs)) (hT : ∀ p ∈ cs, s.heap.get? p.2 = some (tabO #[])) {b : Addr} {o : Obj} (e : s.heap.get? b = some o)
    (n1 : ∀ l n, o.data ≠ .seq l n) (n2 : o.data ≠ .fields #[]) : H b = none := by
  rcases t.one b with z | z | ⟨rfl, _⟩
  · exact z
  · obtain ⟨p, hp, rfl⟩ := List.mem_map.mp z
    rw [hT p hp] at e
    injection e with e
    subst e
    exact absurd rfl n2
  · rw [ha] at e
    injection e with e
    subst e
    exact absurd rfl (n1 _ _)
theorem Trk.kin (t : Trk s cs a (ns.map V.int) K H) (KX : K.In s.heap) (nT : ∀ p ∈ cs, K.lookup p.2 = none) : K.In (hidT s.heap H) := fun b o e => by
  refine hidT_get (KX b o e) ?_
  rcases t.one b with z | z | ⟨rfl, ob, z⟩
  · exact z
  · obtain ⟨p, hp, rfl⟩ := List.mem_map.mp z
    rw [nT p hp] at e
    cases e
  · have q := t.kn (by rw [z]; exact Option.some_ne_none _)
    rw [q] at e
    cases e
end
end Sx
namespace Sx
open PySem PySem.Spec PyProof.Rows L2
open PySem.W PySem.Calls PySem.HandSPX
def TabsAt (K : Frag) (h : Heap) (cs : List (Addr × Addr)) : Prop := (∀ p ∈ cs, h.get? p.2 = some (tabO #[])) ∧ (∀ p ∈ cs, K.lookup p.2 = none) ∧ ∀ p ∈ cs, CodeHd h p.1 p.2
theorem TabsAt.nil {K : Frag} {h : Heap} : TabsAt K h [] := ⟨by simp, by simp, by simp⟩
end Sx

set_option Elab.async false
set_option linter.all false
set_option maxRecDepth 100000
namespace Sx
open PySem
theorem ok_append {a b : Str} (h1 : PyData.strOk a = true) (h2 : PyData.strOk b = true) : PyData.strOk (a ++ b) = true := by
  unfold PyData.strOk at *
  show (a.cps ++ b.cps).all _ = true
  simp only [Array.all_append, h1, h2, Bool.and_self]
theorem ok_of (s : String) : PyData.strOk (Str.ofString s) = true := by
  unfold PyData.strOk
  rw [Str.ofString_eq_toList]
  simp only [List.all_toArray, List.all_map, List.all_eq_true, Function.comp, decide_eq_true_eq]
  intro c _
  have := c.valid
  unfold Char.toNat
  rcases this with h | h
  · have : c.val.toNat < 0xd800 := h
    omega
  · have := h.2
    have : c.val.toNat < 0x110000 := this
    omega
theorem ok_join {sep : Str} (hs : PyData.strOk sep = true) : ∀ l : List Str, (∀ x ∈ l, PyData.strOk x = true) → PyData.strOk (Str.join sep l) = true
  | [], _ => by show PyData.strOk Str.empty = true; decide +kernel
  | [x], h => h x (by simp)
  | x :: y :: l, h => by
    show PyData.strOk (x ++ sep ++ Str.join sep (y :: l)) = true
    exact ok_append (ok_append (h x (by simp)) hs) (ok_join hs (y :: l) fun z hz => h z (by simp [hz]))
theorem ok_tuple {l : List Str} (h : ∀ x ∈ l, PyData.strOk x = true) : PyData.strOk (tupleText l) = true := by
  unfold tupleText
  exact ok_append (ok_append (ok_of _) (ok_join (ok_of _) l h)) (ok_of _)
mutual
inductive Sh : D → Nat → Prop
  | int {i : Int} : i.natAbs.log2 < 1920 → Sh (.int i) 1921
  | non : Sh .non 4
  | str {s : Str} : PyData.showable (.str s) = true → PyData.strOk (PyData.shown (.str s)) = true → Sh (.str s) (PyData.shown (.str s)).length
  | tup {ds : List D} {n : Nat} : ShL ds n → Sh (.tup ds) (n + 2)
inductive ShL : List D → Nat → Prop
  | nil : ShL [] 0
  | cons {d : D} {ds : List D} {a b : Nat} : Sh d a → ShL ds b → ShL (d :: ds) (a + 2 + b)
end
mutual
theorem Sh.shown : ∀ {d : D} {n : Nat} {p : PyData}, Sh d n → PD d p → p.showable = true ∧ p.shown.length ≤ n ∧ PyData.strOk p.shown = true
  | _, _, _, .int (i := i) h, .int _ => by
    refine ⟨by simpa [PyData.showable] using h, ?_, by simpa only [PyData.shown] using ok_of _⟩
    have e := int_text_length_le (k := 1920) (by decide) h
    simp only [PyData.shown]
    have e2 : (Str.ofString (toString i)).length = (toString i).length := by
      rw [Str.ofString_eq_toList]
      simp [Str.length, String.length_toList]
    omega
  | _, _, _, .non, .non => by
    refine ⟨by simp [PyData.showable], ?_, by simpa only [PyData.shown] using ok_of _⟩
    simp only [PyData.shown]
    decide
  | _, _, _, .str h1 h2, .str _ => ⟨h1, Nat.le_refl _, h2⟩
  | _, _, _, .tup hs, .tup ps => by
    obtain ⟨a, b, c⟩ := ShL.shown hs ps
    refine ⟨by simpa [PyData.showable] using a, ?_, by simpa only [PyData.shown] using ok_tuple c⟩
    simp only [PyData.shown]
    exact Nat.le_trans (fmt_text _) (by omega)
theorem ShL.shown : ∀ {ds : List D} {n : Nat} {ps : List PyData}, ShL ds n → PDs ds ps → PyData.showableAll ps = true ∧ piled (PyData.shownAll ps) ≤ n ∧ ∀ x ∈ PyData.shownAll ps, PyData.strOk x = true
  | _, _, _, .nil, .nil => by simp [PyData.showableAll, PyData.shownAll, piled]
  | _, _, _, .cons h hs, .cons q qs => by
    obtain ⟨a, b, c⟩ := Sh.shown h q
    obtain ⟨a2, b2, c2⟩ := ShL.shown hs qs
    refine ⟨by simp [PyData.showableAll, a, a2], ?_, ?_⟩
    · simp only [PyData.shownAll]
      rw [piled_cons]
      omega
    · intro x hx
      simp only [PyData.shownAll, List.mem_cons] at hx
      rcases hx with rfl | hx
      · exact c
      · exact c2 x hx
end
theorem ShL.map {α : Type} {f : α → D} {c : Nat} : ∀ {l : List α}, (∀ x ∈ l, Sh (f x) c) → ShL (l.map f) (l.length * (c + 2))
  | [], _ => by simpa using ShL.nil
  | x :: l, h => by
    have := ShL.cons (h x (by simp)) (ShL.map (l := l) fun y hy => h y (by simp [hy]))
    rw [List.map_cons, List.length_cons]
    have e : (l.length + 1) * (c + 2) = c + 2 + l.length * (c + 2) := by rw [Nat.add_mul]; omega
    rw [e]; exact this
end Sx

set_option Elab.async false
set_option linter.all false
set_option maxRecDepth 100000
namespace Sx
open PySem PySem.Spec PyProof.Rows L2
end Sx

set_option Elab.async false
set_option linter.all false
set_option maxRecDepth 100000
namespace Sx
open PySem PySem.Spec PyProof.Rows L2
inductive DK where | keys | vals | items
def isDK (u : HO) : Prop := (∃ kv, u = .dK kv) ∨ ∃ o kv, u = .frz o (.dK kv)
section
variable {W : Wb} {μ : List Addr} {h : Hc} {H : Hp} {d : Addr} {u u' : HO}
theorem tp_dk {vs : List V} {a : Addr} (e : H d = some u) (i : isDK u) (x : TpL W.K H a vs) : TpL W.K (upd H d u') a vs := by
  rcases x with ⟨o, e2, d2⟩ | x
  · refine .inl ⟨o, ?_, d2⟩
    rw [upd_ne]; exact e2
    rintro rfl
    rw [e] at e2; cases e2
    rcases i with ⟨kv, i⟩ | ⟨o, kv, i⟩ <;> cases i
  · exact .inr x
theorem fz_dk {vs : List V} {a : Addr} (e : H d = some u) (i : isDK u) (x : FzL W.K H a vs) : FzL W.K (upd H d u') a vs := by
  rcases x with ⟨o, e2⟩ | x
  · refine .inl ⟨o, ?_⟩
    rw [upd_ne]; exact e2
    rintro rfl
    rw [e] at e2; cases e2
    rcases i with ⟨kv, i⟩ | ⟨o, kv, i⟩ <;> cases i
  · exact .inr x
mutual
theorem RD.dk (e : H d = some u) (i : isDK u) : ∀ (x : D) (v : V), RD W μ H x v → RD W μ (upd H d u') x v
  | .non, v, r => by simpa only [RD] using r
  | .bl _, v, r => by simpa only [RD] using r
  | .int _, v, r => by simpa only [RD] using r
  | .str _, v, r => by simpa only [RD] using r
  | .tup ds, v, r => by
    simp only [RD] at r ⊢
    obtain ⟨a, vs, e1, e2, e3⟩ := r
    exact ⟨a, vs, e1, tp_dk e i e2, RDs.dk e i ds vs e3⟩
  | .ref n, v, r => by simpa only [RD] using r
  | .flst ds, v, r => by
    simp only [RD] at r ⊢
    obtain ⟨a, vs, e1, e2, e3⟩ := r
    exact ⟨a, vs, e1, fz_dk e i e2, RDs.dk e i ds vs e3⟩
  | .obj c ns ds, v, r => by
    simp only [RD] at r ⊢
    obtain ⟨a, C, dx, vs, e1, e2, e3, e4, e5⟩ := r
    refine ⟨a, C, dx, vs, e1, e2, ?_, e4, RDs.dk e i ds vs e5⟩
    rw [upd_ne]; exact e3
    rintro rfl
    rw [e] at e3; cases e3
    rcases i with ⟨kv, i⟩ | ⟨o, kv, i⟩ <;> cases i
  | .ty _, v, r => by simpa only [RD] using r
  | .gl _, v, r => by simpa only [RD] using r
  | .err _ _, v, r => by simp only [RD] at r
  | .clo f c q vs ds, v, r => by
    simp only [RD] at r ⊢
    obtain ⟨e1, e2, e3⟩ := r
    refine ⟨e1, ?_, RDs.dk e i ds vs e3⟩
    rw [upd_ne]; exact e2
    rintro rfl
    rw [e] at e2; cases e2
    rcases i with ⟨kv, i⟩ | ⟨o, kv, i⟩ <;> cases i
theorem RDs.dk (e : H d = some u) (i : isDK u) : ∀ (ds : List D) (vs : List V), RDs W μ H ds vs → RDs W μ (upd H d u') ds vs
  | [], vs, r => by simpa only [RDs] using r
  | x :: ds, vs, r => by
    simp only [RDs] at r ⊢
    obtain ⟨v, w, e1, e2, e3⟩ := r
    exact ⟨v, w, e1, RD.dk e i x v e2, RDs.dk e i ds w e3⟩
end
theorem RV.dk {W : Wd} {x : D} {v : V} (e : H d = some u) (i : isDK u) (r : RV W μ H x v) : RV W μ (upd H d u') x v := by
  rcases r with r | ⟨c, y, rfl, a, C, dd, w, e1, e2, e3, e4, e5, e6⟩
  · exact .inl (RD.dk e i x v r)
  · refine .inr ⟨c, y, rfl, a, C, dd, w, e1, e2, e3, ?_, RD.dk e i y w e5, e6⟩
    rw [upd_ne]; exact e4
    rintro rfl
    rw [e] at e4; cases e4
    rcases i with ⟨kv, i⟩ | ⟨o, kv, i⟩ <;> cases i
theorem RS.dk {W : Wd} {ρ : Rho} {σ : L2.St} (e : H d = some u) (i : isDK u) (r : RS W μ H ρ σ) : RS W μ (upd H d u') ρ σ :=
  ⟨r.1, fun j x q => let ⟨v, a, b⟩ := r.2 j x q; ⟨v, a, RV.dk e i b⟩⟩
theorem ro_dk {b : Addr} {p : Bool × O} (e : H d = some u) (i : isDK u) (nb : b ≠ d) (x : RO W μ H b p) : RO W μ (upd H d u') b p := by
  obtain ⟨l, o⟩ := p
  cases o with
  | lst ds =>
    obtain ⟨vs, e1, e2⟩ := x
    exact ⟨vs, by rw [upd_ne nb]; exact e1, RDs.dk e i ds vs e2⟩
  | dic kvs =>
    obtain ⟨vs, e1, e2⟩ := x
    exact ⟨vs, by rw [upd_ne nb]; exact e1, RDs.dk e i _ vs e2⟩
  | tab y q =>
    obtain ⟨ps, e1, e2, e3⟩ := x
    refine ⟨ps, by rw [upd_ne nb]; exact e1, e2, fun pos cv z => ?_⟩
    obtain ⟨c, z1, z2⟩ := e3 pos cv z
    refine ⟨c, z1, ?_⟩
    rw [upd_ne]; exact z2
    rintro rfl
    rw [e] at z2; cases z2
    rcases i with ⟨kv, i⟩ | ⟨o, kv, i⟩ <;> cases i
  | dcd kvs => exact x.keepD (upd_ne nb) (fun d v => RD.dk e i d v)
  | dif kvs => exact x.keepF (upd_ne nb) (fun d v => RD.dk e i d v)
theorem R.frz {l : KD} {kv : List (L2.Key × V)} {n : Nat} {f : Bool} {o : Obj} (x : R W μ h H) (e1 : μ[n]? = some d) (e2 : h[n]? = some (f, .dic l)) (e3 : H d = some (.dK kv)) (rk : RKs W μ H l kv) : R W μ (lckL [n] h) (upd H d (.frz o (.dK kv))) := by
  have i : isDK (.dK kv) := .inl ⟨kv, rfl⟩
  refine ⟨by rw [lock_len, x.len], x.nd, fun m b p q1 q2 => ?_⟩
  rw [lock_get] at q2
  by_cases hm : m = n
  · subst hm
    rw [if_pos (by simp), e2] at q2
    cases q2
    rw [e1] at q1
    cases q1
    obtain ⟨vs, rfl, rv⟩ := rk.to
    exact ⟨vs, .inr ⟨rfl, o, upd_same⟩, RDs.dk e3 i _ _ rv⟩
  · rw [if_neg (by simpa using hm)] at q2
    have nb : b ≠ d := fun z => hm (getElem?_inj_nodup x.nd q1 (by rw [z]; exact e1))
    exact ro_dk e3 i nb (x.ob m b p q1 q2)
end
section
variable {W : Wd} {μ : List Addr} {h : Hc} {H : Hp} {d : Addr} {o : Obj} {l : KD} {kv : List (L2.Key × V)} {n : Nat}
theorem RKs.nth {W : Wb} {μ : List Addr} {H : Hp} : ∀ {l : KD} {kv : List (L2.Key × V)} {i : Nat} {k : L2.Key} {v : V}, RKs W μ H l kv → kv[i]? = some (k, v) → ∃ x, l[i]? = some (k, x) ∧ RD W μ H x v
  | [], kv, i, k, v, r, e => by have r : kv = [] := r; subst r; simp at e
  | (k0, x0) :: l, kv, i, k, v, r, e => by
    obtain ⟨v0, t, rfl, r1, r2⟩ := r
    cases i with
    | zero =>
      simp at e
      obtain ⟨rfl, rfl⟩ := e
      exact ⟨x0, rfl, r1⟩
    | succ i =>
      simp only [List.getElem?_cons_succ] at e ⊢
      exact RKs.nth r2 e
end
section
variable {X : Cx} {Wx : WX} {e : Expr} {ce : CE} {apos cpos : Pos} {tg : Expr}
end
def kL (X : Cx) (μ : List Addr) (h : Hc) (H : Hp) (D : Ends) : ResS → Prop
  | .ok f ρ' h' => ∀ μ' H' σ', R (wd X) μ' h' H' → Ext μ h H μ' h' H' → RS (wd X) μ' H' ρ' σ' → (match f with
    | .nx => D.nx σ' H'
    | .bk => D.bk σ' H'
    | .ct => D.ct σ' H'
    | .ret d => ∀ v, RD (wd X) μ' H' d v → D.rt v H'
    | .exn _ _ => False)
  | .stuck => False
theorem kL.shift {X : Cx} {μ μ1 : List Addr} {h h1 : Hc} {H H1 : Hp} {D : Ends} {r : ResS} (x : R (wd X) μ h H) (E : Ext μ h H μ1 h1 H1) (k : kL X μ h H D r) : kL X μ1 h1 H1 D r := by
  cases r with
  | stuck => exact k
  | ok f ρ h' => exact fun μ' H' σ' y F rs => k μ' H' σ' y (E.trans x F) rs
section
variable {X : Cx} {Wx : WX} {tg it : Expr} {k : DK} {ce : CE} {t : TGT} {body : List Stmt} {cb : CS} {pos : Pos}
end
end Sx

set_option Elab.async false
set_option linter.all false
set_option maxRecDepth 100000
namespace Sx
open PySem PySem.Spec PyProof.Rows L2
open PySem.W PySem.Calls
section
variable {X : Cx} {pins : List (Addr × Obj)} {σ : L2.St} {H : Hp} {s : Shared}
end
end Sx

set_option Elab.async false
set_option linter.all false
set_option maxRecDepth 100000
namespace Sx
open PySem PySem.Spec PyProof.Rows L2
open PySem.W PySem.Calls PySem.HandSPX
def LamF (K : Frag) (mg : Str → Option Value) (base : Heap) (y : Str) : Prop := ∃ fy oc od fd osl c, mg y = some (.ref fy) ∧ K.lookup fy = some ⟨oc, od, .func fd, osl⟩ ∧ fd.code = .ref c ∧ LamX.TabB base mg c (theTab K fy)
section
variable {P : Program} {w : World} {K : Frag} {mg : Str → Option Value} {base : Heap}
end
structure LamK (K : Frag) (h : Heap) (mg : Str → Option Value) (y : Str) (p : Addr × Addr) : Prop where
  at_ : ∃ fy oc od fd osl, mg y = some (.ref fy) ∧ K.lookup fy = some ⟨oc, od, .func fd, osl⟩ ∧ fd.code = .ref p.1 ∧ theTab K fy = p.2
  hd : CodeHd h p.1 p.2
  em : h.get? p.2 = some (tabO #[])
  out : K.lookup p.2 = none
theorem LamK.f {K : Frag} {h base : Heap} {mg : Str → Option Value} {y : Str} {p : Addr × Addr} (x : LamK K h mg y p) (t : LamX.TabB base mg p.1 p.2) : LamF K mg base y := by
  obtain ⟨fy, oc, od, fd, osl, h1, h2, h3, h4⟩ := x.at_
  exact ⟨fy, oc, od, fd, osl, p.1, h1, h2, h3, by rw [h4]; exact t⟩
def tabH (ys : List (Str × Str)) : Hc := ys.map fun y => (false, .tab y.1 y.2)
inductive LamKs (K : Frag) (h : Heap) (mg : Str → Option Value) : List (Str × Str) → List (Addr × Addr) → Prop
  | nil : LamKs K h mg [] []
  | cons {y q : Str} {p : Addr × Addr} {ys : List (Str × Str)} {ps : List (Addr × Addr)} (x : LamK K h mg y p) (r : LamKs K h mg ys ps) : LamKs K h mg ((y, q) :: ys) (p :: ps)
theorem LamKs.at {K : Frag} {h : Heap} {mg : Str → Option Value} {ys : List (Str × Str)} {ps : List (Addr × Addr)} (x : LamKs K h mg ys ps) : TabsAt K h ps := by
  induction x with
  | nil => exact .nil
  | cons x r ih =>
    obtain ⟨i1, i2, i3⟩ := ih
    refine ⟨fun p hp => ?_, fun p hp => ?_, fun p hp => ?_⟩
    all_goals rcases List.mem_cons.mp hp with rfl | hp
    · exact x.em
    · exact i1 p hp
    · exact x.out
    · exact i2 p hp
    · exact x.hd
    · exact i3 p hp
theorem LamKs.ro {K : Frag} {h : Heap} {mg : Str → Option Value} {ys : List (Str × Str)} {ps : List (Addr × Addr)} (x : LamKs K h mg ys ps) {H : Hp} {μ : List Addr} (hH : ∀ p ∈ ps, H p.2 = some (.tbl #[])) :
    (ps.map (·.2)).length = (tabH ys).length ∧ ∀ (n : Nat) (a : Addr) (p : Bool × O), (ps.map (·.2))[n]? = some a → (tabH ys)[n]? = some p → RO ⟨K, mg⟩ μ H a p := by
  induction x with
  | nil => exact ⟨rfl, fun n a p e => by simp at e⟩
  | @cons y q p ys ps x r ih =>
    obtain ⟨i1, i2⟩ := ih fun p hp => hH p (List.mem_cons_of_mem _ hp)
    refine ⟨by simpa [tabH] using i1, fun n a o e1 e2 => ?_⟩
    cases n with
    | zero =>
      simp only [tabH, List.map_cons, List.getElem?_cons_zero, Option.some.injEq] at e1 e2
      subst e1; subst e2
      obtain ⟨fy, oc, od, fd, osl, h1, h2, h3, h4⟩ := x.at_
      obtain ⟨qs, t1, t2, t3⟩ := LamX.TabS.nil (q := q) (hH p List.mem_cons_self)
      exact ⟨qs, t1, ⟨t2, fy, h1, h4.symm⟩, t3⟩
    | succ n =>
      simp only [tabH, List.map_cons, List.getElem?_cons_succ] at e1 e2
      exact i2 n a o e1 e2
end Sx

set_option Elab.async false
set_option linter.all false
set_option maxRecDepth 100000
namespace Sx
open PySem L2
end Sx

set_option Elab.async false
set_option linter.all false
set_option maxRecDepth 100000
namespace Sx
open PySem PySem.Spec PyProof.Rows L2
section
variable {X : Cx} {Wx : WX} {e o1 i1 o2 i2 : Expr} {ce co1 ci1 co2 ci2 : CE} {t1 t2 pt pos : Pos} {kt : Nat}
end
end Sx

set_option Elab.async false
set_option linter.all false
set_option maxRecDepth 100000
namespace Sx
open PySem PySem.Spec PyProof.Rows L2
section
variable {W : Wb} {μ : List Addr} {h : Hc} {H : Hp}
end
end Sx

set_option Elab.async false
set_option linter.all false
set_option maxRecDepth 100000
namespace Sx
open PySem PySem.Spec PyProof.Rows L2
theorem fn_stuck {P : Program} {w : World} {K : PySem.W.Frag} {mg : Str → Option Value} {base : Heap} {k n : Nat} {f : Addr} {fd : FuncData} {ps : List Str} {W : Wb} : FnOk P w K mg base (L2.CX P w) k f fd ps (spOf W n (fun _ _ => .stuck)) :=
  ⟨fun _ _ _ _ ⟨_, _, _, _, _, _, z⟩ => z.elim, fun _ _ _ _ _ _ _ _ _ _ _ _ _ ⟨_, _, _, _, _, _, z⟩ => z.elim⟩
structure EI (K : PySem.W.Frag) (mg : Str → Option Value) (es : List Str) : Prop where
  cl : ∀ c ∈ es, ∀ C, mg c = some (.ref C) → PySem.W.findIn K (.ref C) "__class__" = some (some (.builtin "object.__class__")) ∧ (PySem.W.clsIn K C).isSome = true ∧ PySem.W.mroIn K C (.type "object") = some true
  sp : PySem.W.specialIn K (.builtin "object.__class__") "__get__" = some (some (.builtin "getset_descriptor.__get__"))
  tk : PySem.W.takesIn K (.builtin "object.__class__") = some true
end Sx

set_option Elab.async false
set_option linter.all false
set_option maxRecDepth 100000
namespace Sx
open PySem PySem.Spec PyProof.Rows L2
abbrev rowD (r : List (List Int)) : D := .tup (rL r)
theorem mapO_map {α β : Type} {f : α → Option β} {g : α → β} : ∀ l : List α, (∀ a ∈ l, f a = some (g a)) → mapO f l = some (l.map g)
  | [], _ => rfl
  | a :: l, h => by
    simp only [mapO, h a (by simp), mapO_map l fun x hx => h x (by simp [hx]), List.map_cons]
def pR (r : List (List Int)) : PyData := .tuple (r.map fun l => .tuple (l.map .int))
theorem toP_row {h : Hc} (r : List (List Int)) : toP h 8 (rowD r) = some (pR r) := by
  have e1 : ∀ l : List Int, toP h 7 (iT l) = some (.tuple (l.map .int)) := fun l => by simp only [toP, mapO_ints]
  have e2 : mapO (toP h 7) (rL r) = some (r.map fun l => .tuple (l.map .int)) := by
    have := mapO_map (f := fun l : List Int => toP h 7 (iT l)) (g := fun l => PyData.tuple (l.map .int)) r fun l _ => e1 l
    rw [← this]
    clear this
    induction r with
    | nil => rfl
    | cons a r ih => simp only [rL, List.map_cons, mapO]; simp only [rL] at ih; rw [ih]
  show toP h (7 + 1) (.tup (rL r)) = _
  simp only [toP, e2]
  rfl
theorem alk_ints : ∀ a b : List Int, PySem.W.alikeAll (a.map .int) (b.map .int) = true
  | [], _ => by simp [PySem.W.alikeAll]
  | _ :: _, [] => by simp [PySem.W.alikeAll]
  | x :: a, y :: b => by simp [PySem.W.alikeAll, PySem.W.alike, alk_ints a b]
theorem alk_rows : ∀ a b : List (List Int), PySem.W.alikeAll (a.map fun l => .tuple (l.map .int)) (b.map fun l => .tuple (l.map .int)) = true
  | [], _ => by simp [PySem.W.alikeAll]
  | _ :: _, [] => by simp [PySem.W.alikeAll]
  | x :: a, y :: b => by simp [PySem.W.alikeAll, PySem.W.alike, alk_ints x y, alk_rows a b]
theorem dep_ints : ∀ l : List Int, PyData.depthAll (l.map .int) = 0
  | [] => by simp [PyData.depthAll]
  | i :: l => by simp [PyData.depthAll, PyData.depth, dep_ints l]
theorem dep_rows : ∀ l : List (List Int), PyData.depthAll (l.map fun l => PyData.tuple (l.map .int)) ≤ 1
  | [] => by simp [PyData.depthAll]
  | i :: l => by
    have := dep_rows l
    simp only [List.map_cons, PyData.depthAll, PyData.depth, dep_ints]
    omega
theorem dataB_rows {L : List (List (List Int))} (k : ∀ r ∈ L, r ≠ []) : dataB (L.map pR) = true := by
  unfold dataB
  simp only [Bool.and_eq_true, Bool.or_eq_true, List.all_eq_true, decide_eq_true_eq]
  refine ⟨⟨fun p hp q hq => ?_, .inl fun p hp => ?_⟩, fun p hp => ?_⟩
  · obtain ⟨a, _, rfl⟩ := List.mem_map.mp hp
    obtain ⟨b, _, rfl⟩ := List.mem_map.mp hq
    simp only [pR, PySem.W.alike]
    exact alk_rows a b
  · obtain ⟨a, ha, rfl⟩ := List.mem_map.mp hp
    obtain ⟨x, r, e⟩ := List.exists_cons_of_ne_nil (k a ha)
    rw [e]; rfl
  · obtain ⟨a, _, rfl⟩ := List.mem_map.mp hp
    have := dep_rows a
    simp only [pR, PyData.depth]
    omega
theorem zip_maps {α β γ : Type} (f : α → β) (g : α → γ) : ∀ L : List α, (L.map f).zip (L.map g) = L.map fun r => (f r, g r)
  | [] => rfl
  | a :: L => by simp [zip_maps f g L]
end Sx

set_option Elab.async false
set_option linter.all false
set_option maxRecDepth 100000
namespace Sx
open PySem PySem.Spec PyProof.Rows L2
section
variable {P : Program} {w : World} {A : Around} {E : Value → Shared → Prop} {s : Shared}
set_option maxHeartbeats 3200000 in
end
end Sx

set_option Elab.async false
set_option linter.all false
set_option maxRecDepth 100000
namespace Sx
open PySem PySem.Spec PyProof.Rows L2
def MutAt (H : Hp) (p : Addr) : Prop := H p = none ∨ (∃ xs, H p = some (.lst xs)) ∨ ∃ kv, H p = some (.dK kv)
section
variable {W : Wd} {μ μ1 : List Addr} {h h1 : Hc} {H H1 : Hp} {p : Addr} {o' : HO}
theorem MutAt.ne (hp : MutAt H p) {a : Addr} {o : HO} (e : H a = some o) (h1 : ∀ xs, o ≠ .lst xs) (h2 : ∀ kv, o ≠ .dK kv) : a ≠ p := by
  rintro rfl
  rcases hp with q | ⟨xs, q⟩ | ⟨kv, q⟩
  · rw [q] at e; cases e
  · rw [q] at e; cases e; exact h1 _ rfl
  · rw [q] at e; cases e; exact h2 _ rfl
theorem MutAt.fix (hp : MutAt H p) {a : Addr} {o : HO} (e : H a = some o) (h1 : ∀ xs, o ≠ .lst xs := by intro _ z; cases z) (h2 : ∀ kv, o ≠ .dK kv := by intro _ z; cases z) : upd H p o' a = some o := by
  rw [upd_ne (hp.ne e h1 h2)]; exact e
mutual
theorem RD.offM (hp : MutAt H p) : ∀ (d : D) (v : V), RD W μ H d v → RD W μ (upd H p o') d v
  | .non, v, e => by simpa only [RD] using e
  | .bl _, v, e => by simpa only [RD] using e
  | .int _, v, e => by simpa only [RD] using e
  | .str _, v, e => by simpa only [RD] using e
  | .tup ds, v, e => by
    simp only [RD] at e ⊢
    obtain ⟨a, vs, e1, e2, e3⟩ := e
    refine ⟨a, vs, e1, ?_, RDs.offM hp ds vs e3⟩
    rcases e2 with ⟨o, e2, q⟩ | e2
    · exact .inl ⟨o, hp.fix e2, q⟩
    · exact .inr e2
  | .ref n, v, e => by simpa only [RD] using e
  | .flst ds, v, e => by
    simp only [RD] at e ⊢
    obtain ⟨a, vs, e1, e2, e3⟩ := e
    refine ⟨a, vs, e1, ?_, RDs.offM hp ds vs e3⟩
    rcases e2 with ⟨o, e2⟩ | e2
    · exact .inl ⟨o, hp.fix e2⟩
    · exact .inr e2
  | .obj c ns ds, v, e => by
    simp only [RD] at e ⊢
    obtain ⟨a, C, dx, vs, e1, e2, e3, e4, e5⟩ := e
    exact ⟨a, C, dx, vs, e1, e2, hp.fix e3, e4, RDs.offM hp ds vs e5⟩
  | .ty _, v, e => by simpa only [RD] using e
  | .gl _, v, e => by simpa only [RD] using e
  | .clo f c q vs ds, v, e => by
    simp only [RD] at e ⊢
    obtain ⟨e1, e2, e3⟩ := e
    exact ⟨e1, hp.fix e2, RDs.offM hp ds vs e3⟩
theorem RDs.offM (hp : MutAt H p) : ∀ (ds : List D) (vs : List V), RDs W μ H ds vs → RDs W μ (upd H p o') ds vs
  | [], vs, e => by simpa only [RDs] using e
  | d :: ds, vs, e => by
    simp only [RDs] at e ⊢
    obtain ⟨v, r, e1, e2, e3⟩ := e
    exact ⟨v, r, e1, RD.offM hp d v e2, RDs.offM hp ds r e3⟩
end
theorem RO.offM {a : Addr} {q : Bool × O} (hp : MutAt H p) (ha : a ≠ p) (x : RO W μ H a q) : RO W μ (upd H p o') a q := by
  obtain ⟨l, o⟩ := q
  cases o with
  | lst ds =>
    obtain ⟨vs, e1, e2⟩ := x
    exact ⟨vs, by rw [upd_ne ha]; exact e1, RDs.offM hp ds vs e2⟩
  | dic kvs =>
    obtain ⟨vs, e1, e2⟩ := x
    exact ⟨vs, by rw [upd_ne ha]; exact e1, RDs.offM hp _ vs e2⟩
  | tab y q =>
    obtain ⟨ps, e1, e2, e3⟩ := x
    refine ⟨ps, by rw [upd_ne ha]; exact e1, e2, fun pos cv z => ?_⟩
    obtain ⟨c, z1, z2⟩ := e3 pos cv z
    exact ⟨c, z1, hp.fix z2⟩
  | dcd kvs => exact x.keepD (upd_ne ha) (fun d v => RD.offM hp d v)
  | dif kvs => exact x.keepF (upd_ne ha) (fun d v => RD.offM hp d v)
theorem R.offM (x : R W μ h H) (hp : MutAt H p) (hn : p ∉ μ) : R W μ h (upd H p o') :=
  ⟨x.len, x.nd, fun n a q e1 e2 => (x.ob n a q e1 e2).offM hp (fun z => hn (z ▸ List.mem_of_getElem? e1))⟩
theorem RV.offM {d : D} {v : V} (hp : MutAt H p) (r : RV W μ H d v) : RV W μ (upd H p o') d v := by
  rcases r with r | ⟨c, y, rfl, a, C, dd, u, e1, e2, e3, e4, e5, e6⟩
  · exact .inl (RD.offM hp d v r)
  · exact .inr ⟨c, y, rfl, a, C, dd, u, e1, e2, e3, hp.fix e4, RD.offM hp y u e5, e6⟩
theorem RS.offM {ρ : Rho} {σ : L2.St} (rs : RS W μ H ρ σ) (hp : MutAt H p) : RS W μ (upd H p o') ρ σ :=
  ⟨rs.1, fun i d e => let ⟨v, a, b⟩ := rs.2 i d e; ⟨v, a, RV.offM hp b⟩⟩
theorem Ext.offM (E : Ext μ h H μ1 h1 H1) (hp : H p = none) : Ext μ h H μ1 h1 (upd H1 p o') :=
  ⟨E.pre, fun a o e k => by rw [upd_ne (ne_of_none e hp)]; exact E.frame a o e k, fun a z => by
    unfold upd; split
    · simp
    · exact E.dom a z, E.hc⟩
theorem RKs.offM {l : KD} {kv : List (L2.Key × V)} (hp : MutAt H p) (r : RKs W μ H l kv) : RKs W μ (upd H p o') l kv := by
  obtain ⟨vs, rfl, r'⟩ := r.to
  exact RKs.of (RDs.offM hp _ _ r')
theorem R.adoptD {l : KD} {kv : List (L2.Key × V)} (x : R W μ1 h1 H1) (E : Ext μ h H μ1 h1 H1) (hp : H p = none) (hn : p ∉ μ1) (e : H1 p = some (.dK kv)) (r : RKs W μ1 H1 l kv) :
    R W (μ1 ++ [p]) (h1 ++ [(false, .dic l)]) H1 ∧ Ext μ h H (μ1 ++ [p]) (h1 ++ [(false, .dic l)]) H1 := by
  obtain ⟨vs, rfl, r'⟩ := r.to
  refine ⟨⟨by simp [x.len], ?_, fun n a q e1 e2 => ?_⟩, ⟨?_, E.frame, E.dom, E.hc.trans fun n q e => ⟨q, by rw [List.getElem?_append_left (List.getElem?_eq_some_iff.mp e).1, e], fun _ => rfl⟩⟩⟩
  · rw [List.nodup_append]
    refine ⟨x.nd, by simp, fun a ha b hb z => ?_⟩
    simp at hb; subst hb; subst z
    exact hn ha
  · by_cases hn2 : n < μ1.length
    · rw [List.getElem?_append_left hn2] at e1
      rw [List.getElem?_append_left (by rw [← x.len]; exact hn2)] at e2
      exact (x.ob n a q e1 e2).pre
    · have hn3 : n = μ1.length := by
        have := (List.getElem?_eq_some_iff.mp e1).1
        simp at this; omega
      subst hn3
      simp at e1; subst e1
      rw [x.len] at e2
      simp at e2; subst e2
      exact ⟨vs, .inl e, RDs.pre _ vs r'⟩
  · obtain ⟨m, e1, f⟩ := E.pre
    refine ⟨m ++ [p], by rw [e1, List.append_assoc], fun a ha => ?_⟩
    rcases List.mem_append.mp ha with z | z
    · exact f a z
    · simp at z; subst z; exact hp
end
def kCD (W : Wd) (μ1 : List Addr) (h1 : Hc) (H1 : Hp) (p : Addr) (Q : V → Hp → Prop) : Res KD → Prop
  | .ok l h3 => ∀ μ3 H3 kv, R W μ3 h3 H3 → Ext μ1 h1 H1 μ3 h3 H3 → p ∉ μ3 → H3 p = some (.dK kv) → RKs W μ3 H3 l kv → Q (.ref p) H3
  | _ => False
section
variable {X : Cx} {Wx : WX} {tg it kx vx : Expr} {ifs : List Expr} {tp : Bool} {ci : CI} {t : TGT} {tt : CT} {ck cv : CE} {scope : Scope} {own : List (Str × Nat)} {pos : Pos}
theorem kCD.start {μ μ1 : List Addr} {h h1 : Hc} {H H1 : Hp} {σ : L2.St} {Q : V → Hp → Prop} {ls : List Nat} {p : Addr} {r : Res KD} {W : Wd} (x : R W μ h H) (x1 : R W μ1 h1 H1) (E : Ext μ h H μ1 h1 H1) (hp : H1 p = none)
    (k : kR (RD W) W Wx μ h H σ Q ((ulkR h1 ls (noX r)).bind fun l h2 => .ok (.ref h2.length) (h2 ++ [(false, .dic l)]))) : kCD W μ1 (lckL ls h1) H1 p Q r := by
  cases r with
  | ok l h3 =>
    intro μ3 H3 kv r3 E3 hn e rd
    obtain ⟨a, b⟩ := x1.unlk r3 E3
    obtain ⟨c, d⟩ := R.adoptD a b hp hn e (l := l) rd
    refine k _ _ _ c (E.trans x d) ?_
    simp only [RD]
    exact ⟨p, by rw [← a.len]; simp, rfl⟩
  | exn c x h => exact False.elim k
  | stuck => exact False.elim k
end
end Sx

set_option Elab.async false
set_option linter.all false
set_option maxRecDepth 100000
namespace Sx
open PySem PySem.Spec PyProof.Rows L2
structure RgOk (X : Cx) (a : Expr) : Prop where
  g : Gl X "range"
  m : X.mg "range" = none
  hs : starEach [a] X.env = [(false, eval a X.env)]
  h0 : starEach [a] X.env = (false, eval a X.env) :: starEach [] X.env
section
variable {X : Cx} {Wx : WX} {tg it elt tg1 it1 : Expr} {ifs ifs1 : List Expr} {tp : Bool} {ci : CI} {ci1 : CE} {t t1 : TGT} {tt tt1 : CT} {ce : CE} {scope : Scope} {own : List (Str × Nat)} {vs1 : List Nat} {pos : Pos}
end

end Sx

set_option Elab.async false
set_option linter.all false
set_option maxRecDepth 100000
namespace Sx
open PySem PySem.Spec PyProof.Rows L2
section
variable {X : Cx} {Wx : WX} {a : Expr} {ca : CE} {p p2 q : Pos} {pos : Pos}
end
section
variable {P : Program} {w : World} {A : Around} {E : Value → Shared → Prop} {s : Shared}
set_option maxHeartbeats 3200000 in
end
end Sx

set_option Elab.async false
set_option linter.all false
set_option maxRecDepth 100000
namespace Sx
open PySem PySem.Spec PyProof.Rows L2
abbrev TD := List (D × D)
def tGet : TD → D → Option D
  | [], _ => none
  | p :: r, k => if p.1 = k then some p.2 else tGet r k
def tPut (l : TD) (k d : D) : TD := if (tGet l k).isSome = true then l.map (fun p => if p.1 = k then (p.1, d) else p) else l ++ [(k, d)]
mutual
theorem keyN_inj : ∀ (a b : D) (k : NestedKey), keyN a = some k → keyN b = some k → a = b
  | .non, b, k, ha, hb => by
    simp only [keyN] at ha
    cases ha
    cases b with
    | non => rfl
    | int i => simp only [keyN] at hb; cases hb
    | tup ds =>
      simp only [keyN] at hb
      split at hb <;> cases hb
    | _ => simp only [keyN] at hb; cases hb
  | .int i, b, k, ha, hb => by
    simp only [keyN] at ha
    cases ha
    cases b with
    | non => simp only [keyN] at hb; cases hb
    | int j => simp only [keyN] at hb; cases hb; rfl
    | tup ds =>
      simp only [keyN] at hb
      split at hb <;> cases hb
    | _ => simp only [keyN] at hb; cases hb
  | .tup as, b, k, ha, hb => by
    simp only [keyN] at ha
    split at ha
    · rename_i ks e
      cases ha
      cases b with
      | non => simp only [keyN] at hb; cases hb
      | int j => simp only [keyN] at hb; cases hb
      | tup bs =>
        simp only [keyN] at hb
        split at hb
        · rename_i ls f
          cases hb
          rw [keyNs_inj as bs _ e f]
        · cases hb
      | _ => simp only [keyN] at hb; cases hb
    · cases ha
  | .bl _, _, _, ha, _ => by simp only [keyN] at ha; cases ha
  | .str _, _, _, ha, _ => by simp only [keyN] at ha; cases ha
  | .ref _, _, _, ha, _ => by simp only [keyN] at ha; cases ha
  | .flst _, _, _, ha, _ => by simp only [keyN] at ha; cases ha
  | .obj _ _ _, _, _, ha, _ => by simp only [keyN] at ha; cases ha
  | .ty _, _, _, ha, _ => by simp only [keyN] at ha; cases ha
  | .gl _, _, _, ha, _ => by simp only [keyN] at ha; cases ha
  | .err _ _, _, _, ha, _ => by simp only [keyN] at ha; cases ha
  | .clo _ _ _ _ _, _, _, ha, _ => by simp only [keyN] at ha; cases ha
theorem keyNs_inj : ∀ (as bs : List D) (ks : List NestedKey), keyNs as = some ks → keyNs bs = some ks → as = bs
  | [], bs, ks, ha, hb => by
    simp only [keyNs] at ha
    cases ha
    cases bs with
    | nil => rfl
    | cons d r =>
      simp only [keyNs] at hb
      split at hb
      · split at hb <;> cases hb
      · cases hb
  | a :: as, bs, ks, ha, hb => by
    simp only [keyNs] at ha
    split at ha
    · rename_i k e1
      split at ha
      · rename_i ks' e2
        cases ha
        cases bs with
        | nil => simp only [keyNs] at hb; cases hb
        | cons d r =>
          simp only [keyNs] at hb
          split at hb
          · rename_i k2 f1
            split at hb
            · rename_i ks2 f2
              cases hb
              rw [keyN_inj a d _ e1 f1, keyNs_inj as r _ e2 f2]
            · cases hb
          · cases hb
      · cases ha
    · cases ha
end
theorem keyT_N {d : D} {k : NestedKey} (e : keyT d = some k) : keyN d = some k ∧ k.depth ≤ 8 := by
  unfold keyT at e
  split at e
  · rename_i ds
    split at e
    · rename_i ks f
      split at e
      · rename_i hd
        cases e
        exact ⟨by simp only [keyN, f], hd⟩
      · cases e
    · cases e
  · cases e
theorem keyT_inj {a b : D} {k : NestedKey} (ha : keyT a = some k) (hb : keyT b = some k) : a = b := keyN_inj a b k (keyT_N ha).1 (keyT_N hb).1
mutual
theorem hash_free (w w' : World) : ∀ (d : D) (k : NestedKey), keyN d = some k → k.hash w = k.hash w'
  | .non, k, h => by simp only [keyN] at h; cases h; rfl
  | .int i, k, h => by simp only [keyN] at h; cases h; rfl
  | .tup ds, k, h => by
    simp only [keyN] at h
    split at h
    · rename_i ks e
      cases h
      simp only [NestedKey.hash, hashes_free w w' ds ks e]
    · cases h
  | .bl _, _, h => by simp only [keyN] at h; cases h
  | .str _, _, h => by simp only [keyN] at h; cases h
  | .ref _, _, h => by simp only [keyN] at h; cases h
  | .flst _, _, h => by simp only [keyN] at h; cases h
  | .obj _ _ _, _, h => by simp only [keyN] at h; cases h
  | .ty _, _, h => by simp only [keyN] at h; cases h
  | .gl _, _, h => by simp only [keyN] at h; cases h
  | .err _ _, _, h => by simp only [keyN] at h; cases h
  | .clo _ _ _ _ _, _, h => by simp only [keyN] at h; cases h
theorem hashes_free (w w' : World) : ∀ (ds : List D) (ks : List NestedKey), keyNs ds = some ks → NestedKey.hashes w ks = NestedKey.hashes w' ks
  | [], ks, h => by simp only [keyNs] at h; cases h; rfl
  | d :: ds, ks, h => by
    simp only [keyNs] at h
    split at h
    · rename_i k e1
      split at h
      · rename_i ks' e2
        cases h
        simp only [NestedKey.hashes, hash_free w w' d k e1, hashes_free w w' ds ks' e2]
      · cases h
    · cases h
end
section
variable {X : Cx} {pins : List (Addr × Obj)} {s : Shared} {σ : L2.St} {H : Hp} {μ : List Addr} {h : Hc}
mutual
theorem nest_is (I : Inv X pins σ H s) : ∀ (d : D) (v : V) (u : Value) (k : NestedKey), RD (wd X) μ H d v → keyN d = some k → RelV v u → NestedIs s.heap k u
  | .non, v, u, k, r, e, ru => by
    simp only [RD] at r
    simp only [keyN] at e
    subst r; cases e
    cases (show u = Value.none from ru)
    exact .none
  | .int i, v, u, k, r, e, ru => by
    simp only [RD] at r
    simp only [keyN] at e
    subst r; cases e
    obtain ⟨t, rfl⟩ := (show ∃ t, u = Value.int i t from ru)
    exact .int i t
  | .tup ds, v, u, k, r, e, ru => by
    simp only [RD] at r
    obtain ⟨a, vs, rfl, tp, rs⟩ := r
    cases (show u = Value.ref a from ru)
    simp only [keyN] at e
    split at e
    · rename_i ks f
      cases e
      rcases tp with ⟨ob, h1, _⟩ | ⟨ob, its, n, h1, h2, _, h4, _, h5⟩
      · obtain ⟨_, _, its, vv, o, g1, g2, n, g3⟩ := (show ObjOk X.prog X.w H s.heap a (.frz ob (.tup vs)) from I.hok a _ h1)
        exact .tup g1 g2 g3 (by simpa using nest_all I ds vs its ks rs f vv)
      · exact .tup (I.kIn a ob h1) h2 h4 (nest_all I ds vs _ ks rs f h5)
    · cases e
  | .bl _, _, _, _, _, e, _ => by simp only [keyN] at e; cases e
  | .str _, _, _, _, _, e, _ => by simp only [keyN] at e; cases e
  | .ref _, _, _, _, _, e, _ => by simp only [keyN] at e; cases e
  | .flst _, _, _, _, _, e, _ => by simp only [keyN] at e; cases e
  | .obj _ _ _, _, _, _, _, e, _ => by simp only [keyN] at e; cases e
  | .ty _, _, _, _, _, e, _ => by simp only [keyN] at e; cases e
  | .gl _, _, _, _, _, e, _ => by simp only [keyN] at e; cases e
  | .err _ _, _, _, _, _, e, _ => by simp only [keyN] at e; cases e
  | .clo _ _ _ _ _, _, _, _, _, e, _ => by simp only [keyN] at e; cases e
theorem nest_all (I : Inv X pins σ H s) : ∀ (ds : List D) (vs : List V) (us : List Value) (ks : List NestedKey), RDs (wd X) μ H ds vs → keyNs ds = some ks → Vals vs us → NestedAll s.heap ks us
  | [], vs, us, ks, r, e, ru => by
    simp only [RDs] at r; subst r
    simp only [keyNs] at e; cases e
    cases ru
    exact .nil
  | d :: ds, vs, us, ks, r, e, ru => by
    simp only [RDs] at r
    obtain ⟨v, t, rfl, r1, r2⟩ := r
    simp only [keyNs] at e
    split at e
    · rename_i k e1
      split at e
      · rename_i ks' e2
        cases e
        cases ru with
        | cons a b => exact .cons (nest_is I d v _ k r1 e1 a) (nest_all I ds t _ ks' r2 e2 b)
      · cases e
    · cases e
end
end
def EntX (W : Wb) (μ : List Addr) (H : Hp) : TD → List (NestedKey × Addr × Value) → Prop
  | [], xs => xs = []
  | p :: r, xs => ∃ nk b u v t, xs = (nk, b, u) :: t ∧ keyT p.1 = some nk ∧ RD W μ H p.1 (.ref b) ∧ RelV v u ∧ RD W μ H p.2 v ∧ EntX W μ H r t
section
variable {W : Wb} {μ : List Addr} {H : Hp}
theorem EntX.of (P : Program) (w : World) : ∀ {l : TD} {es : List DictEntry}, EntRs W μ H l es → ∃ xs, EntX W μ H l xs ∧ es = xs.map (entryOfKey (nestedKind P w))
  | [], es, r => ⟨[], rfl, r⟩
  | p :: l, es, ⟨e, t, h1, ⟨b, v, nk, e1, e2, e3, e4, e5, e6⟩, h3⟩ => by
    obtain ⟨xs, q1, q2⟩ := EntX.of P w h3
    refine ⟨(nk, b, e.val) :: xs, ⟨nk, b, e.val, v, xs, rfl, e2, e4, e5, e6, q1⟩, ?_⟩
    rw [h1, q2, List.map_cons]
    congr 1
    obtain ⟨eh, ek, ev⟩ := e
    obtain rfl : ek = .ref b := e1
    obtain rfl : eh = nk.hash w := e3 w
    rfl
theorem EntX.to {P : Program} {w : World} : ∀ {l : TD} {xs : List (NestedKey × Addr × Value)}, EntX W μ H l xs → EntRs W μ H l (xs.map (entryOfKey (nestedKind P w)))
  | [], xs, r => by have r : xs = [] := r; subst r; exact rfl
  | p :: l, xs, ⟨nk, b, u, v, t, h1, h2, h3, h4, h5, h6⟩ => by
    subst h1
    exact ⟨_, _, rfl, ⟨b, v, nk, rfl, h2, fun w' => hash_free w w' p.1 nk (keyT_N h2).1, h3, h4, h5⟩, EntX.to h6⟩
theorem EntX.len : ∀ {l : TD} {xs : List (NestedKey × Addr × Value)}, EntX W μ H l xs → xs.length = l.length
  | [], xs, r => by have r : xs = [] := r; subst r; rfl
  | p :: l, xs, ⟨nk, b, u, v, t, h1, h2, h3, h4, h5, h6⟩ => by subst h1; simp [EntX.len h6]
theorem EntX.get {kd : D} {nk : NestedKey} (hk : keyT kd = some nk) : ∀ {l : TD} {xs : List (NestedKey × Addr × Value)}, EntX W μ H l xs → (∀ d, tGet l kd = some d → ∃ p w, atKey xs nk = some p ∧ RelV w p.2 ∧ RD W μ H d w) ∧ (tGet l kd = none → atKey xs nk = none)
  | [], xs, r => by
    have r : xs = [] := r
    subst r
    exact ⟨fun d e => (by cases e), fun _ => rfl⟩
  | p :: l, xs, ⟨nk', b, u, v, t, h1, h2, h3, h4, h5, h6⟩ => by
    subst h1
    obtain ⟨g1, g2⟩ := EntX.get hk h6
    by_cases c : p.1 = kd
    · have en : nk' = nk := by
        rw [c, hk] at h2
        exact (Option.some.inj h2).symm
      have q : atKey ((nk', b, u) :: t) nk = some (b, u) := by simp [atKey, List.find?_cons, en]
      refine ⟨fun d e => ?_, fun e => ?_⟩
      · simp only [tGet, if_pos c] at e
        cases e
        exact ⟨_, v, q, h4, h5⟩
      · simp only [tGet, if_pos c] at e
        cases e
    · have en : nk' ≠ nk := fun z => c (keyT_inj (z ▸ h2) hk)
      have q : atKey ((nk', b, u) :: t) nk = atKey t nk := by simp [atKey, List.find?_cons, en]
      refine ⟨fun d e => ?_, fun e => ?_⟩
      · simp only [tGet, if_neg c] at e
        rw [q]; exact g1 d e
      · simp only [tGet, if_neg c] at e
        rw [q]; exact g2 e
theorem EntX.app : ∀ {l m : TD} {xs ys : List (NestedKey × Addr × Value)}, EntX W μ H l xs → EntX W μ H m ys → EntX W μ H (l ++ m) (xs ++ ys)
  | [], m, xs, ys, r, q => by have r : xs = [] := r; subst r; exact q
  | p :: l, m, xs, ys, ⟨nk, b, u, v, t, h1, h2, h3, h4, h5, h6⟩, q => by
    subst h1
    exact ⟨nk, b, u, v, _, rfl, h2, h3, h4, h5, EntX.app h6 q⟩
theorem EntX.mapped {kd d : D} {nk : NestedKey} {u : Value} {v : V} (hk : keyT kd = some nk) (rv : RelV v u) (rd : RD W μ H d v) : ∀ {l : TD} {xs : List (NestedKey × Addr × Value)}, EntX W μ H l xs → EntX W μ H (l.map fun p => if p.1 = kd then (p.1, d) else p) (xs.map (PySem.putAt nk u))
  | [], xs, r => by have r : xs = [] := r; subst r; exact rfl
  | p :: l, xs, ⟨nk', b, u', v', t, h1, h2, h3, h4, h5, h6⟩ => by
    subst h1
    rw [List.map_cons, List.map_cons]
    by_cases c : p.1 = kd
    · have en : nk' = nk := by
        rw [c, hk] at h2
        exact (Option.some.inj h2).symm
      rw [if_pos c]
      exact ⟨nk', b, u, v, _, by rw [PySem.putAt, if_pos en], h2, h3, rv, rd, EntX.mapped hk rv rd h6⟩
    · have en : nk' ≠ nk := fun z => c (keyT_inj (z ▸ h2) hk)
      rw [if_neg c]
      exact ⟨nk', b, u', v', _, by rw [PySem.putAt, if_neg en], h2, h3, h4, h5, EntX.mapped hk rv rd h6⟩
theorem EntX.put {kd d : D} {nk : NestedKey} {b : Addr} {u : Value} {v : V} (hk : keyT kd = some nk) (rb : RD W μ H kd (.ref b)) (rv : RelV v u) (rd : RD W μ H d v) {l : TD} {xs : List (NestedKey × Addr × Value)} (r : EntX W μ H l xs) : EntX W μ H (tPut l kd d) (storedH xs nk b u) := by
  obtain ⟨g1, g2⟩ := EntX.get hk r
  unfold tPut storedH
  cases e : tGet l kd with
  | none =>
    rw [g2 e]
    exact EntX.app r ⟨nk, b, u, v, [], rfl, hk, rb, rv, rd, rfl⟩
  | some d' =>
    obtain ⟨p, w, q, _⟩ := g1 d' e
    rw [q]
    exact EntX.mapped hk rv rd r
theorem EntX.mono {μ' : List Addr} {H' : Hp} (f : ∀ d v, RD W μ H d v → RD W μ' H' d v) : ∀ {l : TD} {xs : List (NestedKey × Addr × Value)}, EntX W μ H l xs → EntX W μ' H' l xs
  | [], xs, r => r
  | p :: l, xs, ⟨nk, b, u, v, t, h1, h2, h3, h4, h5, h6⟩ => ⟨nk, b, u, v, t, h1, h2, f _ _ h3, h4, f _ _ h5, EntX.mono f h6⟩
end
section
variable {X : Cx} {pins : List (Addr × Obj)} {s : Shared} {σ : L2.St} {H : Hp} {μ : List Addr} {h : Hc}
end
section
variable {X : Cx} {pins : List (Addr × Obj)} {s : Shared} {σ : L2.St} {H : Hp} {μ : List Addr} {h : Hc}
inductive XG (X : Cx) (μ : List Addr) (s : Shared) (H : Hp) (a : Addr) (y : V) (iv : Value) (od : Option D) : Prop
  | flat (ov : Option V) (g : DGet H a y ov) (h1 : ∀ d, od = some d → ∃ w, ov = some w ∧ RD (wd X) μ H d w) (h2 : od = none → ov = none)
  | tup (b : Addr) (nk : NestedKey) (xs : List (NestedKey × Addr × Value)) (e : iv = .ref b) (k : (nestedKind X.prog X.w).is s.heap nk b) (hs : (a == sysModules) = false) (dd : s.heap.DictOfH (nestedKind X.prog X.w) a xs) (h1 : ∀ d, od = some d → ∃ p w, atKey xs nk = some p ∧ RelV w p.2 ∧ RD (wd X) μ H d w) (h2 : od = none → atKey xs nk = none)
end
section
variable {X : Cx} {Wx : WX} {a b e f o i value : Expr} {ca cb ce cf co ci : CE} {pos tpos apos cpos : Pos}
end
end Sx

set_option Elab.async false
set_option linter.all false
set_option maxRecDepth 100000
namespace Sx
section
open PySem PySem.Spec PySem.Calls PyProof.Rows PySem.W
variable {prog : Program} {w : World} {A : Around} {E : Value → Shared → Prop} {s : Shared}
end
section
open PySem PySem.Spec PyProof.Rows L2
variable {X : Cx} {pins : List (Addr × Obj)} {s : Shared} {σ : L2.St} {H : Hp} {μ : List Addr} {h : Hc} {Q : VK}
end
end Sx

set_option Elab.async false
set_option linter.all false
set_option maxRecDepth 100000
namespace Sx
open PySem PySem.Spec PyProof.Rows L2
section
variable {W : Wd} {μ : List Addr} {h : Hc} {H : Hp} {d : Addr} {n : Nat}
end
section
variable {X : Cx} {Wx : WX} {tg a : Expr} {ca : CE}
end
end Sx

set_option Elab.async false
set_option linter.all false
set_option maxRecDepth 100000
namespace Sx
open PySem PySem.Spec PyProof.Rows L2
section
variable {prog : Program} {w : World} {K : Type} [DecidableEq K] {knd : HeapKind prog w K} {A : Around} {E : Value → Shared → Prop} {s : Shared}
end
abbrev CP := Rho → Hc → Res TD
section
variable {X : Cx} {Wx : WX} {pos : Pos} {k v : Expr} {ks : List (Option Expr)} {vs : List Expr} {ck cv : CE} {c : CP}
end
section
variable {W : Wb} {μ : List Addr} {H : Hp}
end
section
variable {W : Wd} {μ μ1 : List Addr} {h h1 : Hc} {H H1 : Hp} {p : Addr}
end
section
variable {X : Cx} {Wx : WX} {pos : Pos} {keys : List (Option Expr)} {values : List Expr} {c : CP}
end
end Sx

set_option Elab.async false
set_option linter.all false
set_option maxRecDepth 100000
set_option maxHeartbeats 2000000
namespace Sx
open PySem PySem.Spec PyProof.Rows L2
def ItB (b : Bool) (h : Heap) (it l : Addr) (i : Nat) : Prop := match b with
  | true => h.IsTupleIter it l i
  | false => h.IsListIter it l i
def SqB (b : Bool) (h : Heap) (l : Addr) (xs : Array Value) : Prop := match b with
  | true => h.IsTuple l xs
  | false => h.IsList l xs
section
variable {b : Bool} {h h' : Heap} {it l c : Addr} {i : Nat} {xs : Array Value}
theorem ItB.ext (x : ItB b h it l i) (e : Heap.ExtBut c h h') (n : it ≠ c) : ItB b h' it l i := by
  cases b
  · exact Heap.IsListIter.extBut x e n
  · exact Heap.IsTupleIter.extBut x e n
theorem SqB.ext (x : SqB b h l xs) (e : Heap.ExtBut c h h') (n : l ≠ c) : SqB b h' l xs := by
  cases b
  · exact Heap.IsList.extBut x e n
  · exact Heap.IsTuple.extBut x e n
theorem ItB.at (x : ItB b h it l i) (k : ∀ o, h.get? it = some o → h'.get? it = some o) : ItB b h' it l i := by
  cases b
  · exact Heap.IsListIter.at x k
  · exact Heap.IsTupleIter.at x k
theorem ItB.obj (x : ItB b h it l i) : ∃ o, h.get? it = some o ∧ ∀ v, o.data ≠ .cell v := by
  cases b
  · obtain ⟨o, e, _, d⟩ := x
    exact ⟨o, e, fun v z => by rw [d] at z; cases z⟩
  · obtain ⟨o, e, _, d⟩ := x
    exact ⟨o, e, fun v z => by rw [d] at z; cases z⟩
end
section
variable {prog : Program} {w : World} {A : Around} {E : Value → Shared → Prop} {s : Shared}
end
end Sx

set_option Elab.async false
set_option linter.all false
set_option maxRecDepth 100000
set_option maxHeartbeats 2000000
namespace Sx
open PySem PySem.Spec PyProof.Rows L2
section
variable {X : Cx} {pins : List (Addr × Obj)} {s : Shared} {σ : L2.St} {H : Hp} {b : Bool} {a : Addr} {xs ys : List V}
end
section
variable {prog : Program} {w : World} {A : Around} {E : Value → Shared → Prop} {s : Shared}
end
section
variable {W : Wd} {μ : List Addr} {h : Hc} {H : Hp}
end
section
variable {X : Cx} {Wx : WX} {a b : Expr} {ca cb : CE} {p pos tpos : Pos} {elts : List Expr} {kk : Nat}
end
end Sx

set_option Elab.async false
set_option linter.all false
set_option maxRecDepth 100000
namespace Sx
open PySem PySem.W PyProof.Rows L2
structure FTA (K : PySem.W.Frag) (mg : Str → Option Value) (y x qual : Str) (st : Stmt) (ps : List Str) (f : Addr) (fd : FuncData) : Prop where
  g : mg y = some (.ref f)
  fn : Fun K x qual st f fd
  b : Binds K fd ps []
  bt : ∀ (s : Shared) (us : List Value), us.length = ps.length → BindsTo s fd ⟨us, []⟩ (ps.zip us)
theorem FTA.k {K : PySem.W.Frag} {mg : Str → Option Value} {y x qual : Str} {st : Stmt} {ps : List Str} {f : Addr} {fd : FuncData} (T : FTA K mg y x qual st ps f fd) : PySem.W.keepIn K (.ref f) = true := T.fn.kp
section
variable {K : PySem.W.Frag} {h : Heap} {mg : Str → Option Value}
end
end Sx

set_option Elab.async false
set_option linter.all false
set_option maxRecDepth 100000
namespace Sx
open PySem PySem.Spec PyProof.Rows L2
section
variable {X : Cx}
end
section
variable {X : Cx} {Wx : WX} {tg it kx vx : Expr} {ifs : List Expr} {tp : Bool} {ci : CI} {t : TGT} {tt : CT} {ck cv : CE} {scope : Scope} {own : List (Str × Nat)} {pos : Pos}
end
end Sx

set_option Elab.async false
set_option linter.all false
set_option maxRecDepth 100000
namespace Sx
open PySem PySem.Spec PyProof.Rows L2
section
variable {X : Cx} {tg e : Expr} {td : TE} {apos cpos : Pos}
end
section
variable {W : Wd} {μ : List Addr} {h : Hc} {H : Hp} {d : Addr} {n : Nat}
end
section
variable {X : Cx} {Wx : WX} {a : Expr} {ca : CE} {apos cpos : Pos}
end
end Sx

set_option Elab.async false
set_option linter.all false
set_option maxRecDepth 100000
namespace Sx
open PySem PySem.Spec PyProof.Rows L2
open PySem.W PySem.Calls PySem.HandSPX
structure FnG (P : Program) (w : World) (K : Frag) (mg : Str → Option Value) (base : Heap) (k : Nat) (f : Addr) (fd : FuncData) (ps : List Str) (sp : Sp) : Prop where
  len : ∀ vs H Q E, sp vs H Q E → vs.length = ps.length
  run : ∀ (A : Around) (outer : List Env) (s : Shared) (H : Hp) (args : Args) (us : List Value) (vs : List V) (Q : VK) (E : XK), A.guards = some [] → Room k A →
    Env0 P w K mg base A outer s H → BindsTo s fd args (ps.zip us) → Vals vs us → sp vs H Q E →
    codeAny (model P w) A (.call (.ref f) args) (CR (L2.CX P w) outer P w H s Q E) s
section
variable {P : Program} {w : World} {K : Frag} {mg : Str → Option Value} {base : Heap}
end
section
variable {X : Cx} {Wx : WX} {k n : Nat} {f : Addr} {fd : FuncData} {ps : List Str} {m : Fn} {x : Str} {p pos : Pos} {e : Expr} {es : List Expr} {cs : CA}
end
end Sx

set_option Elab.async false
set_option linter.all false
set_option maxRecDepth 100000
namespace HT
open PySem PySem.Spec PyProof.Rows
section
variable {prog : Program} {w : World} {A : Around} {E : Value → Shared → Prop} {s : Shared}
end
end HT
namespace Sx
open PySem PySem.Spec PyProof.Rows L2
open PySem.W PySem.Calls PySem.HandSPX
section
variable {X : Cx} {e kx : Expr} {te tk : TE} {pos p2 : Pos}
end
end Sx

set_option Elab.async false
set_option linter.all false
set_option maxRecDepth 100000
namespace Sx
open PySem PySem.Spec PyProof.Rows L2

section
variable {X : Cx} {Wx : WX} {a b : Expr} {ca cb : CE} {pos : Pos}
end

structure CalMe (K : PySem.W.Frag) (C : Addr) : Prop where
  cl : PySem.W.findIn K (.ref C) "__class__" = some (some (.builtin "object.__class__"))
  sp : PySem.W.specialIn K (.builtin "object.__class__") "__get__" = some (some (.builtin "getset_descriptor.__get__"))
  tk : PySem.W.takesIn K (.builtin "object.__class__") = some true
  ob : PySem.W.mroIn K C (.type "object") = some true
  tu : PySem.W.kitOne K (.type "tuple") (.ref C) = some false
  nf : PySem.W.notFirst K C (.type "tuple") = true
section
variable {X : Cx} {Wx : WX} {C fI : Addr} {e : Expr} {ce : CE} {p cp pos : Pos}
end
section
variable {X : Cx} {Wx : WX} {C fI f : Addr} {fd : FuncData} {k : Nat} {m : Fn} {op : CmpOp} {ps : List Str}
end
section
open PySem.W PySem.Calls
variable {K : PySem.W.Frag} {h : Heap} {mg : Str → Option Value}
end
end Sx

set_option Elab.async false
set_option linter.all false
set_option maxRecDepth 100000
namespace Sx
open PySem PySem.Spec PyProof.Rows L2
section
variable {X : Cx} {Wx : WX} {st : Stmt}
end
end Sx

set_option Elab.async false
set_option linter.all false
set_option maxRecDepth 100000
namespace Sx
open PySem PySem.Spec PyProof.Rows L2
structure EV (K : PySem.W.Frag) (mg : Str → Option Value) (es : List Str) : Prop where
  cl : ∀ c ∈ es, ∀ C, mg c = some (.ref C) → PySem.W.subIn K (.ref C) (.type "ValueError") = some true
end Sx

set_option Elab.async false
set_option linter.all false
set_option maxRecDepth 100000
namespace Sx
open PySem PySem.Spec PyProof.Rows L2
section
variable {W : Wb} {μ : List Addr} {h : Hc} {H : Hp}
end
section
variable {X : Cx}
end
end Sx

set_option Elab.async false
set_option linter.all false
set_option maxRecDepth 100000
namespace Sx
open PySem PySem.Spec PyProof.Rows L2
section
variable {X : Cx}
end
end Sx

set_option Elab.async false
set_option linter.all false
set_option maxRecDepth 100000
namespace Sx
open PySem PySem.Spec PyProof.Rows L2
open AutoSeq1 (wpAny_loadPart')
open MeetsSeq MeetsSeq2 MeetsSeq3 SeqRoads2 SeqAt

def EqC (m : Fn) (h : Hc) (a b : D) : Prop := (∃ ns ds ns' ds', a = .obj cal ns ds ∧ b = .obj cal ns' ds' ∧ m [a, b] h = .ok (.bl true) h) ∨ eqD a b h = some true
def EqCs (m : Fn) (h : Hc) : List D → List D → Prop
  | [], [] => True
  | a :: r, b :: s => EqC m h a b ∧ EqCs m h r s
  | _, _ => False
open Classical in
theorem EqCs.len {m : Fn} {h : Hc} : ∀ {ds es : List D}, EqCs m h ds es → ds.length = es.length
  | [], [], _ => rfl
  | _ :: r, _ :: s, q => by rw [List.length_cons, List.length_cons, EqCs.len q.2]
theorem EqCs.get {m : Fn} {h : Hc} : ∀ {ds es : List D} {i : Nat} {a b : D}, EqCs m h ds es → ds[i]? = some a → es[i]? = some b → EqC m h a b
  | _ :: _, _ :: _, 0, _, _, q, e1, e2 => by
    simp only [List.getElem?_cons_zero, Option.some.injEq] at e1 e2
    subst e1; subst e2
    exact q.1
  | _ :: _, _ :: _, i + 1, _, _, q, e1, e2 => EqCs.get (i := i) q.2 (by simpa using e1) (by simpa using e2)
  | [], _, _, _, _, _, e1, _ => by simp at e1

section
variable {prog : Program} {w : World} {A : Around} {R : Result → Shared → Prop}
end

section
variable {X : Cx} {C fI f : Addr} {fd : FuncData} {k : Nat} {m : Fn} {ps : List Str}
end
end Sx

set_option Elab.async false
set_option linter.all false
set_option maxRecDepth 100000
namespace Sx
open PySem PySem.Spec PyProof.Rows L2
def toSW (d : D) (h : Hc) : Option PyData := match toP h 40 d with
  | some p => if SeqAt.shaped p then some p else none
  | none => none
section
variable {W : Wd} {μ : List Addr} {h : Hc} {H : Hp}
theorem toSW_dp (x : R W μ h H) {d : D} {v : V} {p : PyData} (r : RD W μ H d v) (e : toSW d h = some p) : Dp W.K H v p ∧ SeqAt.shaped p = true := by
  unfold toSW at e
  cases q : toP h 40 d with
  | none => rw [q] at e; cases e
  | some p' =>
    rw [q] at e
    simp only at e
    split at e
    · rename_i hs; injection e with e; subst e; exact ⟨toP_dp x 40 d v p' r q, hs⟩
    · cases e
end
section
variable {X : Cx}
end
theorem pu_toSW {d : D} (e : pu 40 d = true) : ∃ p : PyData, PD d p ∧ ∀ h : Hc, toSW d h = some p := by
  obtain ⟨p, a, b, c, f⟩ := pu_PD 40 d e
  refine ⟨p, a, fun h => ?_⟩
  unfold toSW
  rw [f h 40 (Nat.le_refl _)]
  have s : SeqAt.shaped p = true := by
    unfold SeqAt.shaped
    rw [b, Bool.true_and]
    exact decide_eq_true (by omega)
  simp only [s, if_true]
section
variable {x y : D} {h : Hc}
end
end Sx

set_option Elab.async false
set_option linter.all false
set_option maxRecDepth 100000
namespace Sx
open PySem PySem.Spec PyProof.Rows L2
def notN : PyData → Bool
  | .none => false
  | _ => true
def cmpW (x y : D) (h : Hc) : Option (PyData × PyData) := match toSW x h with
  | some p => match toSW y h with
    | some q => if (PySem.W.alike p q && notN p) = true then some (p, q) else none
    | none => none
  | none => none
def gLtW : G2 := fun x y h => match cmpW x y h with | some (p, q) => some (.bl (PySem.W.dataLt p q), h) | none => none
def gGeW : G2 := fun x y h => match cmpW x y h with | some (p, q) => some (.bl (!PySem.W.dataLt p q), h) | none => none
section
variable {X : Cx}
theorem cmpW_ok {μ : List Addr} {h : Hc} {H : Hp} {dx dy : D} {x y : V} {p q : PyData} (r : R (wd X) μ h H) (d1 : RD (wd X) μ H dx x) (d2 : RD (wd X) μ H dy y) (e : cmpW dx dy h = some (p, q)) :
    Dp X.K H x p ∧ Dp X.K H y q ∧ SeqAt.shaped p = true ∧ SeqAt.shaped q = true ∧ PySem.W.alike p q = true ∧ p ≠ .none := by
  unfold cmpW at e
  cases e1 : toSW dx h with
  | none => rw [e1] at e; cases e
  | some p' =>
    cases e2 : toSW dy h with
    | none => rw [e1, e2] at e; cases e
    | some q' =>
      rw [e1, e2] at e
      by_cases c : (PySem.W.alike p' q' && notN p') = true
      · have e : (if (PySem.W.alike p' q' && notN p') = true then some (p', q') else none) = some (p, q) := e
        rw [if_pos c] at e
        cases e
        obtain ⟨a1, b1⟩ := toSW_dp r d1 e1
        obtain ⟨a2, b2⟩ := toSW_dp r d2 e2
        rw [Bool.and_eq_true] at c
        refine ⟨a1, a2, b1, b2, c.1, fun z => ?_⟩
        subst z
        exact absurd c.2 (by decide)
      · have e : (if (PySem.W.alike p' q' && notN p') = true then some (p', q') else none) = some (p, q) := e
        rw [if_neg c] at e
        cases e
theorem o_ltW (hu : X.A.units + 65 < cLine) : OpR X (compareOp .Lt) (lV2 (wd X) gLtW) := by
  intro pins s σ H x y v u Q I rx ry k
  obtain ⟨μ, h, dx, dy, r, d1, d2, k⟩ := k
  unfold gLtW at k
  cases e : cmpW dx dy h with
  | none => rw [e] at k; exact False.elim k
  | some pq =>
    obtain ⟨p, q⟩ := pq
    rw [e] at k
    obtain ⟨a1, a2, b1, b2, al, nn⟩ := cmpW_ok r d1 d2 e
    obtain ⟨as, t1⟩ := Dp.reads I p x v a1 rx
    obtain ⟨bs, t2⟩ := Dp.reads I q y u a2 ry
    refine PySem.W.lt_data t1 t2 al nn ?_ ⟨.bl _, H, I, rfl, k.here r (by simp only [RD])⟩
    have h1 := SeqAt.depth_of_shaped b1
    have h2 : min p.depth q.depth ≤ p.depth := Nat.min_le_left _ _
    omega
theorem o_geW (hu : X.A.units + 65 < cLine) : OpR X (compareOp .GtE) (lV2 (wd X) gGeW) := by
  intro pins s σ H x y v u Q I rx ry k
  obtain ⟨μ, h, dx, dy, r, d1, d2, k⟩ := k
  unfold gGeW at k
  cases e : cmpW dx dy h with
  | none => rw [e] at k; exact False.elim k
  | some pq =>
    obtain ⟨p, q⟩ := pq
    rw [e] at k
    obtain ⟨a1, a2, b1, b2, al, nn⟩ := cmpW_ok r d1 d2 e
    obtain ⟨as, t1⟩ := Dp.reads I p x v a1 rx
    obtain ⟨bs, t2⟩ := Dp.reads I q y u a2 ry
    refine PySem.W.ge_data t1 t2 al nn ?_ ⟨.bl _, H, I, rfl, k.here r (by simp only [RD])⟩
    have h1 := SeqAt.depth_of_shaped b1
    have h2 : min p.depth q.depth ≤ p.depth := Nat.min_le_left _ _
    omega
end
end Sx

set_option Elab.async false
set_option linter.all false
set_option maxRecDepth 100000
namespace Sx
open PySem PySem.Spec PyProof.Rows L2
section
variable {X : Cx} {Wx : WX} {k : Nat} {f : Addr} {fd : FuncData} {ps : List Str} {m : Fn} {x : Str} {p pos : Pos}
theorem s_call0 (F : FnOk X.prog X.w X.K X.mg X.base (L2.CX X.prog X.w) k f fd ps (spOf (wd X) 0 m)) (hr : Room k X.A) (hm : X.mg x = some (.ref f)) (hk : PySem.W.keepIn X.K (.ref f) = true) (hb : Binds X.K fd ps []) (tk : Takes X Wx)
    (hg : Gl X x := by rfl) (hdb : (x == ("__debug__" : Str)) = false := by decide) :
    SE X Wx (.Call (.Name x p) [] [] pos) (cCall m cNil) := by
  refine ⟨fun pins s σ H Q I ⟨μ, ρ, h, r, rs, k⟩ => ?_⟩
  refine wpAny_Call_Name_kw (ld_glob I hg hm ?_ hdb)
  refine PySem.W.callWith_K0 I.kIn hk (run_fnS (us := []) (E := WE Wx) F hr hb (passAt tk σ) I .nil ?_)
  refine ⟨μ, h, [], r, RDs.nil, rfl, ?_⟩
  unfold cCall cNil at k
  have e : ((Res.ok ([] : List D) h).bind m) = m [] h := rfl
  rw [e] at k
  cases q2 : m [] h with
  | ok d h2 => rw [q2] at k; exact k
  | exn c y h2 => rw [q2] at k; exact k
  | stuck => rw [q2] at k; exact k
end
end Sx

set_option Elab.async false
set_option linter.all false
set_option maxRecDepth 100000
set_option maxHeartbeats 4000000
namespace Gk
open PySem PySem.Spec PyProof.Rows L2 Sx
def top (i : Nat) : Stmt := PySem.Challenge.pw_datedlines_k43_all_calendars_numbered.main.body.getD i (.Pass ⟨0, 0, 0, 0⟩)
def errs : List Str := ["BadSize", "BadBirth", "BadDay", "TooFew", "BadCount", "Unlike"]
abbrev st__law_patterns : Stmt := top 38
abbrev ps__law_patterns : List Str := ["_law_k", "_law_most"]
abbrev N__law_patterns : List Str := ["_law_k", "_law_most", "_law_found", "_law_size", "_law_more"]
def b__law_patterns (self : Fn) : CS := cSeq (cSet 2 (cC gLstD (cCons (cC gTupD (cNil)) (cNil)))) (cSeq (cFor (cItR2 (cK (.int 2)) (c2 gAdd (cC gMin (cCons (cVar 0) (cCons (cVar 1) (cNil)))) (cK (.int 1)))) (.nm 3) (cDrop (cMt isLst gExt (cVar 2) (cCons (cComp [4] (cItS (cCall self (cCons (c2 gSub (cVar 0) (cVar 3)) (cCons (cVar 3) (cNil))))) (.nm 4) (cYes) (c2 gAdd (cC gTupD (cCons (cVar 3) (cNil))) (cVar 4))) (cNil))))) (cRet (cVar 2)))
def m__law_patterns : Nat → Fn
  | 0 => fun _ _ => .stuck
  | n + 1 => runD 2 5 (b__law_patterns (m__law_patterns n))
theorem sc__law_patterns : FnScope N__law_patterns ps__law_patterns (defScope st__law_patterns) := ⟨rfl, rfl, rfl, by decide +kernel, rfl, by decide +kernel, by decide +kernel⟩
abbrev st__law_numbers : Stmt := top 40
abbrev ps__law_numbers : List Str := []
abbrev N__law_numbers : List Str := ["_law_found", "_law_k", "_law_some", "_law_pattern"]
def b__law_numbers : CS := cSeq (cSet 0 (cC gLstD (cCons (cK (.int 0)) (cCons (cK (.int 1)) (cNil))))) (cSeq (cFor (cItR2 (cK (.int 2)) (cK (.int 13))) (.nm 1) (cSeq (cSet 2 (cComp [3] (cItS (cCall (m__law_patterns 40) (cCons (cVar 1) (cCons (cVar 1) (cNil))))) (.nm 3) (cB (c2 gNe (cVar 3) (cC gTupD (cNil)))) (cVar 3))) (cDrop (cMt isLst gAppend (cVar 0) (cCons (cC gSum (cCons (cComp [3] (cItS (cVar 2)) (.nm 3) (cYes) (c2 gIx (cVar 0) (c2 gAdd (c2 gSub (cVar 1) (cC gSum (cCons (cVar 3) (cNil)))) (cC gLen (cCons (cVar 3) (cNil)))))) (cNil))) (cNil)))))) (cRet (cVar 0)))
def m__law_numbers : Fn := runD 0 4 b__law_numbers
theorem sc__law_numbers : FnScope N__law_numbers ps__law_numbers (defScope st__law_numbers) := ⟨rfl, rfl, rfl, by decide +kernel, rfl, by decide +kernel, by decide +kernel⟩
abbrev st__law_pool : Stmt := top 35
abbrev ps__law_pool : List Str := ["_law_script", "_law_k"]
abbrev N__law_pool : List Str := ["_law_script", "_law_k", "_law_cell", "_law_big", "_law_mixed"]
def b__law_pool : CS := cSeq (cSet 2 (cK (.int 0))) (cSeq (cIf (cB (c2 gLt (cVar 1) (cC gLen (cCons (cVar 0) (cNil))))) (cSet 2 (c2 gIx (cVar 0) (cVar 1))) (cIf (cTru (cVar 0)) (cSet 2 (c2 gIx (cVar 0) (cK (.int 0)))) (cSkip))) (cSeq (cSet 3 (cC gMax (cCons (cC gInt (cCons (cVar 2) (cNil))) (cCons (cC gInt (cCons (c2 gSub (c1 gNeg (cK (.int 1))) (cVar 2)) (cNil))) (cNil))))) (cSeq (cSet 4 (c2 gMod (cC gInt (cCons (c2 gMul (c2 gAdd (c2 gAdd (c2 gAdd (c2 gMod (cC gInt (cCons (cVar 3) (cNil))) (cK (.int 2147483629))) (c2 gMul (c2 gMul (cK (.int 7919)) (cVar 1)) (cVar 1))) (c2 gMul (cK (.int 31)) (cVar 1))) (cK (.int 17))) (cK (.int 48271))) (cNil))) (cK (.int 2147483647)))) (cRet (cC gLstD (cCons (c2 gMul (cVar 3) (cC gInt (cCons (c2 gGe (cVar 3) (c2 gPow (cK (.int 10)) (cK (.int 18)))) (cNil)))) (cCons (cVar 4) (cNil))))))))
def m__law_pool : Fn := runD 2 5 b__law_pool
theorem sc__law_pool : FnScope N__law_pool ps__law_pool (defScope st__law_pool) := ⟨rfl, rfl, rfl, by decide +kernel, rfl, by decide +kernel, by decide +kernel⟩
abbrev st__law_days : Stmt := top 39
abbrev ps__law_days : List Str := ["_law_k"]
abbrev N__law_days : List Str := ["_law_k", "_law_found", "_law_pattern", "_law_more"]
def b__law_days (self : Fn) : CS := cSeq (cIf (cB (c2 gEq (cVar 0) (cK (.int 1)))) (cRet (cC gLstD (cCons (cC gTupD (cNil)) (cNil)))) (cSkip)) (cSeq (cSet 1 (cC gLstD (cNil))) (cSeq (cFor (cItS (cCall (m__law_patterns 40) (cCons (cVar 0) (cCons (cVar 0) (cNil))))) (.nm 2) (cIf (cB (c2 gNe (cVar 2) (cC gTupD (cNil)))) (cDrop (cMt isLst gExt (cVar 1) (cCons (cComp [3] (cItS (cCall self (cCons (c2 gAdd (c2 gSub (cVar 0) (cC gSum (cCons (cVar 2) (cNil)))) (cC gLen (cCons (cVar 2) (cNil)))) (cNil)))) (.nm 3) (cYes) (c2 gAdd (cC gTupD (cCons (cVar 2) (cNil))) (cVar 3))) (cNil)))) (cSkip))) (cRet (cC gSrt (cCons (cVar 1) (cNil))))))
def m__law_days : Nat → Fn
  | 0 => fun _ _ => .stuck
  | n + 1 => runD 1 4 (b__law_days (m__law_days n))
theorem sc__law_days : FnScope N__law_days ps__law_days (defScope st__law_days) := ⟨rfl, rfl, rfl, by decide +kernel, rfl, by decide +kernel, by decide +kernel⟩
abbrev st__law_is_number : Stmt := top 42
abbrev ps__law_is_number : List Str := ["_law_told_here", "_law_due"]
abbrev N__law_is_number : List Str := ["_law_told_here", "_law_due"]
def b__law_is_number : CS := cRet (cAndV (cC gIsi (cCons (cVar 0) (cCons (cK (.ty "int")) (cNil)))) (cAndV (cNotV (cC gIsi (cCons (cVar 0) (cCons (cK (.ty "bool")) (cNil))))) (c2 gEq (cVar 0) (cVar 1))))
def m__law_is_number : Fn := runD 2 2 b__law_is_number
theorem sc__law_is_number : FnScope N__law_is_number ps__law_is_number (defScope st__law_is_number) := ⟨rfl, rfl, rfl, by decide +kernel, rfl, by decide +kernel, by decide +kernel⟩
abbrev st_want_leaves : Stmt := top 12
abbrev ps_want_leaves : List Str := ["n"]
abbrev N_want_leaves : List Str := ["n"]
def b_want_leaves : CS := cIf (cNot (cB (cChain gLe gLe (cK (.int 1)) (cVar 0) (cK (.int 12))))) (cRaise "BadSize" (cVar 0)) (cSkip)
def m_want_leaves : Fn := runD 1 1 b_want_leaves
theorem sc_want_leaves : FnScope N_want_leaves ps_want_leaves (defScope st_want_leaves) := ⟨rfl, rfl, rfl, by decide +kernel, rfl, by decide +kernel, by decide +kernel⟩
abbrev st_want_things : Stmt := top 11
abbrev ps_want_things : List Str := ["k"]
abbrev N_want_things : List Str := ["k"]
def b_want_things : CS := cIf (cNot (cB (cChain gLe gLe (cK (.int 0)) (cVar 0) (cK (.int 12))))) (cRaise "BadSize" (cVar 0)) (cSkip)
def m_want_things : Fn := runD 1 1 b_want_things
theorem sc_want_things : FnScope N_want_things ps_want_things (defScope st_want_things) := ⟨rfl, rfl, rfl, by decide +kernel, rfl, by decide +kernel, by decide +kernel⟩
abbrev st_patterns : Stmt := top 17
abbrev ps_patterns : List Str := ["k"]
abbrev N_patterns : List Str := ["k", "found", "longer", "pattern", "left", "most", "size"]
def b_patterns : CS := cSeq (cDrop (cCall m_want_things (cCons (cVar 0) (cNil)))) (cSeq (cPar 1 2 (cC gLstD (cNil)) (cC gLstD (cCons (cC gTupD (cCons (cC gTupD (cNil)) (cCons (cVar 0) (cNil)))) (cNil)))) (cSeq (cWhile 1000 (cB (c2 gNe (cVar 2) (cC gLstD (cNil)))) (cSeq (cAsg (.tp [.nm 3, .nm 4]) (cMt0 isLst gPop0 (cVar 2))) (cSeq (cSet 5 (cIfE (cTru (cVar 3)) (cC gMin (cCons (cVar 4) (cCons (c2 gIx (cVar 3) (c1 gNeg (cK (.int 1)))) (cNil)))) (cVar 4))) (cFor (cItR2 (cK (.int 2)) (c2 gAdd (cVar 5) (cK (.int 1)))) (.nm 6) (cSeq (cDrop (cMt isLst gAppend (cVar 1) (cCons (c2 gAdd (cVar 3) (cC gTupD (cCons (cVar 6) (cNil)))) (cNil)))) (cDrop (cMt isLst gAppend (cVar 2) (cCons (cC gTupD (cCons (c2 gAdd (cVar 3) (cC gTupD (cCons (cVar 6) (cNil)))) (cCons (c2 gSub (cVar 4) (cVar 6)) (cNil)))) (cNil))))))))) (cRet (cC gTuple (cCons (cC gSrt (cCons (cVar 1) (cNil))) (cNil))))))
def m_patterns : Fn := runD 1 7 b_patterns
theorem sc_patterns : FnScope N_patterns ps_patterns (defScope st_patterns) := ⟨rfl, rfl, rfl, by decide +kernel, rfl, by decide +kernel, by decide +kernel⟩
abbrev st_is_number : Stmt := top 10
abbrev ps_is_number : List Str := ["thing"]
abbrev N_is_number : List Str := ["thing"]
def b_is_number : CS := cRet (cAndV (cC gIsi (cCons (cVar 0) (cCons (cK (.ty "int")) (cNil)))) (cNotV (cC gIsi (cCons (cVar 0) (cCons (cK (.ty "bool")) (cNil))))))
def m_is_number : Fn := runD 1 1 b_is_number
theorem sc_is_number : FnScope N_is_number ps_is_number (defScope st_is_number) := ⟨rfl, rfl, rfl, by decide +kernel, rfl, by decide +kernel, by decide +kernel⟩
abbrev st_is_pattern : Stmt := top 15
abbrev ps_is_pattern : List Str := ["thing"]
abbrev N_is_pattern : List Str := ["thing", "at", "size"]
def b_is_pattern : CS := cSeq (cIf (cOr (cNot (cTru (cC gIsi (cCons (cVar 0) (cCons (cK (.ty "tuple")) (cNil)))))) (cNot (cTru (cC gAll (cCons (cComp [2] (cItS (cVar 0)) (.nm 2) (cYes) (cAndV (cCall m_is_number (cCons (cVar 2) (cNil))) (c2 gGe (cVar 2) (cK (.int 2))))) (cNil)))))) (cRet (cK (.bl false))) (cSkip)) (cRet (cC gAll (cCons (cComp [1] (cItR2 (cK (.int 1)) (cC gLen (cCons (cVar 0) (cNil)))) (.nm 1) (cYes) (c2 gGe (c2 gIx (cVar 0) (c2 gSub (cVar 1) (cK (.int 1)))) (c2 gIx (cVar 0) (cVar 1)))) (cNil))))
def m_is_pattern : Fn := runD 1 3 b_is_pattern
theorem sc_is_pattern : FnScope N_is_pattern ps_is_pattern (defScope st_is_pattern) := ⟨rfl, rfl, rfl, by decide +kernel, rfl, by decide +kernel, by decide +kernel⟩
abbrev st_want_pattern : Stmt := top 16
abbrev ps_want_pattern : List Str := ["pattern"]
abbrev N_want_pattern : List Str := ["pattern"]
def b_want_pattern : CS := cIf (cNot (cTru (cCall m_is_pattern (cCons (cVar 0) (cNil))))) (cRaise "BadDay" (cK (.int 0))) (cSkip)
def m_want_pattern : Fn := runD 1 1 b_want_pattern
theorem sc_want_pattern : FnScope N_want_pattern ps_want_pattern (defScope st_want_pattern) := ⟨rfl, rfl, rfl, by decide +kernel, rfl, by decide +kernel, by decide +kernel⟩
abbrev st_less : Stmt := top 18
abbrev ps_less : List Str := ["pattern"]
abbrev N_less : List Str := ["pattern"]
def b_less : CS := cSeq (cDrop (cCall m_want_pattern (cCons (cVar 0) (cNil)))) (cRet (c2 gSub (cC gSum (cCons (cVar 0) (cNil))) (cC gLen (cCons (cVar 0) (cNil)))))
def m_less : Fn := runD 1 1 b_less
theorem sc_less : FnScope N_less ps_less (defScope st_less) := ⟨rfl, rfl, rfl, by decide +kernel, rfl, by decide +kernel, by decide +kernel⟩
abbrev st_counts_to : Stmt := top 30
abbrev ps_counts_to : List Str := ["k"]
abbrev N_counts_to : List Str := ["k", "found", "lines", "pattern"]
def b_counts_to : CS := cSeq (cSet 1 (cC gLstD (cCons (cK (.int 0)) (cCons (cK (.int 1)) (cNil))))) (cSeq (cFor (cItR2 (cK (.int 2)) (c2 gAdd (cVar 0) (cK (.int 1)))) (.nm 2) (cDrop (cMt isLst gAppend (cVar 1) (cCons (cC gSum (cCons (cComp [3] (cItS (cCall m_patterns (cCons (cVar 2) (cNil)))) (.nm 3) (cYes) (c2 gIx (cVar 1) (c2 gSub (cVar 2) (cCall m_less (cCons (cVar 3) (cNil)))))) (cNil))) (cNil))))) (cRet (cVar 1)))
def m_counts_to : Fn := runD 1 4 b_counts_to
theorem sc_counts_to : FnScope N_counts_to ps_counts_to (defScope st_counts_to) := ⟨rfl, rfl, rfl, by decide +kernel, rfl, by decide +kernel, by decide +kernel⟩
abbrev st_calendars_count : Stmt := top 31
abbrev ps_calendars_count : List Str := ["k"]
abbrev N_calendars_count : List Str := ["k"]
def b_calendars_count : CS := cSeq (cDrop (cCall m_want_leaves (cCons (cVar 0) (cNil)))) (cRet (c2 gIx (cCall m_counts_to (cCons (cVar 0) (cNil))) (cVar 0)))
def m_calendars_count : Fn := runD 1 1 b_calendars_count
theorem sc_calendars_count : FnScope N_calendars_count ps_calendars_count (defScope st_calendars_count) := ⟨rfl, rfl, rfl, by decide +kernel, rfl, by decide +kernel, by decide +kernel⟩
abbrev st_made : Stmt := top 23
abbrev ps_made : List Str := ["born", "days"]
abbrev N_made : List Str := ["born", "days"]
def b_made : CS := cRet (cC gCal (cCons (cC gTuple (cCons (cVar 0) (cNil))) (cCons (cC gTuple (cCons (cVar 1) (cNil))) (cNil))))
def m_made : Fn := runD 2 2 b_made
theorem sc_made : FnScope N_made ps_made (defScope st_made) := ⟨rfl, rfl, rfl, by decide +kernel, rfl, by decide +kernel, by decide +kernel⟩
abbrev st_nth_calendar : Stmt := top 32
abbrev ps_nth_calendar : List Str := ["k", "i"]
abbrev N_nth_calendar : List Str := ["k", "i", "counts", "lines", "left", "days", "pattern", "many"]
def b_nth_calendar : CS := cSeq (cDrop (cCall m_want_leaves (cCons (cVar 0) (cNil)))) (cSeq (cSet 2 (cCall m_counts_to (cCons (cVar 0) (cNil)))) (cSeq (cIf (cNot (cB (cChain gLe gLt (cK (.int 0)) (cVar 1) (c2 gIx (cVar 2) (cVar 0))))) (cRaise "BadCount" (cVar 1)) (cSkip)) (cSeq (cPar3 3 4 5 (cVar 0) (cVar 1) (cC gLstD (cNil))) (cSeq (cWhile 1000 (cB (c2 gGt (cVar 3) (cK (.int 1)))) (cSeq (cFor (cItS (cCall m_patterns (cCons (cVar 3) (cNil)))) (.nm 6) (cSeq (cSet 7 (c2 gIx (cVar 2) (c2 gSub (cVar 3) (cCall m_less (cCons (cVar 6) (cNil)))))) (cSeq (cIf (cB (c2 gLt (cVar 4) (cVar 7))) (cBk) (cSkip)) (cAug 4 gSub (cVar 7))))) (cSeq (cDrop (cMt isLst gAppend (cVar 5) (cCons (cVar 6) (cNil)))) (cAug 3 gSub (cCall m_less (cCons (cVar 6) (cNil))))))) (cRet (cCall m_made (cCons (c2 gMul (cC gTupD (cCons (cK (.int 0)) (cNil))) (cVar 0)) (cCons (cC gTuple (cCons (cVar 5) (cNil))) (cNil)))))))))
def m_nth_calendar : Fn := runD 2 8 b_nth_calendar
theorem sc_nth_calendar : FnScope N_nth_calendar ps_nth_calendar (defScope st_nth_calendar) := ⟨rfl, rfl, rfl, by decide +kernel, rfl, by decide +kernel, by decide +kernel⟩
abbrev st_counts_of : Stmt := top 24
abbrev ps_counts_of : List Str := ["born", "days"]
abbrev N_counts_of : List Str := ["born", "days", "found", "now", "day", "pattern"]
def b_counts_of : CS := cSeq (cPar 2 3 (cC gLstD (cNil)) (cK (.int 0))) (cSeq (cFor (cItE (cVar 1)) (.tp [.nm 4, .nm 5]) (cSeq (cSet 3 (c2 gAdd (cVar 3) (cMt isSeq gCountM (cVar 0) (cCons (cVar 4) (cNil))))) (cSeq (cDrop (cMt isLst gAppend (cVar 2) (cCons (cVar 3) (cNil)))) (cSet 3 (c2 gAdd (c2 gSub (cVar 3) (cC gSum (cCons (cVar 5) (cNil)))) (cC gLen (cCons (cVar 5) (cNil)))))))) (cRet (c2 gAdd (cVar 2) (cC gLstD (cCons (c2 gAdd (cVar 3) (cMt isSeq gCountM (cVar 0) (cCons (cC gLen (cCons (cVar 1) (cNil))) (cNil)))) (cNil))))))
def m_counts_of : Fn := runD 2 6 b_counts_of
theorem sc_counts_of : FnScope N_counts_of ps_counts_of (defScope st_counts_of) := ⟨rfl, rfl, rfl, by decide +kernel, rfl, by decide +kernel, by decide +kernel⟩
abbrev st_counts : Stmt := top 27
abbrev ps_counts : List Str := ["calendar"]
abbrev N_counts : List Str := ["calendar"]
def b_counts : CS := cRet (cCall m_counts_of (cCons (c1 (gFld cal "born") (cVar 0)) (cCons (c1 (gFld cal "days") (cVar 0)) (cNil))))
def m_counts : Fn := runD 1 1 b_counts
theorem sc_counts : FnScope N_counts ps_counts (defScope st_counts) := ⟨rfl, rfl, rfl, by decide +kernel, rfl, by decide +kernel, by decide +kernel⟩
abbrev st_ends : Stmt := top 28
abbrev ps_ends : List Str := ["calendar"]
abbrev N_ends : List Str := ["calendar"]
def b_ends : CS := cRet (c2 gIx (cCall m_counts (cCons (cVar 0) (cNil))) (c1 gNeg (cK (.int 1))))
def m_ends : Fn := runD 1 1 b_ends
theorem sc_ends : FnScope N_ends ps_ends (defScope st_ends) := ⟨rfl, rfl, rfl, by decide +kernel, rfl, by decide +kernel, by decide +kernel⟩
abbrev st_calendar_rank : Stmt := top 33
abbrev ps_calendar_rank : List Str := ["calendar"]
abbrev N_calendar_rank : List Str := ["calendar", "lines", "found", "counts", "day", "pattern"]
def b_calendar_rank : CS := cSeq (cIf (cOr (cB (c2 gGt (cC gMax (cCons (c1 (gFld cal "born") (cVar 0)) (cNil))) (cK (.int 0)))) (cB (c2 gNe (cCall m_ends (cCons (cVar 0) (cNil))) (cK (.int 1))))) (cRaise "Unlike" (cK (.int 0))) (cSkip)) (cSeq (cAsg (.tp [.nm 1, .nm 2]) (cC gTupD (cCons (cC gLen (cCons (c1 (gFld cal "born") (cVar 0)) (cNil))) (cCons (cK (.int 0)) (cNil))))) (cSeq (cSet 3 (cCall m_counts_to (cCons (cVar 1) (cNil)))) (cSeq (cFor (cItS (c1 (gFld cal "days") (cVar 0))) (.nm 4) (cSeq (cAug 2 gAddI (cC gSum (cCons (cComp [5] (cItS (cCall m_patterns (cCons (cVar 1) (cNil)))) (.nm 5) (cB (c2 gLtW (cVar 5) (cVar 4))) (c2 gIx (cVar 3) (c2 gSub (cVar 1) (cCall m_less (cCons (cVar 5) (cNil)))))) (cNil)))) (cAug 1 gSub (cCall m_less (cCons (cVar 4) (cNil)))))) (cRet (cVar 2)))))
def m_calendar_rank : Fn := runD 1 6 b_calendar_rank
theorem sc_calendar_rank : FnScope N_calendar_rank ps_calendar_rank (defScope st_calendar_rank) := ⟨rfl, rfl, rfl, by decide +kernel, rfl, by decide +kernel, by decide +kernel⟩
abbrev st__law_told : Stmt := top 41
abbrev ps__law_told : List Str := ["_law_way", "_law_k", "_law_i"]
abbrev N__law_told : List Str := ["_law_way", "_law_k", "_law_i", "e", "_law_found"]
def b__law_told : CS := cSeq (cTry errs (cIf (cB (c2 gEq (cVar 0) (cK (.str "count")))) (cSet 4 (cCallK m_calendars_count [0] (cCons (cVar 1) (cNil)))) (cIf (cB (c2 gEq (cVar 0) (cK (.str "nth")))) (cSet 4 (cCallK m_nth_calendar [1, 0] (cCons (cVar 2) (cCons (cVar 1) (cNil))))) (cSet 4 (cCallK m_calendar_rank [0] (cCons (cVar 1) (cNil)))))) [("BadSize", some 3, cRet (cC gTupD (cCons (cK (.str "size")) (cCons (cWhat 3) (cNil))))), ("BadCount", some 3, cRet (cC gTupD (cCons (cK (.str "count")) (cCons (cWhat 3) (cNil))))), ("Unlike", some 3, cRet (cC gTupD (cCons (cK (.str "unlike")) (cCons (cWhat 3) (cNil))))), ("Refused", some 3, cRet (cC gTupD (cCons (cK (.str "other")) (cCons (cWhat 3) (cNil)))))]) (cRet (cVar 4))
def m__law_told : Fn := runD 3 5 b__law_told
theorem sc__law_told : FnScope N__law_told ps__law_told (defScope st__law_told) := ⟨rfl, rfl, rfl, by decide +kernel, rfl, by decide +kernel, by decide +kernel⟩
abbrev st__law_listed_right : Stmt := top 43
abbrev ps__law_listed_right : List Str := ["_law_k"]
abbrev N__law_listed_right : List Str := ["_law_k", "_law_due", "_law_at", "_law_found"]
def b__law_listed_right : CS := cSeq (cSet 1 (cCall (m__law_days 40) (cCons (cVar 0) (cNil)))) (cSeq (cIf (cNot (cTru (cCall m__law_is_number (cCons (cCall m__law_told (cCons (cK (.str "count")) (cCons (cVar 0) (cCons (cK (.int 0)) (cNil))))) (cCons (cC gLen (cCons (cVar 1) (cNil))) (cNil)))))) (cRet (cK (.bl false))) (cSkip)) (cSeq (cFor (cItR1 (cC gLen (cCons (cVar 1) (cNil)))) (.nm 2) (cSeq (cSet 3 (cCall m__law_told (cCons (cK (.str "nth")) (cCons (cVar 0) (cCons (cVar 2) (cNil)))))) (cIf (cOr (cB (c2 gNe (cC gTupD (cCons (c1 (gFld cal "born") (cVar 3)) (cCons (c1 (gFld cal "days") (cVar 3)) (cNil)))) (cC gTupD (cCons (c2 gMul (cC gTupD (cCons (cK (.int 0)) (cNil))) (cVar 0)) (cCons (c2 gIx (cVar 1) (cVar 2)) (cNil)))))) (cNot (cTru (cCall m__law_is_number (cCons (cCall m__law_told (cCons (cK (.str "rank")) (cCons (cVar 3) (cCons (cK (.int 0)) (cNil))))) (cCons (cVar 2) (cNil))))))) (cRet (cK (.bl false))) (cSkip)))) (cRet (cAndV (c2 gEq (cCall m__law_told (cCons (cK (.str "nth")) (cCons (cVar 0) (cCons (cC gLen (cCons (cVar 1) (cNil))) (cNil))))) (cC gTupD (cCons (cK (.str "count")) (cCons (cC gLen (cCons (cVar 1) (cNil))) (cNil))))) (c2 gEq (cCall m__law_told (cCons (cK (.str "nth")) (cCons (cVar 0) (cCons (c1 gNeg (cK (.int 1))) (cNil))))) (cC gTupD (cCons (cK (.str "count")) (cCons (c1 gNeg (cK (.int 1))) (cNil)))))))))
def m__law_listed_right : Fn := runD 1 4 b__law_listed_right
theorem sc__law_listed_right : FnScope N__law_listed_right ps__law_listed_right (defScope st__law_listed_right) := ⟨rfl, rfl, rfl, by decide +kernel, rfl, by decide +kernel, by decide +kernel⟩
abbrev st__law_take : Stmt := top 36
abbrev ps__law_take : List Str := ["_law_source", "_law_top"]
abbrev N__law_take : List Str := ["_law_source", "_law_top", "_law_drawn"]
def b__law_take : CS := cSeq (cIf (cB (c2 gGt (c2 gIx (cVar 0) (cK (.int 0))) (cK (.int 0)))) (cSeq (cSet 2 (c2 gMod (cC gInt (cCons (c2 gIx (cVar 0) (cK (.int 0))) (cNil))) (cVar 1))) (cSeq (cSetIx (c2 gDiv (c2 gIx (cVar 0) (cK (.int 0))) (cVar 1)) (cVar 0) (cK (.int 0))) (cRet (cVar 2)))) (cSkip)) (cSeq (cSetIx (c2 gMod (cC gInt (cCons (c2 gAdd (c2 gMul (c2 gIx (cVar 0) (cK (.int 1))) (cK (.int 39373))) (cK (.int 7))) (cNil))) (cK (.int 2147483647))) (cVar 0) (cK (.int 1))) (cRet (c2 gMod (cC gInt (cCons (c2 gDiv (c2 gMod (cC gInt (cCons (c2 gMul (c2 gIx (cVar 0) (cK (.int 1))) (c2 gIx (cVar 0) (cK (.int 1)))) (cNil))) (cK (.int 2147483629))) (cK (.int 32))) (cNil))) (cVar 1))))
def m__law_take : Fn := runD 2 3 b__law_take
theorem sc__law_take : FnScope N__law_take ps__law_take (defScope st__law_take) := ⟨rfl, rfl, rfl, by decide +kernel, rfl, by decide +kernel, by decide +kernel⟩
abbrev st__law_one : Stmt := top 37
abbrev ps__law_one : List Str := ["_law_source", "_law_things"]
abbrev N__law_one : List Str := ["_law_source", "_law_things"]
def b__law_one : CS := cRet (c2 gIx (cVar 1) (cCall m__law_take (cCons (cVar 0) (cCons (cC gLen (cCons (cVar 1) (cNil))) (cNil)))))
def m__law_one : Fn := runD 2 2 b__law_one
theorem sc__law_one : FnScope N__law_one ps__law_one (defScope st__law_one) := ⟨rfl, rfl, rfl, by decide +kernel, rfl, by decide +kernel, by decide +kernel⟩
abbrev st_made_calendar : Stmt := top 25
abbrev ps_made_calendar : List Str := ["born", "days"]
abbrev N_made_calendar : List Str := ["born", "days", "at", "pattern", "leaf", "day", "counts"]
def b_made_calendar : CS := cSeq (cIf (cNot (cB (cChain gLe gLe (cK (.int 1)) (cC gLen (cCons (cVar 0) (cNil))) (cK (.int 12))))) (cRaise "BadSize" (cC gLen (cCons (cVar 0) (cNil)))) (cSkip)) (cSeq (cIf (cB (c2 gGt (cC gLen (cCons (cVar 1) (cNil))) (cK (.int 11)))) (cRaise "BadDay" (cC gLen (cCons (cVar 1) (cNil)))) (cSkip)) (cSeq (cFor (cItE (cVar 1)) (.tp [.nm 2, .nm 3]) (cIf (cOr (cNot (cTru (cCall m_is_pattern (cCons (cVar 3) (cNil))))) (cB (c2 gEq (cVar 3) (cC gTupD (cNil))))) (cRaise "BadDay" (cVar 2)) (cSkip))) (cSeq (cFor (cItE (cVar 0)) (.tp [.nm 4, .nm 5]) (cIf (cOr (cNot (cTru (cCall m_is_number (cCons (cVar 5) (cNil))))) (cNot (cB (cChain gLe gLe (cK (.int 0)) (cVar 5) (cC gLen (cCons (cVar 1) (cNil))))))) (cRaise "BadBirth" (cVar 4)) (cSkip))) (cSeq (cSet 6 (cCall m_counts_of (cCons (cVar 0) (cCons (cVar 1) (cNil))))) (cSeq (cFor (cItE (cVar 1)) (.tp [.nm 2, .nm 3]) (cIf (cB (c2 gGt (cC gSum (cCons (cVar 3) (cNil))) (c2 gIx (cVar 6) (cVar 2)))) (cRaise "TooFew" (cVar 2)) (cSkip))) (cRet (cC gCal (cCons (cVar 0) (cCons (cVar 1) (cNil))))))))))
def m_made_calendar : Fn := runD 2 7 b_made_calendar
theorem sc_made_calendar : FnScope N_made_calendar ps_made_calendar (defScope st_made_calendar) := ⟨rfl, rfl, rfl, by decide +kernel, rfl, by decide +kernel, by decide +kernel⟩
abbrev st_law : Stmt := top 44
abbrev ps_law : List Str := ["_law_script"]
abbrev N_law : List Str := ["_law_script", "_law_numbers_here", "_law_k", "_law_source", "_law_n", "_law_at", "_law_one_here", "_law_two", "_law_bad", "_law_born", "_law_days_here"]
def b_law : CS := cSeq (cSet 1 (cCall m__law_numbers (cNil))) (cSeq (cFor (cItR1 (cC gMax (cCons (cK (.int 1)) (cCons (cC gMin (cCons (cC gLen (cCons (cVar 0) (cNil))) (cCons (cK (.int 2)) (cNil)))) (cNil))))) (.nm 2) (cSeq (cSet 3 (cCall m__law_pool (cCons (cVar 0) (cCons (cVar 2) (cNil))))) (cSeq (cIf (cNot (cTru (cCall m__law_listed_right (cCons (cCall m__law_one (cCons (cVar 3) (cCons (cC gLstD (cCons (cK (.int 4)) (cCons (cK (.int 1)) (cCons (cK (.int 2)) (cCons (cK (.int 3)) (cCons (cK (.int 5)) (cCons (cK (.int 6)) (cCons (cK (.int 5)) (cNil))))))))) (cNil)))) (cNil))))) (cRet (cK (.bl false))) (cSkip)) (cSeq (cSet 4 (cCall m__law_one (cCons (cVar 3) (cCons (cC gLstD (cCons (cK (.int 7)) (cCons (cK (.int 8)) (cCons (cK (.int 9)) (cCons (cK (.int 10)) (cCons (cK (.int 11)) (cCons (cK (.int 12)) (cCons (cK (.int 12)) (cNil))))))))) (cNil))))) (cSeq (cSet 5 (cCall m__law_take (cCons (cVar 3) (cCons (c2 gSub (c2 gIx (cVar 1) (cVar 4)) (cK (.int 1))) (cNil))))) (cSeq (cPar 6 7 (cCall m__law_told (cCons (cK (.str "nth")) (cCons (cVar 4) (cCons (cVar 5) (cNil))))) (cCall m__law_told (cCons (cK (.str "nth")) (cCons (cVar 4) (cCons (c2 gAdd (cVar 5) (cK (.int 1))) (cNil)))))) (cSeq (cIf (cOr (cNot (cTru (cCall m__law_is_number (cCons (cCall m__law_told (cCons (cK (.str "count")) (cCons (cVar 4) (cCons (cK (.int 0)) (cNil))))) (cCons (c2 gIx (cVar 1) (cVar 4)) (cNil)))))) (cOr (cB (c2 gGeW (c1 (gFld cal "days") (cVar 6)) (c1 (gFld cal "days") (cVar 7)))) (cB (c2 gNe (c1 (gFld cal "born") (cVar 7)) (c2 gMul (cC gTupD (cCons (cK (.int 0)) (cNil))) (cVar 4)))))) (cRet (cK (.bl false))) (cSkip)) (cSeq (cIf (cNot (cTru (cCall m__law_is_number (cCons (cCall m__law_told (cCons (cK (.str "rank")) (cCons (cCall m_made_calendar (cCons (c1 (gFld cal "born") (cVar 6)) (cCons (c1 (gFld cal "days") (cVar 6)) (cNil)))) (cCons (cK (.int 0)) (cNil))))) (cCons (cVar 5) (cNil)))))) (cRet (cK (.bl false))) (cSkip)) (cSeq (cIf (cNot (cTru (cCall m__law_is_number (cCons (cCall m__law_told (cCons (cK (.str "rank")) (cCons (cVar 7) (cCons (cK (.int 0)) (cNil))))) (cCons (c2 gAdd (cVar 5) (cK (.int 1))) (cNil)))))) (cRet (cK (.bl false))) (cSkip)) (cSeq (cSet 8 (cCall m__law_one (cCons (cVar 3) (cCons (cC gLstD (cCons (cK (.int 0)) (cCons (cK (.int 13)) (cCons (c2 gSub (c1 gNeg (cK (.int 1))) (cVar 5)) (cNil))))) (cNil))))) (cSeq (cIf (cOr (cB (c2 gNe (cCall m__law_told (cCons (cK (.str "count")) (cCons (cVar 8) (cCons (cK (.int 0)) (cNil))))) (cC gTupD (cCons (cK (.str "size")) (cCons (cVar 8) (cNil)))))) (cB (c2 gNe (cCall m__law_told (cCons (cK (.str "nth")) (cCons (cVar 8) (cCons (c1 gNeg (cK (.int 1))) (cNil))))) (cC gTupD (cCons (cK (.str "size")) (cCons (cVar 8) (cNil))))))) (cRet (cK (.bl false))) (cSkip)) (cFor (cItS (cC gLstD (cCons (cC gTupD (cCons (cC gTupD (cCons (cK (.int 0)) (cCons (cK (.int 0)) (cCons (cK (.int 1)) (cNil))))) (cCons (cC gTupD (cCons (cC gTupD (cCons (cK (.int 2)) (cNil))) (cCons (cC gTupD (cCons (cK (.int 2)) (cNil))) (cNil)))) (cNil)))) (cCons (cC gTupD (cCons (cC gTupD (cCons (cK (.int 0)) (cCons (cK (.int 0)) (cCons (cK (.int 0)) (cNil))))) (cCons (cC gTupD (cCons (cC gTupD (cCons (cK (.int 2)) (cNil))) (cNil))) (cNil)))) (cCons (cC gTupD (cCons (cC gTupD (cCons (cK (.int 0)) (cCons (cK (.int 0)) (cNil)))) (cCons (cC gTupD (cNil)) (cNil)))) (cCons (cC gTupD (cCons (cC gTupD (cCons (cK (.int 1)) (cCons (cK (.int 0)) (cCons (cK (.int 0)) (cNil))))) (cCons (cC gTupD (cCons (cC gTupD (cCons (cK (.int 2)) (cNil))) (cNil))) (cNil)))) (cNil))))))) (.tp [.nm 9, .nm 10]) (cIf (cB (c2 gNe (cCall m__law_told (cCons (cK (.str "rank")) (cCons (cCall m_made_calendar (cCons (cVar 9) (cCons (cVar 10) (cNil)))) (cCons (cK (.int 0)) (cNil))))) (cC gTupD (cCons (cK (.str "unlike")) (cCons (cK (.int 0)) (cNil)))))) (cRet (cK (.bl false))) (cSkip)))))))))))))) (cRet (cK (.bl true))))
def m_law : Fn := runD 1 11 b_law
theorem sc_law : FnScope N_law ps_law (defScope st_law) := ⟨rfl, rfl, rfl, by decide +kernel, rfl, by decide +kernel, by decide +kernel⟩
abbrev st_ini : Stmt := inClass (top 22) 0
structure Tx (P : Program) (K : PySem.W.Frag) (mg : Str → Option Value) : Prop where
  f__law_patterns : ∃ f fd, FT K mg "_law_patterns" "_law_patterns" st__law_patterns ps__law_patterns f fd
  f__law_numbers : ∃ f fd, FT K mg "_law_numbers" "_law_numbers" st__law_numbers ps__law_numbers f fd
  f__law_pool : ∃ f fd, FT K mg "_law_pool" "_law_pool" st__law_pool ps__law_pool f fd
  f__law_days : ∃ f fd, FT K mg "_law_days" "_law_days" st__law_days ps__law_days f fd
  f__law_is_number : ∃ f fd, FT K mg "_law_is_number" "_law_is_number" st__law_is_number ps__law_is_number f fd
  f_want_leaves : ∃ f fd, FT K mg "want_leaves" "want_leaves" st_want_leaves ps_want_leaves f fd
  f_want_things : ∃ f fd, FT K mg "want_things" "want_things" st_want_things ps_want_things f fd
  f_patterns : ∃ f fd, FT K mg "patterns" "patterns" st_patterns ps_patterns f fd
  f_is_number : ∃ f fd, FT K mg "is_number" "is_number" st_is_number ps_is_number f fd
  f_is_pattern : ∃ f fd, FT K mg "is_pattern" "is_pattern" st_is_pattern ps_is_pattern f fd
  f_want_pattern : ∃ f fd, FT K mg "want_pattern" "want_pattern" st_want_pattern ps_want_pattern f fd
  f_less : ∃ f fd, FT K mg "less" "less" st_less ps_less f fd
  f_counts_to : ∃ f fd, FT K mg "counts_to" "counts_to" st_counts_to ps_counts_to f fd
  f_calendars_count : ∃ f fd, FT K mg "calendars_count" "calendars_count" st_calendars_count ps_calendars_count f fd
  f_made : ∃ f fd, FT K mg "made" "made" st_made ps_made f fd
  f_nth_calendar : ∃ f fd, FT K mg "nth_calendar" "nth_calendar" st_nth_calendar ps_nth_calendar f fd
  f_counts_of : ∃ f fd, FT K mg "counts_of" "counts_of" st_counts_of ps_counts_of f fd
  f_counts : ∃ f fd, FT K mg "counts" "counts" st_counts ps_counts f fd
  f_ends : ∃ f fd, FT K mg "ends" "ends" st_ends ps_ends f fd
  f_calendar_rank : ∃ f fd, FT K mg "calendar_rank" "calendar_rank" st_calendar_rank ps_calendar_rank f fd
  f__law_told : ∃ f fd, FT K mg "_law_told" "_law_told" st__law_told ps__law_told f fd
  f__law_listed_right : ∃ f fd, FT K mg "_law_listed_right" "_law_listed_right" st__law_listed_right ps__law_listed_right f fd
  f__law_take : ∃ f fd, FT K mg "_law_take" "_law_take" st__law_take ps__law_take f fd
  f__law_one : ∃ f fd, FT K mg "_law_one" "_law_one" st__law_one ps__law_one f fd
  f_made_calendar : ∃ f fd, FT K mg "made_calendar" "made_calendar" st_made_calendar ps_made_calendar f fd
  f_law : ∃ f fd, FT K mg "law" "law" st_law ps_law f fd
  n_all : mg "all" = none
  n_bool : mg "bool" = none
  n_enumerate : mg "enumerate" = none
  n_int : mg "int" = none
  n_isinstance : mg "isinstance" = none
  n_len : mg "len" = none
  n_max : mg "max" = none
  n_min : mg "min" = none
  n_range : mg "range" = none
  n_sorted : mg "sorted" = none
  n_sum : mg "sum" = none
  n_tuple : mg "tuple" = none
  c_LEAST_GROUP : ∃ t, mg "LEAST_GROUP" = some (.int 2 t)
  c_MOST_DAYS : ∃ t, mg "MOST_DAYS" = some (.int 11 t)
  c_MOST_LEAVES : ∃ t, mg "MOST_LEAVES" = some (.int 12 t)
  c_MOST_THINGS : ∃ t, mg "MOST_THINGS" = some (.int 12 t)
  er : ∃ D fI cc, mg "Refused" = some (.ref D) ∧ BaseTxt P K mg D fI cc ∧ (∃ C, ErrTxt K mg "BadSize" C D fI) ∧ (∃ C, ErrTxt K mg "BadBirth" C D fI) ∧ (∃ C, ErrTxt K mg "BadDay" C D fI) ∧ (∃ C, ErrTxt K mg "TooFew" C D fI) ∧ (∃ C, ErrTxt K mg "BadCount" C D fI) ∧ (∃ C, ErrTxt K mg "Unlike" C D fI)
  ef : EF K mg errs
  ca : ∃ C fI fd, CalTxt K mg C fI ∧ Fun K "__init__" "Calendar.__init__" st_ini fI fd ∧ Binds K fd iniN []
section
variable {P : Program} {w : World} {K : PySem.W.Frag} {mg : Str → Option Value} {base : Heap}
theorem sc_ini : FnScope iniN iniN (defScope st_ini) := ⟨rfl, rfl, rfl, by decide +kernel, rfl, by decide +kernel, by decide +kernel⟩
theorem ok__law_patterns_n (T : Tx P K mg) {f : Addr} {fd : FuncData} (F : FT K mg "_law_patterns" "_law_patterns" st__law_patterns ps__law_patterns f fd) : ∀ n : Nat, FnOk P w K mg base (L2.CX P w) (1 + n) f fd ps__law_patterns (spOf ⟨K, mg⟩ 2 (m__law_patterns n)) := by
  intro n
  induction n with
  | zero => exact fn_stuck (ps := ps__law_patterns)
  | succ n G__law_patterns =>
  have F__law_patterns := F
  exact fn_ok (k := 1 + n) F.fn sc__law_patterns fun cdv A outer s H E hr => by
    show SSs _ _ (defBody st__law_patterns) (b__law_patterns (m__law_patterns n))
    unfold b__law_patterns
    exact ss_cons (s_set (i := 2) sc__law_patterns.nd (s_lst (s_cons (s_tup (s_nil)) (s_nil)))) (ss_cons (s_for (tp := false) (passes_of rfl) rfl (it_range2 T.n_range (s_int) (s_op o_add (s_callB (k_min rfl) rfl T.n_min (by decide +kernel) (s_cons (s_var 0) (s_cons (s_var 1) (s_nil)))) (s_int))) (g_nm sc__law_patterns.nd) (ss_one (s_drop (s_mtL PySem.F.slot_list_extend md_extend m_ext (s_var 2) (s_cons (s_comp (own := [("_law_more", 4)]) rfl sc__law_patterns.nd (it_seq (s_call G__law_patterns (Room.mono hr (by first | decide | omega)) F__law_patterns.g F__law_patterns.k F__law_patterns.b (takes_of rfl rfl rfl rfl) (s_cons (s_op o_sub (s_var 0) (s_var 3)) (s_cons (s_var 3) (s_nil))) (cons_len (cons_len (fun _ _ _ _ => nil_len))))) (by first | (show blkC N__law_patterns (defScope st__law_patterns) _ _ = true; decide +kernel) | rfl) (fun _ _ _ _ _ => g_nm sc__law_patterns.nd) (fun _ _ _ _ _ => ts_nil) (fun _ _ _ _ _ => s_op o_add (s_tup (s_cons (s_var 3) (s_nil))) (s_var 4))) (s_nil)))))) (ss_one (s_ret (s_var 2))))
theorem ok__law_patterns (T : Tx P K mg) {f : Addr} {fd : FuncData} (F : FT K mg "_law_patterns" "_law_patterns" st__law_patterns ps__law_patterns f fd) : FnOk P w K mg base (L2.CX P w) 41 f fd ps__law_patterns (spOf ⟨K, mg⟩ 2 (m__law_patterns 40)) := FnOk.mono (ok__law_patterns_n T F 40) (by decide)
theorem ok__law_numbers (T : Tx P K mg) {f : Addr} {fd : FuncData} (F : FT K mg "_law_numbers" "_law_numbers" st__law_numbers ps__law_numbers f fd) : FnOk P w K mg base (L2.CX P w) 42 f fd ps__law_numbers (spOf ⟨K, mg⟩ 0 m__law_numbers) := by
  obtain ⟨f__law_patterns, fd__law_patterns, F__law_patterns⟩ := T.f__law_patterns
  have G__law_patterns := ok__law_patterns (w := w) (base := base) T F__law_patterns
  exact fn_ok (k := 41) F.fn sc__law_numbers fun cdv A outer s H E hr => by
    show SSs _ _ (defBody st__law_numbers) (b__law_numbers)
    unfold b__law_numbers
    exact ss_cons (s_set (i := 0) sc__law_numbers.nd (s_lst (s_cons (s_int) (s_cons (s_int) (s_nil))))) (ss_cons (s_for (tp := false) (passes_of rfl) rfl (it_range2 T.n_range (s_int) (s_int)) (g_nm sc__law_numbers.nd) (ss_cons (s_setComp (i := 2) (own := [("_law_pattern", 3)]) rfl sc__law_numbers.nd (it_seq (s_call G__law_patterns (Room.mono hr (by first | decide | omega)) F__law_patterns.g F__law_patterns.k F__law_patterns.b (takes_of rfl rfl rfl rfl) (s_cons (s_var 1) (s_cons (s_var 1) (s_nil))) (cons_len (cons_len (fun _ _ _ _ => nil_len))))) (by first | (show blkC N__law_numbers (defScope st__law_numbers) _ _ = true; decide +kernel) | rfl) (fun _ _ _ _ _ => g_nm sc__law_numbers.nd) (fun _ _ _ _ _ => ts_one (s_cmpT (o_ne (by have z := Room.u64 hr; exact z)) (s_var 3) (s_tup (s_nil)))) (fun _ _ _ _ _ => s_var 3) rfl) (ss_one (s_drop (s_mtL PySem.F.slot_list_append md_append m_append (s_var 0) (s_cons (s_callB (k_sum rfl) rfl T.n_sum (by decide +kernel) (s_cons (s_comp (own := [("_law_pattern", 3)]) rfl sc__law_numbers.nd (it_seq (s_var 2)) (by first | (show blkC N__law_numbers (defScope st__law_numbers) _ _ = true; decide +kernel) | rfl) (fun _ _ _ _ _ => g_nm sc__law_numbers.nd) (fun _ _ _ _ _ => ts_nil) (fun _ _ _ _ _ => s_ix i_ix (s_var 0) (s_op o_add (s_op o_sub (s_var 1) (s_callB (k_sum rfl) rfl T.n_sum (by decide +kernel) (s_cons (s_var 3) (s_nil)))) (s_callB k_len rfl T.n_len (by decide +kernel) (s_cons (s_var 3) (s_nil)))))) (s_nil))) (s_nil))))))) (ss_one (s_ret (s_var 0))))
theorem ok__law_pool (T : Tx P K mg) {f : Addr} {fd : FuncData} (F : FT K mg "_law_pool" "_law_pool" st__law_pool ps__law_pool f fd) : FnOk P w K mg base (L2.CX P w) 1 f fd ps__law_pool (spOf ⟨K, mg⟩ 2 m__law_pool) := by
  exact fn_ok (k := 0) F.fn sc__law_pool fun cdv A outer s H E hr => by
    show SSs _ _ (defBody st__law_pool) (b__law_pool)
    unfold b__law_pool
    exact ss_cons (s_set (i := 2) sc__law_pool.nd (s_int)) (ss_cons (s_if (s_cmpT o_lt (s_var 1) (s_callB k_len rfl T.n_len (by decide +kernel) (s_cons (s_var 0) (s_nil)))) (ss_one (s_set (i := 2) sc__law_pool.nd (s_ix i_ix (s_var 0) (s_var 1)))) (ss_one (s_if (s_truth (s_var 0)) (ss_one (s_set (i := 2) sc__law_pool.nd (s_ix i_ix (s_var 0) (s_int)))) (ss_nil)))) (ss_cons (s_set (i := 3) sc__law_pool.nd (s_callB (k_max rfl) rfl T.n_max (by decide +kernel) (s_cons (s_callTy k_int rfl T.n_int (by decide +kernel) (s_cons (s_var 2) (s_nil))) (s_cons (s_callTy k_int rfl T.n_int (by decide +kernel) (s_cons (s_op o_sub (s_un o_neg (s_int)) (s_var 2)) (s_nil))) (s_nil))))) (ss_cons (s_set (i := 4) sc__law_pool.nd (s_op o_mod (s_callTy k_int rfl T.n_int (by decide +kernel) (s_cons (s_op o_mul (s_op o_add (s_op o_add (s_op o_add (s_op o_mod (s_callTy k_int rfl T.n_int (by decide +kernel) (s_cons (s_var 3) (s_nil))) (s_int)) (s_op o_mul (s_op o_mul (s_int) (s_var 1)) (s_var 1))) (s_op o_mul (s_int) (s_var 1))) (s_int)) (s_int)) (s_nil))) (s_int))) (ss_one (s_ret (s_lst (s_cons (s_op o_mul (s_var 3) (s_callTy k_int rfl T.n_int (by decide +kernel) (s_cons (s_cmp o_ge (s_var 3) (s_op o_pow (s_int) (s_int))) (s_nil)))) (s_cons (s_var 4) (s_nil)))))))))
theorem ok__law_days_n (T : Tx P K mg) {f : Addr} {fd : FuncData} (F : FT K mg "_law_days" "_law_days" st__law_days ps__law_days f fd) : ∀ n : Nat, FnOk P w K mg base (L2.CX P w) (42 + n) f fd ps__law_days (spOf ⟨K, mg⟩ 1 (m__law_days n)) := by
  intro n
  induction n with
  | zero => exact fn_stuck (ps := ps__law_days)
  | succ n G__law_days =>
  have F__law_days := F
  obtain ⟨f__law_patterns, fd__law_patterns, F__law_patterns⟩ := T.f__law_patterns
  have G__law_patterns := ok__law_patterns (w := w) (base := base) T F__law_patterns
  exact fn_ok (k := 42 + n) F.fn sc__law_days fun cdv A outer s H E hr => by
    show SSs _ _ (defBody st__law_days) (b__law_days (m__law_days n))
    unfold b__law_days
    exact ss_cons (s_if (s_cmpT (o_eq (by have z := Room.u64 hr; exact z)) (s_var 0) (s_int)) (ss_one (s_ret (s_lst (s_cons (s_tup (s_nil)) (s_nil))))) (ss_nil)) (ss_cons (s_set (i := 1) sc__law_days.nd (s_lst (s_nil))) (ss_cons (s_for (tp := false) (passes_of rfl) rfl (it_seq (s_call G__law_patterns (Room.mono hr (by first | decide | omega)) F__law_patterns.g F__law_patterns.k F__law_patterns.b (takes_of rfl rfl rfl rfl) (s_cons (s_var 0) (s_cons (s_var 0) (s_nil))) (cons_len (cons_len (fun _ _ _ _ => nil_len))))) (g_nm sc__law_days.nd) (ss_one (s_if (s_cmpT (o_ne (by have z := Room.u64 hr; exact z)) (s_var 2) (s_tup (s_nil))) (ss_one (s_drop (s_mtL PySem.F.slot_list_extend md_extend m_ext (s_var 1) (s_cons (s_comp (own := [("_law_more", 3)]) rfl sc__law_days.nd (it_seq (s_call G__law_days (Room.mono hr (by first | decide | omega)) F__law_days.g F__law_days.k F__law_days.b (takes_of rfl rfl rfl rfl) (s_cons (s_op o_add (s_op o_sub (s_var 0) (s_callB (k_sum rfl) rfl T.n_sum (by decide +kernel) (s_cons (s_var 2) (s_nil)))) (s_callB k_len rfl T.n_len (by decide +kernel) (s_cons (s_var 2) (s_nil)))) (s_nil)) (cons_len (fun _ _ _ _ => nil_len)))) (by first | (show blkC N__law_days (defScope st__law_days) _ _ = true; decide +kernel) | rfl) (fun _ _ _ _ _ => g_nm sc__law_days.nd) (fun _ _ _ _ _ => ts_nil) (fun _ _ _ _ _ => s_op o_add (s_tup (s_cons (s_var 2) (s_nil))) (s_var 3))) (s_nil))))) (ss_nil)))) (ss_one (s_ret (s_callB (k_srt (by have z := Room.u64 hr; exact z) rfl) rfl T.n_sorted (by decide +kernel) (s_cons (s_var 1) (s_nil)))))))
theorem ok__law_days (T : Tx P K mg) {f : Addr} {fd : FuncData} (F : FT K mg "_law_days" "_law_days" st__law_days ps__law_days f fd) : FnOk P w K mg base (L2.CX P w) 82 f fd ps__law_days (spOf ⟨K, mg⟩ 1 (m__law_days 40)) := FnOk.mono (ok__law_days_n T F 40) (by decide)
theorem ok__law_is_number (T : Tx P K mg) {f : Addr} {fd : FuncData} (F : FT K mg "_law_is_number" "_law_is_number" st__law_is_number ps__law_is_number f fd) : FnOk P w K mg base (L2.CX P w) 1 f fd ps__law_is_number (spOf ⟨K, mg⟩ 2 m__law_is_number) := by
  exact fn_ok (k := 0) F.fn sc__law_is_number fun cdv A outer s H E hr => by
    show SSs _ _ (defBody st__law_is_number) (b__law_is_number)
    unfold b__law_is_number
    exact ss_one (s_ret (s_andV (s_callB k_isi rfl T.n_isinstance (by decide +kernel) (s_cons (s_var 0) (s_cons (s_ty T.n_int rfl (by decide +kernel)) (s_nil)))) (s_andV (s_notV (s_callB k_isi rfl T.n_isinstance (by decide +kernel) (s_cons (s_var 0) (s_cons (s_ty T.n_bool rfl (by decide +kernel)) (s_nil))))) (s_oneV (s_cmp (o_eq (by have z := Room.u64 hr; exact z)) (s_var 0) (s_var 1))))))
theorem ok_want_leaves (T : Tx P K mg) {f : Addr} {fd : FuncData} (F : FT K mg "want_leaves" "want_leaves" st_want_leaves ps_want_leaves f fd) : FnOk P w K mg base (L2.CX P w) 1 f fd ps_want_leaves (spOf ⟨K, mg⟩ 1 m_want_leaves) := by
  obtain ⟨t_MOST_THINGS, c_MOST_THINGS⟩ := T.c_MOST_THINGS
  obtain ⟨D_, fI_, cc_, ER, EB, ⟨C_BadSize, E_BadSize⟩, ⟨C_BadBirth, E_BadBirth⟩, ⟨C_BadDay, E_BadDay⟩, ⟨C_TooFew, E_TooFew⟩, ⟨C_BadCount, E_BadCount⟩, ⟨C_Unlike, E_Unlike⟩⟩ := T.er
  exact fn_ok (k := 0) F.fn sc_want_leaves fun cdv A outer s H E hr => by
    show SSs _ _ (defBody st_want_leaves) (b_want_leaves)
    unfold b_want_leaves
    exact ss_one (s_if (s_not (s_chainT o_le o_le (s_int) (s_var 0) (s_glob (v := .int 12) (d := .int 12) rfl c_MOST_THINGS ⟨_, rfl⟩ (fun _ _ => by simp only [RD])))) (ss_one (s_raise rfl EB E_BadSize (Room.mono hr (by first | decide | omega : 0 ≤ _)) (takes_of rfl rfl rfl rfl) (s_var 0))) (ss_nil))
theorem ok_want_things (T : Tx P K mg) {f : Addr} {fd : FuncData} (F : FT K mg "want_things" "want_things" st_want_things ps_want_things f fd) : FnOk P w K mg base (L2.CX P w) 1 f fd ps_want_things (spOf ⟨K, mg⟩ 1 m_want_things) := by
  obtain ⟨t_MOST_THINGS, c_MOST_THINGS⟩ := T.c_MOST_THINGS
  obtain ⟨D_, fI_, cc_, ER, EB, ⟨C_BadSize, E_BadSize⟩, ⟨C_BadBirth, E_BadBirth⟩, ⟨C_BadDay, E_BadDay⟩, ⟨C_TooFew, E_TooFew⟩, ⟨C_BadCount, E_BadCount⟩, ⟨C_Unlike, E_Unlike⟩⟩ := T.er
  exact fn_ok (k := 0) F.fn sc_want_things fun cdv A outer s H E hr => by
    show SSs _ _ (defBody st_want_things) (b_want_things)
    unfold b_want_things
    exact ss_one (s_if (s_not (s_chainT o_le o_le (s_int) (s_var 0) (s_glob (v := .int 12) (d := .int 12) rfl c_MOST_THINGS ⟨_, rfl⟩ (fun _ _ => by simp only [RD])))) (ss_one (s_raise rfl EB E_BadSize (Room.mono hr (by first | decide | omega : 0 ≤ _)) (takes_of rfl rfl rfl rfl) (s_var 0))) (ss_nil))
theorem ok_patterns (T : Tx P K mg) {f : Addr} {fd : FuncData} (F : FT K mg "patterns" "patterns" st_patterns ps_patterns f fd) : FnOk P w K mg base (L2.CX P w) 2 f fd ps_patterns (spOf ⟨K, mg⟩ 1 m_patterns) := by
  obtain ⟨f_want_things, fd_want_things, F_want_things⟩ := T.f_want_things
  have G_want_things := ok_want_things (w := w) (base := base) T F_want_things
  obtain ⟨t_LEAST_GROUP, c_LEAST_GROUP⟩ := T.c_LEAST_GROUP
  exact fn_ok (k := 1) F.fn sc_patterns fun cdv A outer s H E hr => by
    show SSs _ _ (defBody st_patterns) (b_patterns)
    unfold b_patterns
    exact ss_cons (s_drop (s_call G_want_things (Room.mono hr (by first | decide | omega)) F_want_things.g F_want_things.k F_want_things.b (takes_of rfl rfl rfl rfl) (s_cons (s_var 0) (s_nil)) (cons_len (fun _ _ _ _ => nil_len)))) (ss_cons (s_par (i := 1) (j := 2) rfl sc_patterns.nd (s_lst (s_nil)) (s_lst (s_cons (s_tup (s_cons (s_tup (s_nil)) (s_cons (s_var 0) (s_nil)))) (s_nil)))) (ss_cons (s_while 1000 (passes_of rfl) (s_cmpT (o_ne (by have z := Room.u64 hr; exact z)) (s_var 2) (s_lst (s_nil))) (ss_cons (s_asg (s_mt0 PySem.F.slot_list_pop md_pop m_pop0 (s_var 2)) (g_tp rfl (gs_cons (g_nm sc_patterns.nd) (gs_cons (g_nm sc_patterns.nd) (gs_nil))))) (ss_cons (s_set (i := 5) sc_patterns.nd (s_ifE (s_truth (s_var 3)) (s_callB (k_min rfl) rfl T.n_min (by decide +kernel) (s_cons (s_var 4) (s_cons (s_ix i_ix (s_var 3) (s_un o_neg (s_int))) (s_nil)))) (s_var 4))) (ss_one (s_for (tp := false) (passes_of rfl) rfl (it_range2 T.n_range (s_glob (v := .int 2) (d := .int 2) rfl c_LEAST_GROUP ⟨_, rfl⟩ (fun _ _ => by simp only [RD])) (s_op o_add (s_var 5) (s_int))) (g_nm sc_patterns.nd) (ss_cons (s_drop (s_mtL PySem.F.slot_list_append md_append m_append (s_var 1) (s_cons (s_op o_add (s_var 3) (s_tup (s_cons (s_var 6) (s_nil)))) (s_nil)))) (ss_one (s_drop (s_mtL PySem.F.slot_list_append md_append m_append (s_var 2) (s_cons (s_tup (s_cons (s_op o_add (s_var 3) (s_tup (s_cons (s_var 6) (s_nil)))) (s_cons (s_op o_sub (s_var 4) (s_var 6)) (s_nil)))) (s_nil))))))))))) (ss_one (s_ret (s_callTy k_tuple rfl T.n_tuple (by decide +kernel) (s_cons (s_callB (k_srt (by have z := Room.u64 hr; exact z) rfl) rfl T.n_sorted (by decide +kernel) (s_cons (s_var 1) (s_nil))) (s_nil)))))))
theorem ok_is_number (T : Tx P K mg) {f : Addr} {fd : FuncData} (F : FT K mg "is_number" "is_number" st_is_number ps_is_number f fd) : FnOk P w K mg base (L2.CX P w) 1 f fd ps_is_number (spOf ⟨K, mg⟩ 1 m_is_number) := by
  exact fn_ok (k := 0) F.fn sc_is_number fun cdv A outer s H E hr => by
    show SSs _ _ (defBody st_is_number) (b_is_number)
    unfold b_is_number
    exact ss_one (s_ret (s_andV (s_callB k_isi rfl T.n_isinstance (by decide +kernel) (s_cons (s_var 0) (s_cons (s_ty T.n_int rfl (by decide +kernel)) (s_nil)))) (s_oneV (s_notV (s_callB k_isi rfl T.n_isinstance (by decide +kernel) (s_cons (s_var 0) (s_cons (s_ty T.n_bool rfl (by decide +kernel)) (s_nil))))))))
theorem ok_is_pattern (T : Tx P K mg) {f : Addr} {fd : FuncData} (F : FT K mg "is_pattern" "is_pattern" st_is_pattern ps_is_pattern f fd) : FnOk P w K mg base (L2.CX P w) 2 f fd ps_is_pattern (spOf ⟨K, mg⟩ 1 m_is_pattern) := by
  obtain ⟨f_is_number, fd_is_number, F_is_number⟩ := T.f_is_number
  have G_is_number := ok_is_number (w := w) (base := base) T F_is_number
  obtain ⟨t_LEAST_GROUP, c_LEAST_GROUP⟩ := T.c_LEAST_GROUP
  exact fn_ok (k := 1) F.fn sc_is_pattern fun cdv A outer s H E hr => by
    show SSs _ _ (defBody st_is_pattern) (b_is_pattern)
    unfold b_is_pattern
    exact ss_cons (s_if (s_pw (s_or (s_not (s_truth (s_callB k_isi rfl T.n_isinstance (by decide +kernel) (s_cons (s_var 0) (s_cons (s_ty T.n_tuple rfl (by decide +kernel)) (s_nil)))))) (s_or1 (s_not (s_truth (s_callB (k_all rfl) rfl T.n_all (by decide +kernel) (s_cons (s_comp (own := [("size", 2)]) rfl sc_is_pattern.nd (it_seq (s_var 0)) (by first | (show blkC N_is_pattern (defScope st_is_pattern) _ _ = true; decide +kernel) | rfl) (fun _ _ _ _ _ => g_nm sc_is_pattern.nd) (fun _ _ _ _ _ => ts_nil) (fun _ _ _ _ _ => s_andV (s_call G_is_number (Room.mono hr (by first | decide | omega)) F_is_number.g F_is_number.k F_is_number.b takes0 (s_cons (s_var 2) (s_nil)) (cons_len (fun _ _ _ _ => nil_len))) (s_oneV (s_cmp o_ge (s_var 2) (s_glob (v := .int 2) (d := .int 2) rfl c_LEAST_GROUP ⟨_, rfl⟩ (fun _ _ => by simp only [RD])))))) (s_nil)))))))) (ss_one (s_ret (s_bl))) (ss_nil)) (ss_one (s_ret (s_callB (k_all rfl) rfl T.n_all (by decide +kernel) (s_cons (s_comp (own := [("at", 1)]) rfl sc_is_pattern.nd (it_range2 T.n_range (s_int) (s_callB k_len rfl T.n_len (by decide +kernel) (s_cons (s_var 0) (s_nil)))) (by first | (show blkC N_is_pattern (defScope st_is_pattern) _ _ = true; decide +kernel) | rfl) (fun _ _ _ _ _ => g_nm sc_is_pattern.nd) (fun _ _ _ _ _ => ts_nil) (fun _ _ _ _ _ => s_cmp o_ge (s_ix i_ix (s_var 0) (s_op o_sub (s_var 1) (s_int))) (s_ix i_ix (s_var 0) (s_var 1)))) (s_nil)))))
theorem ok_want_pattern (T : Tx P K mg) {f : Addr} {fd : FuncData} (F : FT K mg "want_pattern" "want_pattern" st_want_pattern ps_want_pattern f fd) : FnOk P w K mg base (L2.CX P w) 3 f fd ps_want_pattern (spOf ⟨K, mg⟩ 1 m_want_pattern) := by
  obtain ⟨f_is_pattern, fd_is_pattern, F_is_pattern⟩ := T.f_is_pattern
  have G_is_pattern := ok_is_pattern (w := w) (base := base) T F_is_pattern
  obtain ⟨D_, fI_, cc_, ER, EB, ⟨C_BadSize, E_BadSize⟩, ⟨C_BadBirth, E_BadBirth⟩, ⟨C_BadDay, E_BadDay⟩, ⟨C_TooFew, E_TooFew⟩, ⟨C_BadCount, E_BadCount⟩, ⟨C_Unlike, E_Unlike⟩⟩ := T.er
  exact fn_ok (k := 2) F.fn sc_want_pattern fun cdv A outer s H E hr => by
    show SSs _ _ (defBody st_want_pattern) (b_want_pattern)
    unfold b_want_pattern
    exact ss_one (s_if (s_not (s_truth (s_call G_is_pattern (Room.mono hr (by first | decide | omega)) F_is_pattern.g F_is_pattern.k F_is_pattern.b (takes_of rfl rfl rfl rfl) (s_cons (s_var 0) (s_nil)) (cons_len (fun _ _ _ _ => nil_len))))) (ss_one (s_raise rfl EB E_BadDay (Room.mono hr (by first | decide | omega : 0 ≤ _)) (takes_of rfl rfl rfl rfl) (s_int))) (ss_nil))
theorem ok_less (T : Tx P K mg) {f : Addr} {fd : FuncData} (F : FT K mg "less" "less" st_less ps_less f fd) : FnOk P w K mg base (L2.CX P w) 4 f fd ps_less (spOf ⟨K, mg⟩ 1 m_less) := by
  obtain ⟨f_want_pattern, fd_want_pattern, F_want_pattern⟩ := T.f_want_pattern
  have G_want_pattern := ok_want_pattern (w := w) (base := base) T F_want_pattern
  exact fn_ok (k := 3) F.fn sc_less fun cdv A outer s H E hr => by
    show SSs _ _ (defBody st_less) (b_less)
    unfold b_less
    exact ss_cons (s_drop (s_call G_want_pattern (Room.mono hr (by first | decide | omega)) F_want_pattern.g F_want_pattern.k F_want_pattern.b (takes_of rfl rfl rfl rfl) (s_cons (s_var 0) (s_nil)) (cons_len (fun _ _ _ _ => nil_len)))) (ss_one (s_ret (s_op o_sub (s_callB (k_sum rfl) rfl T.n_sum (by decide +kernel) (s_cons (s_var 0) (s_nil))) (s_callB k_len rfl T.n_len (by decide +kernel) (s_cons (s_var 0) (s_nil))))))
theorem ok_counts_to (T : Tx P K mg) {f : Addr} {fd : FuncData} (F : FT K mg "counts_to" "counts_to" st_counts_to ps_counts_to f fd) : FnOk P w K mg base (L2.CX P w) 5 f fd ps_counts_to (spOf ⟨K, mg⟩ 1 m_counts_to) := by
  obtain ⟨f_patterns, fd_patterns, F_patterns⟩ := T.f_patterns
  have G_patterns := ok_patterns (w := w) (base := base) T F_patterns
  obtain ⟨f_less, fd_less, F_less⟩ := T.f_less
  have G_less := ok_less (w := w) (base := base) T F_less
  exact fn_ok (k := 4) F.fn sc_counts_to fun cdv A outer s H E hr => by
    show SSs _ _ (defBody st_counts_to) (b_counts_to)
    unfold b_counts_to
    exact ss_cons (s_set (i := 1) sc_counts_to.nd (s_lst (s_cons (s_int) (s_cons (s_int) (s_nil))))) (ss_cons (s_for (tp := false) (passes_of rfl) rfl (it_range2 T.n_range (s_int) (s_op o_add (s_var 0) (s_int))) (g_nm sc_counts_to.nd) (ss_one (s_drop (s_mtL PySem.F.slot_list_append md_append m_append (s_var 1) (s_cons (s_callB (k_sum rfl) rfl T.n_sum (by decide +kernel) (s_cons (s_comp (own := [("pattern", 3)]) rfl sc_counts_to.nd (it_seq (s_call G_patterns (Room.mono hr (by first | decide | omega)) F_patterns.g F_patterns.k F_patterns.b (takes_of rfl rfl rfl rfl) (s_cons (s_var 2) (s_nil)) (cons_len (fun _ _ _ _ => nil_len)))) (by first | (show blkC N_counts_to (defScope st_counts_to) _ _ = true; decide +kernel) | rfl) (fun _ _ _ _ _ => g_nm sc_counts_to.nd) (fun _ _ _ _ _ => ts_nil) (fun _ _ _ _ _ => s_ix i_ix (s_var 1) (s_op o_sub (s_var 2) (s_call G_less (Room.mono hr (by first | decide | omega)) F_less.g F_less.k F_less.b takes0 (s_cons (s_var 3) (s_nil)) (cons_len (fun _ _ _ _ => nil_len)))))) (s_nil))) (s_nil)))))) (ss_one (s_ret (s_var 1))))
theorem ok_calendars_count (T : Tx P K mg) {f : Addr} {fd : FuncData} (F : FT K mg "calendars_count" "calendars_count" st_calendars_count ps_calendars_count f fd) : FnOk P w K mg base (L2.CX P w) 6 f fd ps_calendars_count (spOf ⟨K, mg⟩ 1 m_calendars_count) := by
  obtain ⟨f_want_leaves, fd_want_leaves, F_want_leaves⟩ := T.f_want_leaves
  have G_want_leaves := ok_want_leaves (w := w) (base := base) T F_want_leaves
  obtain ⟨f_counts_to, fd_counts_to, F_counts_to⟩ := T.f_counts_to
  have G_counts_to := ok_counts_to (w := w) (base := base) T F_counts_to
  exact fn_ok (k := 5) F.fn sc_calendars_count fun cdv A outer s H E hr => by
    show SSs _ _ (defBody st_calendars_count) (b_calendars_count)
    unfold b_calendars_count
    exact ss_cons (s_drop (s_call G_want_leaves (Room.mono hr (by first | decide | omega)) F_want_leaves.g F_want_leaves.k F_want_leaves.b (takes_of rfl rfl rfl rfl) (s_cons (s_var 0) (s_nil)) (cons_len (fun _ _ _ _ => nil_len)))) (ss_one (s_ret (s_ix i_ix (s_call G_counts_to (Room.mono hr (by first | decide | omega)) F_counts_to.g F_counts_to.k F_counts_to.b (takes_of rfl rfl rfl rfl) (s_cons (s_var 0) (s_nil)) (cons_len (fun _ _ _ _ => nil_len))) (s_var 0))))
theorem ok_made (T : Tx P K mg) {f : Addr} {fd : FuncData} (F : FT K mg "made" "made" st_made ps_made f fd) : FnOk P w K mg base (L2.CX P w) 3 f fd ps_made (spOf ⟨K, mg⟩ 2 m_made) := by
  obtain ⟨CC, CI, CD, CT, CFn, CB⟩ := T.ca
  have CF := ini_ok (P := P) (w := w) (base := base) (k := 0) CFn CT sc_ini rfl (by decide +kernel)
  exact fn_ok (k := 2) F.fn sc_made fun cdv A outer s H E hr => by
    show SSs _ _ (defBody st_made) (b_made)
    unfold b_made
    exact ss_one (s_ret (s_cal CT CF (Room.mono hr (by first | decide | omega)) CB (s_cons (s_callTy k_tuple rfl T.n_tuple (by decide +kernel) (s_cons (s_var 0) (s_nil))) (s_cons (s_callTy k_tuple rfl T.n_tuple (by decide +kernel) (s_cons (s_var 1) (s_nil))) (s_nil)))))
theorem ok_nth_calendar (T : Tx P K mg) {f : Addr} {fd : FuncData} (F : FT K mg "nth_calendar" "nth_calendar" st_nth_calendar ps_nth_calendar f fd) : FnOk P w K mg base (L2.CX P w) 6 f fd ps_nth_calendar (spOf ⟨K, mg⟩ 2 m_nth_calendar) := by
  obtain ⟨f_want_leaves, fd_want_leaves, F_want_leaves⟩ := T.f_want_leaves
  have G_want_leaves := ok_want_leaves (w := w) (base := base) T F_want_leaves
  obtain ⟨f_counts_to, fd_counts_to, F_counts_to⟩ := T.f_counts_to
  have G_counts_to := ok_counts_to (w := w) (base := base) T F_counts_to
  obtain ⟨f_patterns, fd_patterns, F_patterns⟩ := T.f_patterns
  have G_patterns := ok_patterns (w := w) (base := base) T F_patterns
  obtain ⟨f_less, fd_less, F_less⟩ := T.f_less
  have G_less := ok_less (w := w) (base := base) T F_less
  obtain ⟨f_made, fd_made, F_made⟩ := T.f_made
  have G_made := ok_made (w := w) (base := base) T F_made
  obtain ⟨D_, fI_, cc_, ER, EB, ⟨C_BadSize, E_BadSize⟩, ⟨C_BadBirth, E_BadBirth⟩, ⟨C_BadDay, E_BadDay⟩, ⟨C_TooFew, E_TooFew⟩, ⟨C_BadCount, E_BadCount⟩, ⟨C_Unlike, E_Unlike⟩⟩ := T.er
  exact fn_ok (k := 5) F.fn sc_nth_calendar fun cdv A outer s H E hr => by
    show SSs _ _ (defBody st_nth_calendar) (b_nth_calendar)
    unfold b_nth_calendar
    exact ss_cons (s_drop (s_call G_want_leaves (Room.mono hr (by first | decide | omega)) F_want_leaves.g F_want_leaves.k F_want_leaves.b (takes_of rfl rfl rfl rfl) (s_cons (s_var 0) (s_nil)) (cons_len (fun _ _ _ _ => nil_len)))) (ss_cons (s_set (i := 2) sc_nth_calendar.nd (s_call G_counts_to (Room.mono hr (by first | decide | omega)) F_counts_to.g F_counts_to.k F_counts_to.b (takes_of rfl rfl rfl rfl) (s_cons (s_var 0) (s_nil)) (cons_len (fun _ _ _ _ => nil_len)))) (ss_cons (s_if (s_not (s_chainT o_le o_lt (s_int) (s_var 1) (s_ix i_ix (s_var 2) (s_var 0)))) (ss_one (s_raise rfl EB E_BadCount (Room.mono hr (by first | decide | omega : 0 ≤ _)) (takes_of rfl rfl rfl rfl) (s_var 1))) (ss_nil)) (ss_cons (s_par3 (i := 3) (j := 4) (l := 5) rfl sc_nth_calendar.nd (s_var 0) (s_var 1) (s_lst (s_nil))) (ss_cons (s_while 1000 (passes_of rfl) (s_cmpT o_gt (s_var 3) (s_int)) (ss_cons (s_for (tp := false) (passes_of rfl) rfl (it_seq (s_call G_patterns (Room.mono hr (by first | decide | omega)) F_patterns.g F_patterns.k F_patterns.b (takes_of rfl rfl rfl rfl) (s_cons (s_var 3) (s_nil)) (cons_len (fun _ _ _ _ => nil_len)))) (g_nm sc_nth_calendar.nd) (ss_cons (s_set (i := 7) sc_nth_calendar.nd (s_ix i_ix (s_var 2) (s_op o_sub (s_var 3) (s_call G_less (Room.mono hr (by first | decide | omega)) F_less.g F_less.k F_less.b (takes_of rfl rfl rfl rfl) (s_cons (s_var 6) (s_nil)) (cons_len (fun _ _ _ _ => nil_len)))))) (ss_cons (s_if (s_cmpT o_lt (s_var 4) (s_var 7)) (ss_one (s_brk)) (ss_nil)) (ss_one (s_aug sc_nth_calendar.nd ip_subI (s_var 7)))))) (ss_cons (s_drop (s_mtL PySem.F.slot_list_append md_append m_append (s_var 5) (s_cons (s_var 6) (s_nil)))) (ss_one (s_aug sc_nth_calendar.nd ip_subI (s_call G_less (Room.mono hr (by first | decide | omega)) F_less.g F_less.k F_less.b (takes_of rfl rfl rfl rfl) (s_cons (s_var 6) (s_nil)) (cons_len (fun _ _ _ _ => nil_len)))))))) (ss_one (s_ret (s_call G_made (Room.mono hr (by first | decide | omega)) F_made.g F_made.k F_made.b (takes_of rfl rfl rfl rfl) (s_cons (s_op o_mul (s_tup (s_cons (s_int) (s_nil))) (s_var 0)) (s_cons (s_callTy k_tuple rfl T.n_tuple (by decide +kernel) (s_cons (s_var 5) (s_nil))) (s_nil))) (cons_len (cons_len (fun _ _ _ _ => nil_len))))))))))
theorem ok_counts_of (T : Tx P K mg) {f : Addr} {fd : FuncData} (F : FT K mg "counts_of" "counts_of" st_counts_of ps_counts_of f fd) : FnOk P w K mg base (L2.CX P w) 1 f fd ps_counts_of (spOf ⟨K, mg⟩ 2 m_counts_of) := by
  exact fn_ok (k := 0) F.fn sc_counts_of fun cdv A outer s H E hr => by
    show SSs _ _ (defBody st_counts_of) (b_counts_of)
    unfold b_counts_of
    exact ss_cons (s_par (i := 2) (j := 3) rfl sc_counts_of.nd (s_lst (s_nil)) (s_int)) (ss_cons (s_for (tp := true) (passes_of rfl) rfl (it_enum T.n_enumerate (s_var 1)) (g_tp rfl (gs_cons (g_nm sc_counts_of.nd) (gs_cons (g_nm sc_counts_of.nd) (gs_nil)))) (ss_cons (s_set (i := 3) sc_counts_of.nd (s_op o_add (s_var 3) (s_count (by have z := Room.u65 hr; exact z) (s_var 0) (s_cons (s_var 4) (s_nil))))) (ss_cons (s_drop (s_mtL PySem.F.slot_list_append md_append m_append (s_var 2) (s_cons (s_var 3) (s_nil)))) (ss_one (s_set (i := 3) sc_counts_of.nd (s_op o_add (s_op o_sub (s_var 3) (s_callB (k_sum rfl) rfl T.n_sum (by decide +kernel) (s_cons (s_var 5) (s_nil)))) (s_callB k_len rfl T.n_len (by decide +kernel) (s_cons (s_var 5) (s_nil))))))))) (ss_one (s_ret (s_op o_add (s_var 2) (s_lst (s_cons (s_op o_add (s_var 3) (s_count (by have z := Room.u65 hr; exact z) (s_var 0) (s_cons (s_callB k_len rfl T.n_len (by decide +kernel) (s_cons (s_var 1) (s_nil))) (s_nil)))) (s_nil)))))))
theorem ok_counts (T : Tx P K mg) {f : Addr} {fd : FuncData} (F : FT K mg "counts" "counts" st_counts ps_counts f fd) : FnOk P w K mg base (L2.CX P w) 2 f fd ps_counts (spOf ⟨K, mg⟩ 1 m_counts) := by
  obtain ⟨f_counts_of, fd_counts_of, F_counts_of⟩ := T.f_counts_of
  have G_counts_of := ok_counts_of (w := w) (base := base) T F_counts_of
  obtain ⟨CC, CI, CD, CT, CFn, CB⟩ := T.ca
  exact fn_ok (k := 1) F.fn sc_counts fun cdv A outer s H E hr => by
    show SSs _ _ (defBody st_counts) (b_counts)
    unfold b_counts
    exact ss_one (s_ret (s_call G_counts_of (Room.mono hr (by first | decide | omega)) F_counts_of.g F_counts_of.k F_counts_of.b (takes_of rfl rfl rfl rfl) (s_cons (s_fld CT.gC CT.cls CT.noB (s_var 0)) (s_cons (s_fld CT.gC CT.cls CT.noD (s_var 0)) (s_nil))) (cons_len (cons_len (fun _ _ _ _ => nil_len)))))
theorem ok_ends (T : Tx P K mg) {f : Addr} {fd : FuncData} (F : FT K mg "ends" "ends" st_ends ps_ends f fd) : FnOk P w K mg base (L2.CX P w) 3 f fd ps_ends (spOf ⟨K, mg⟩ 1 m_ends) := by
  obtain ⟨f_counts, fd_counts, F_counts⟩ := T.f_counts
  have G_counts := ok_counts (w := w) (base := base) T F_counts
  exact fn_ok (k := 2) F.fn sc_ends fun cdv A outer s H E hr => by
    show SSs _ _ (defBody st_ends) (b_ends)
    unfold b_ends
    exact ss_one (s_ret (s_ix i_ix (s_call G_counts (Room.mono hr (by first | decide | omega)) F_counts.g F_counts.k F_counts.b (takes_of rfl rfl rfl rfl) (s_cons (s_var 0) (s_nil)) (cons_len (fun _ _ _ _ => nil_len))) (s_un o_neg (s_int))))
theorem ok_calendar_rank (T : Tx P K mg) {f : Addr} {fd : FuncData} (F : FT K mg "calendar_rank" "calendar_rank" st_calendar_rank ps_calendar_rank f fd) : FnOk P w K mg base (L2.CX P w) 6 f fd ps_calendar_rank (spOf ⟨K, mg⟩ 1 m_calendar_rank) := by
  obtain ⟨f_ends, fd_ends, F_ends⟩ := T.f_ends
  have G_ends := ok_ends (w := w) (base := base) T F_ends
  obtain ⟨f_counts_to, fd_counts_to, F_counts_to⟩ := T.f_counts_to
  have G_counts_to := ok_counts_to (w := w) (base := base) T F_counts_to
  obtain ⟨f_patterns, fd_patterns, F_patterns⟩ := T.f_patterns
  have G_patterns := ok_patterns (w := w) (base := base) T F_patterns
  obtain ⟨f_less, fd_less, F_less⟩ := T.f_less
  have G_less := ok_less (w := w) (base := base) T F_less
  obtain ⟨D_, fI_, cc_, ER, EB, ⟨C_BadSize, E_BadSize⟩, ⟨C_BadBirth, E_BadBirth⟩, ⟨C_BadDay, E_BadDay⟩, ⟨C_TooFew, E_TooFew⟩, ⟨C_BadCount, E_BadCount⟩, ⟨C_Unlike, E_Unlike⟩⟩ := T.er
  obtain ⟨CC, CI, CD, CT, CFn, CB⟩ := T.ca
  exact fn_ok (k := 5) F.fn sc_calendar_rank fun cdv A outer s H E hr => by
    show SSs _ _ (defBody st_calendar_rank) (b_calendar_rank)
    unfold b_calendar_rank
    exact ss_cons (s_if (s_pw (s_or (s_cmpT o_gt (s_callB (k_max rfl) rfl T.n_max (by decide +kernel) (s_cons (s_fld CT.gC CT.cls CT.noB (s_var 0)) (s_nil))) (s_int)) (s_or1 (s_cmpT (o_ne (by have z := Room.u64 hr; exact z)) (s_call G_ends (Room.mono hr (by first | decide | omega)) F_ends.g F_ends.k F_ends.b (takes_of rfl rfl rfl rfl) (s_cons (s_var 0) (s_nil)) (cons_len (fun _ _ _ _ => nil_len))) (s_int))))) (ss_one (s_raise rfl EB E_Unlike (Room.mono hr (by first | decide | omega : 0 ≤ _)) (takes_of rfl rfl rfl rfl) (s_int))) (ss_nil)) (ss_cons (s_asg (s_tup (s_cons (s_callB k_len rfl T.n_len (by decide +kernel) (s_cons (s_fld CT.gC CT.cls CT.noB (s_var 0)) (s_nil))) (s_cons (s_int) (s_nil)))) (g_tp rfl (gs_cons (g_nm sc_calendar_rank.nd) (gs_cons (g_nm sc_calendar_rank.nd) (gs_nil))))) (ss_cons (s_set (i := 3) sc_calendar_rank.nd (s_call G_counts_to (Room.mono hr (by first | decide | omega)) F_counts_to.g F_counts_to.k F_counts_to.b (takes_of rfl rfl rfl rfl) (s_cons (s_var 1) (s_nil)) (cons_len (fun _ _ _ _ => nil_len)))) (ss_cons (s_for (tp := false) (passes_of rfl) rfl (it_seq (s_fld CT.gC CT.cls CT.noD (s_var 0))) (g_nm sc_calendar_rank.nd) (ss_cons (s_aug sc_calendar_rank.nd ip_addI (s_callB (k_sum rfl) rfl T.n_sum (by decide +kernel) (s_cons (s_comp (own := [("pattern", 5)]) rfl sc_calendar_rank.nd (it_seq (s_call G_patterns (Room.mono hr (by first | decide | omega)) F_patterns.g F_patterns.k F_patterns.b (takes_of rfl rfl rfl rfl) (s_cons (s_var 1) (s_nil)) (cons_len (fun _ _ _ _ => nil_len)))) (by first | (show blkC N_calendar_rank (defScope st_calendar_rank) _ _ = true; decide +kernel) | rfl) (fun _ _ _ _ _ => g_nm sc_calendar_rank.nd) (fun _ _ _ _ _ => ts_one (s_cmpT (o_ltW (by have z := Room.u65 hr; exact z)) (s_var 5) (s_var 4))) (fun _ _ _ _ _ => s_ix i_ix (s_var 3) (s_op o_sub (s_var 1) (s_call G_less (Room.mono hr (by first | decide | omega)) F_less.g F_less.k F_less.b takes0 (s_cons (s_var 5) (s_nil)) (cons_len (fun _ _ _ _ => nil_len)))))) (s_nil)))) (ss_one (s_aug sc_calendar_rank.nd ip_subI (s_call G_less (Room.mono hr (by first | decide | omega)) F_less.g F_less.k F_less.b (takes_of rfl rfl rfl rfl) (s_cons (s_var 4) (s_nil)) (cons_len (fun _ _ _ _ => nil_len))))))) (ss_one (s_ret (s_var 2))))))
theorem ok__law_told (T : Tx P K mg) {f : Addr} {fd : FuncData} (F : FT K mg "_law_told" "_law_told" st__law_told ps__law_told f fd) : FnOk P w K mg base (L2.CX P w) 7 f fd ps__law_told (spOf ⟨K, mg⟩ 3 m__law_told) := by
  obtain ⟨f_calendars_count, fd_calendars_count, F_calendars_count⟩ := T.f_calendars_count
  have G_calendars_count := ok_calendars_count (w := w) (base := base) T F_calendars_count
  obtain ⟨f_nth_calendar, fd_nth_calendar, F_nth_calendar⟩ := T.f_nth_calendar
  have G_nth_calendar := ok_nth_calendar (w := w) (base := base) T F_nth_calendar
  obtain ⟨f_calendar_rank, fd_calendar_rank, F_calendar_rank⟩ := T.f_calendar_rank
  have G_calendar_rank := ok_calendar_rank (w := w) (base := base) T F_calendar_rank
  obtain ⟨D_, fI_, cc_, ER, EB, ⟨C_BadSize, E_BadSize⟩, ⟨C_BadBirth, E_BadBirth⟩, ⟨C_BadDay, E_BadDay⟩, ⟨C_TooFew, E_TooFew⟩, ⟨C_BadCount, E_BadCount⟩, ⟨C_Unlike, E_Unlike⟩⟩ := T.er
  have EF_ := T.ef
  exact fn_ok (k := 6) F.fn sc__law_told fun cdv A outer s H E hr => by
    show SSs _ _ (defBody st__law_told) (b__law_told)
    unfold b__law_told
    exact ss_cons (s_try rfl EF_ (takes_of rfl rfl rfl rfl) (fun W pn xe tk po => ss_one (s_if (s_cmpT (o_eq (by have z := Room.u64 hr; exact z)) (s_var 0) (s_str)) (ss_one (s_set (i := 4) sc__law_told.nd (s_callK G_calendars_count (Room.mono hr (by first | decide | omega)) F_calendars_count.g F_calendars_count.k (kbd_of (ks := ["k"]) (is := [0]) F_calendars_count.fn fun _ _ _ _ _ _ ws hl => match ws, hl with | [_], _ => rfl) tk (s_kcons (s_var 1) (s_knil)) (cons_len (fun _ _ _ _ => nil_len)) (fun xs hl => match xs, hl with | [_], _ => rfl)))) (ss_one (s_if (s_cmpT (o_eq (by have z := Room.u64 hr; exact z)) (s_var 0) (s_str)) (ss_one (s_set (i := 4) sc__law_told.nd (s_callK G_nth_calendar (Room.mono hr (by first | decide | omega)) F_nth_calendar.g F_nth_calendar.k (kbd_of (ks := ["i", "k"]) (is := [1, 0]) F_nth_calendar.fn fun _ _ _ _ _ _ ws hl => match ws, hl with | [_, _], _ => rfl) tk (s_kcons (s_var 2) (s_kcons (s_var 1) (s_knil))) (cons_len (cons_len (fun _ _ _ _ => nil_len))) (fun xs hl => match xs, hl with | [_, _], _ => rfl)))) (ss_one (s_set (i := 4) sc__law_told.nd (s_callK G_calendar_rank (Room.mono hr (by first | decide | omega)) F_calendar_rank.g F_calendar_rank.k (kbd_of (ks := ["calendar"]) (is := [0]) F_calendar_rank.fn fun _ _ _ _ _ _ ws hl => match ws, hl with | [_], _ => rfl) tk (s_kcons (s_var 1) (s_knil)) (cons_len (fun _ _ _ _ => nil_len)) (fun xs hl => match xs, hl with | [_], _ => rfl)))))))) (SCl.as (i := 3) sc__law_told.nd rfl rfl rfl (by decide) E_BadSize.gC (by decide +kernel) (fun _ _ => ss_one (s_ret (s_tup (s_cons (s_str) (s_cons (s_what) (s_nil)))))) (SCl.as (i := 3) sc__law_told.nd rfl rfl rfl (by decide) E_BadCount.gC (by decide +kernel) (fun _ _ => ss_one (s_ret (s_tup (s_cons (s_str) (s_cons (s_what) (s_nil)))))) (SCl.as (i := 3) sc__law_told.nd rfl rfl rfl (by decide) E_Unlike.gC (by decide +kernel) (fun _ _ => ss_one (s_ret (s_tup (s_cons (s_str) (s_cons (s_what) (s_nil)))))) (SCl.as (i := 3) sc__law_told.nd rfl rfl rfl (by decide) ER (by decide +kernel) (fun _ _ => ss_one (s_ret (s_tup (s_cons (s_str) (s_cons (s_what) (s_nil)))))) (SCl.nil)))))) (ss_one (s_ret (s_var 4)))
theorem ok__law_listed_right (T : Tx P K mg) {f : Addr} {fd : FuncData} (F : FT K mg "_law_listed_right" "_law_listed_right" st__law_listed_right ps__law_listed_right f fd) : FnOk P w K mg base (L2.CX P w) 83 f fd ps__law_listed_right (spOf ⟨K, mg⟩ 1 m__law_listed_right) := by
  obtain ⟨f__law_days, fd__law_days, F__law_days⟩ := T.f__law_days
  have G__law_days := ok__law_days (w := w) (base := base) T F__law_days
  obtain ⟨f__law_is_number, fd__law_is_number, F__law_is_number⟩ := T.f__law_is_number
  have G__law_is_number := ok__law_is_number (w := w) (base := base) T F__law_is_number
  obtain ⟨f__law_told, fd__law_told, F__law_told⟩ := T.f__law_told
  have G__law_told := ok__law_told (w := w) (base := base) T F__law_told
  obtain ⟨CC, CI, CD, CT, CFn, CB⟩ := T.ca
  exact fn_ok (k := 82) F.fn sc__law_listed_right fun cdv A outer s H E hr => by
    show SSs _ _ (defBody st__law_listed_right) (b__law_listed_right)
    unfold b__law_listed_right
    exact ss_cons (s_set (i := 1) sc__law_listed_right.nd (s_call G__law_days (Room.mono hr (by first | decide | omega)) F__law_days.g F__law_days.k F__law_days.b (takes_of rfl rfl rfl rfl) (s_cons (s_var 0) (s_nil)) (cons_len (fun _ _ _ _ => nil_len)))) (ss_cons (s_if (s_not (s_truth (s_call G__law_is_number (Room.mono hr (by first | decide | omega)) F__law_is_number.g F__law_is_number.k F__law_is_number.b (takes_of rfl rfl rfl rfl) (s_cons (s_call G__law_told (Room.mono hr (by first | decide | omega)) F__law_told.g F__law_told.k F__law_told.b (takes_of rfl rfl rfl rfl) (s_cons (s_str) (s_cons (s_var 0) (s_cons (s_int) (s_nil)))) (cons_len (cons_len (cons_len (fun _ _ _ _ => nil_len))))) (s_cons (s_callB k_len rfl T.n_len (by decide +kernel) (s_cons (s_var 1) (s_nil))) (s_nil))) (cons_len (cons_len (fun _ _ _ _ => nil_len)))))) (ss_one (s_ret (s_bl))) (ss_nil)) (ss_cons (s_for (tp := false) (passes_of rfl) rfl (it_range1 T.n_range (s_callB k_len rfl T.n_len (by decide +kernel) (s_cons (s_var 1) (s_nil)))) (g_nm sc__law_listed_right.nd) (ss_cons (s_set (i := 3) sc__law_listed_right.nd (s_call G__law_told (Room.mono hr (by first | decide | omega)) F__law_told.g F__law_told.k F__law_told.b (takes_of rfl rfl rfl rfl) (s_cons (s_str) (s_cons (s_var 0) (s_cons (s_var 2) (s_nil)))) (cons_len (cons_len (cons_len (fun _ _ _ _ => nil_len)))))) (ss_one (s_if (s_pw (s_or (s_cmpT (o_ne (by have z := Room.u64 hr; exact z)) (s_tup (s_cons (s_fld CT.gC CT.cls CT.noB (s_var 3)) (s_cons (s_fld CT.gC CT.cls CT.noD (s_var 3)) (s_nil)))) (s_tup (s_cons (s_op o_mul (s_tup (s_cons (s_int) (s_nil))) (s_var 0)) (s_cons (s_ix i_ix (s_var 1) (s_var 2)) (s_nil))))) (s_or1 (s_not (s_truth (s_call G__law_is_number (Room.mono hr (by first | decide | omega)) F__law_is_number.g F__law_is_number.k F__law_is_number.b (takes_of rfl rfl rfl rfl) (s_cons (s_call G__law_told (Room.mono hr (by first | decide | omega)) F__law_told.g F__law_told.k F__law_told.b (takes_of rfl rfl rfl rfl) (s_cons (s_str) (s_cons (s_var 3) (s_cons (s_int) (s_nil)))) (cons_len (cons_len (cons_len (fun _ _ _ _ => nil_len))))) (s_cons (s_var 2) (s_nil))) (cons_len (cons_len (fun _ _ _ _ => nil_len))))))))) (ss_one (s_ret (s_bl))) (ss_nil))))) (ss_one (s_ret (s_andV (s_cmp (o_eq (by have z := Room.u64 hr; exact z)) (s_call G__law_told (Room.mono hr (by first | decide | omega)) F__law_told.g F__law_told.k F__law_told.b (takes_of rfl rfl rfl rfl) (s_cons (s_str) (s_cons (s_var 0) (s_cons (s_callB k_len rfl T.n_len (by decide +kernel) (s_cons (s_var 1) (s_nil))) (s_nil)))) (cons_len (cons_len (cons_len (fun _ _ _ _ => nil_len))))) (s_tup (s_cons (s_str) (s_cons (s_callB k_len rfl T.n_len (by decide +kernel) (s_cons (s_var 1) (s_nil))) (s_nil))))) (s_oneV (s_cmp (o_eq (by have z := Room.u64 hr; exact z)) (s_call G__law_told (Room.mono hr (by first | decide | omega)) F__law_told.g F__law_told.k F__law_told.b (takes_of rfl rfl rfl rfl) (s_cons (s_str) (s_cons (s_var 0) (s_cons (s_un o_neg (s_int)) (s_nil)))) (cons_len (cons_len (cons_len (fun _ _ _ _ => nil_len))))) (s_tup (s_cons (s_str) (s_cons (s_un o_neg (s_int)) (s_nil)))))))))))
theorem ok__law_take (T : Tx P K mg) {f : Addr} {fd : FuncData} (F : FT K mg "_law_take" "_law_take" st__law_take ps__law_take f fd) : FnOk P w K mg base (L2.CX P w) 1 f fd ps__law_take (spOf ⟨K, mg⟩ 2 m__law_take) := by
  exact fn_ok (k := 0) F.fn sc__law_take fun cdv A outer s H E hr => by
    show SSs _ _ (defBody st__law_take) (b__law_take)
    unfold b__law_take
    exact ss_cons (s_if (s_cmpT o_gt (s_ix i_ix (s_var 0) (s_int)) (s_int)) (ss_cons (s_set (i := 2) sc__law_take.nd (s_op o_mod (s_callTy k_int rfl T.n_int (by decide +kernel) (s_cons (s_ix i_ix (s_var 0) (s_int)) (s_nil))) (s_var 1))) (ss_cons (s_setIx (s_op o_div (s_ix i_ix (s_var 0) (s_int)) (s_var 1)) (s_var 0) (s_int)) (ss_one (s_ret (s_var 2))))) (ss_nil)) (ss_cons (s_setIx (s_op o_mod (s_callTy k_int rfl T.n_int (by decide +kernel) (s_cons (s_op o_add (s_op o_mul (s_ix i_ix (s_var 0) (s_int)) (s_int)) (s_int)) (s_nil))) (s_int)) (s_var 0) (s_int)) (ss_one (s_ret (s_op o_mod (s_callTy k_int rfl T.n_int (by decide +kernel) (s_cons (s_op o_div (s_op o_mod (s_callTy k_int rfl T.n_int (by decide +kernel) (s_cons (s_op o_mul (s_ix i_ix (s_var 0) (s_int)) (s_ix i_ix (s_var 0) (s_int))) (s_nil))) (s_int)) (s_int)) (s_nil))) (s_var 1)))))
theorem ok__law_one (T : Tx P K mg) {f : Addr} {fd : FuncData} (F : FT K mg "_law_one" "_law_one" st__law_one ps__law_one f fd) : FnOk P w K mg base (L2.CX P w) 2 f fd ps__law_one (spOf ⟨K, mg⟩ 2 m__law_one) := by
  obtain ⟨f__law_take, fd__law_take, F__law_take⟩ := T.f__law_take
  have G__law_take := ok__law_take (w := w) (base := base) T F__law_take
  exact fn_ok (k := 1) F.fn sc__law_one fun cdv A outer s H E hr => by
    show SSs _ _ (defBody st__law_one) (b__law_one)
    unfold b__law_one
    exact ss_one (s_ret (s_ix i_ix (s_var 1) (s_call G__law_take (Room.mono hr (by first | decide | omega)) F__law_take.g F__law_take.k F__law_take.b (takes_of rfl rfl rfl rfl) (s_cons (s_var 0) (s_cons (s_callB k_len rfl T.n_len (by decide +kernel) (s_cons (s_var 1) (s_nil))) (s_nil))) (cons_len (cons_len (fun _ _ _ _ => nil_len))))))
theorem ok_made_calendar (T : Tx P K mg) {f : Addr} {fd : FuncData} (F : FT K mg "made_calendar" "made_calendar" st_made_calendar ps_made_calendar f fd) : FnOk P w K mg base (L2.CX P w) 3 f fd ps_made_calendar (spOf ⟨K, mg⟩ 2 m_made_calendar) := by
  obtain ⟨f_is_pattern, fd_is_pattern, F_is_pattern⟩ := T.f_is_pattern
  have G_is_pattern := ok_is_pattern (w := w) (base := base) T F_is_pattern
  obtain ⟨f_is_number, fd_is_number, F_is_number⟩ := T.f_is_number
  have G_is_number := ok_is_number (w := w) (base := base) T F_is_number
  obtain ⟨f_counts_of, fd_counts_of, F_counts_of⟩ := T.f_counts_of
  have G_counts_of := ok_counts_of (w := w) (base := base) T F_counts_of
  obtain ⟨t_MOST_DAYS, c_MOST_DAYS⟩ := T.c_MOST_DAYS
  obtain ⟨t_MOST_LEAVES, c_MOST_LEAVES⟩ := T.c_MOST_LEAVES
  obtain ⟨D_, fI_, cc_, ER, EB, ⟨C_BadSize, E_BadSize⟩, ⟨C_BadBirth, E_BadBirth⟩, ⟨C_BadDay, E_BadDay⟩, ⟨C_TooFew, E_TooFew⟩, ⟨C_BadCount, E_BadCount⟩, ⟨C_Unlike, E_Unlike⟩⟩ := T.er
  obtain ⟨CC, CI, CD, CT, CFn, CB⟩ := T.ca
  have CF := ini_ok (P := P) (w := w) (base := base) (k := 0) CFn CT sc_ini rfl (by decide +kernel)
  exact fn_ok (k := 2) F.fn sc_made_calendar fun cdv A outer s H E hr => by
    show SSs _ _ (defBody st_made_calendar) (b_made_calendar)
    unfold b_made_calendar
    exact ss_cons (s_if (s_not (s_chainT o_le o_le (s_int) (s_callB k_len rfl T.n_len (by decide +kernel) (s_cons (s_var 0) (s_nil))) (s_glob (v := .int 12) (d := .int 12) rfl c_MOST_LEAVES ⟨_, rfl⟩ (fun _ _ => by simp only [RD])))) (ss_one (s_raise rfl EB E_BadSize (Room.mono hr (by first | decide | omega : 0 ≤ _)) (takes_of rfl rfl rfl rfl) (s_callB k_len rfl T.n_len (by decide +kernel) (s_cons (s_var 0) (s_nil))))) (ss_nil)) (ss_cons (s_if (s_cmpT o_gt (s_callB k_len rfl T.n_len (by decide +kernel) (s_cons (s_var 1) (s_nil))) (s_glob (v := .int 11) (d := .int 11) rfl c_MOST_DAYS ⟨_, rfl⟩ (fun _ _ => by simp only [RD]))) (ss_one (s_raise rfl EB E_BadDay (Room.mono hr (by first | decide | omega : 0 ≤ _)) (takes_of rfl rfl rfl rfl) (s_callB k_len rfl T.n_len (by decide +kernel) (s_cons (s_var 1) (s_nil))))) (ss_nil)) (ss_cons (s_for (tp := true) (passes_of rfl) rfl (it_enum T.n_enumerate (s_var 1)) (g_tp rfl (gs_cons (g_nm sc_made_calendar.nd) (gs_cons (g_nm sc_made_calendar.nd) (gs_nil)))) (ss_one (s_if (s_pw (s_or (s_not (s_truth (s_call G_is_pattern (Room.mono hr (by first | decide | omega)) F_is_pattern.g F_is_pattern.k F_is_pattern.b (takes_of rfl rfl rfl rfl) (s_cons (s_var 3) (s_nil)) (cons_len (fun _ _ _ _ => nil_len))))) (s_or1 (s_cmpT (o_eq (by have z := Room.u64 hr; exact z)) (s_var 3) (s_tup (s_nil)))))) (ss_one (s_raise rfl EB E_BadDay (Room.mono hr (by first | decide | omega : 0 ≤ _)) (takes_of rfl rfl rfl rfl) (s_var 2))) (ss_nil)))) (ss_cons (s_for (tp := true) (passes_of rfl) rfl (it_enum T.n_enumerate (s_var 0)) (g_tp rfl (gs_cons (g_nm sc_made_calendar.nd) (gs_cons (g_nm sc_made_calendar.nd) (gs_nil)))) (ss_one (s_if (s_pw (s_or (s_not (s_truth (s_call G_is_number (Room.mono hr (by first | decide | omega)) F_is_number.g F_is_number.k F_is_number.b (takes_of rfl rfl rfl rfl) (s_cons (s_var 5) (s_nil)) (cons_len (fun _ _ _ _ => nil_len))))) (s_or1 (s_not (s_chainT o_le o_le (s_int) (s_var 5) (s_callB k_len rfl T.n_len (by decide +kernel) (s_cons (s_var 1) (s_nil)))))))) (ss_one (s_raise rfl EB E_BadBirth (Room.mono hr (by first | decide | omega : 0 ≤ _)) (takes_of rfl rfl rfl rfl) (s_var 4))) (ss_nil)))) (ss_cons (s_set (i := 6) sc_made_calendar.nd (s_call G_counts_of (Room.mono hr (by first | decide | omega)) F_counts_of.g F_counts_of.k F_counts_of.b (takes_of rfl rfl rfl rfl) (s_cons (s_var 0) (s_cons (s_var 1) (s_nil))) (cons_len (cons_len (fun _ _ _ _ => nil_len))))) (ss_cons (s_for (tp := true) (passes_of rfl) rfl (it_enum T.n_enumerate (s_var 1)) (g_tp rfl (gs_cons (g_nm sc_made_calendar.nd) (gs_cons (g_nm sc_made_calendar.nd) (gs_nil)))) (ss_one (s_if (s_cmpT o_gt (s_callB (k_sum rfl) rfl T.n_sum (by decide +kernel) (s_cons (s_var 3) (s_nil))) (s_ix i_ix (s_var 6) (s_var 2))) (ss_one (s_raise rfl EB E_TooFew (Room.mono hr (by first | decide | omega : 0 ≤ _)) (takes_of rfl rfl rfl rfl) (s_var 2))) (ss_nil)))) (ss_one (s_ret (s_cal CT CF (Room.mono hr (by first | decide | omega)) CB (s_cons (s_var 0) (s_cons (s_var 1) (s_nil)))))))))))
theorem ok_law (T : Tx P K mg) {f : Addr} {fd : FuncData} (F : FT K mg "law" "law" st_law ps_law f fd) : FnOk P w K mg base (L2.CX P w) 84 f fd ps_law (spOf ⟨K, mg⟩ 1 m_law) := by
  obtain ⟨f__law_numbers, fd__law_numbers, F__law_numbers⟩ := T.f__law_numbers
  have G__law_numbers := ok__law_numbers (w := w) (base := base) T F__law_numbers
  obtain ⟨f__law_pool, fd__law_pool, F__law_pool⟩ := T.f__law_pool
  have G__law_pool := ok__law_pool (w := w) (base := base) T F__law_pool
  obtain ⟨f__law_listed_right, fd__law_listed_right, F__law_listed_right⟩ := T.f__law_listed_right
  have G__law_listed_right := ok__law_listed_right (w := w) (base := base) T F__law_listed_right
  obtain ⟨f__law_one, fd__law_one, F__law_one⟩ := T.f__law_one
  have G__law_one := ok__law_one (w := w) (base := base) T F__law_one
  obtain ⟨f__law_take, fd__law_take, F__law_take⟩ := T.f__law_take
  have G__law_take := ok__law_take (w := w) (base := base) T F__law_take
  obtain ⟨f__law_told, fd__law_told, F__law_told⟩ := T.f__law_told
  have G__law_told := ok__law_told (w := w) (base := base) T F__law_told
  obtain ⟨f__law_is_number, fd__law_is_number, F__law_is_number⟩ := T.f__law_is_number
  have G__law_is_number := ok__law_is_number (w := w) (base := base) T F__law_is_number
  obtain ⟨f_made_calendar, fd_made_calendar, F_made_calendar⟩ := T.f_made_calendar
  have G_made_calendar := ok_made_calendar (w := w) (base := base) T F_made_calendar
  obtain ⟨CC, CI, CD, CT, CFn, CB⟩ := T.ca
  exact fn_ok (k := 83) F.fn sc_law fun cdv A outer s H E hr => by
    show SSs _ _ (defBody st_law) (b_law)
    unfold b_law
    exact ss_cons (s_set (i := 1) sc_law.nd (s_call0 G__law_numbers (Room.mono hr (by first | decide | omega)) F__law_numbers.g F__law_numbers.k F__law_numbers.b (takes_of rfl rfl rfl rfl))) (ss_cons (s_for (tp := false) (passes_of rfl) rfl (it_range1 T.n_range (s_callB (k_max rfl) rfl T.n_max (by decide +kernel) (s_cons (s_int) (s_cons (s_callB (k_min rfl) rfl T.n_min (by decide +kernel) (s_cons (s_callB k_len rfl T.n_len (by decide +kernel) (s_cons (s_var 0) (s_nil))) (s_cons (s_int) (s_nil)))) (s_nil))))) (g_nm sc_law.nd) (ss_cons (s_set (i := 3) sc_law.nd (s_call G__law_pool (Room.mono hr (by first | decide | omega)) F__law_pool.g F__law_pool.k F__law_pool.b (takes_of rfl rfl rfl rfl) (s_cons (s_var 0) (s_cons (s_var 2) (s_nil))) (cons_len (cons_len (fun _ _ _ _ => nil_len))))) (ss_cons (s_if (s_not (s_truth (s_call G__law_listed_right (Room.mono hr (by first | decide | omega)) F__law_listed_right.g F__law_listed_right.k F__law_listed_right.b (takes_of rfl rfl rfl rfl) (s_cons (s_call G__law_one (Room.mono hr (by first | decide | omega)) F__law_one.g F__law_one.k F__law_one.b (takes_of rfl rfl rfl rfl) (s_cons (s_var 3) (s_cons (s_lst (s_cons (s_int) (s_cons (s_int) (s_cons (s_int) (s_cons (s_int) (s_cons (s_int) (s_cons (s_int) (s_cons (s_int) (s_nil))))))))) (s_nil))) (cons_len (cons_len (fun _ _ _ _ => nil_len)))) (s_nil)) (cons_len (fun _ _ _ _ => nil_len))))) (ss_one (s_ret (s_bl))) (ss_nil)) (ss_cons (s_set (i := 4) sc_law.nd (s_call G__law_one (Room.mono hr (by first | decide | omega)) F__law_one.g F__law_one.k F__law_one.b (takes_of rfl rfl rfl rfl) (s_cons (s_var 3) (s_cons (s_lst (s_cons (s_int) (s_cons (s_int) (s_cons (s_int) (s_cons (s_int) (s_cons (s_int) (s_cons (s_int) (s_cons (s_int) (s_nil))))))))) (s_nil))) (cons_len (cons_len (fun _ _ _ _ => nil_len))))) (ss_cons (s_set (i := 5) sc_law.nd (s_call G__law_take (Room.mono hr (by first | decide | omega)) F__law_take.g F__law_take.k F__law_take.b (takes_of rfl rfl rfl rfl) (s_cons (s_var 3) (s_cons (s_op o_sub (s_ix i_ix (s_var 1) (s_var 4)) (s_int)) (s_nil))) (cons_len (cons_len (fun _ _ _ _ => nil_len))))) (ss_cons (s_par (i := 6) (j := 7) rfl sc_law.nd (s_call G__law_told (Room.mono hr (by first | decide | omega)) F__law_told.g F__law_told.k F__law_told.b (takes_of rfl rfl rfl rfl) (s_cons (s_str) (s_cons (s_var 4) (s_cons (s_var 5) (s_nil)))) (cons_len (cons_len (cons_len (fun _ _ _ _ => nil_len))))) (s_call G__law_told (Room.mono hr (by first | decide | omega)) F__law_told.g F__law_told.k F__law_told.b (takes_of rfl rfl rfl rfl) (s_cons (s_str) (s_cons (s_var 4) (s_cons (s_op o_add (s_var 5) (s_int)) (s_nil)))) (cons_len (cons_len (cons_len (fun _ _ _ _ => nil_len)))))) (ss_cons (s_if (s_pw (s_or (s_not (s_truth (s_call G__law_is_number (Room.mono hr (by first | decide | omega)) F__law_is_number.g F__law_is_number.k F__law_is_number.b (takes_of rfl rfl rfl rfl) (s_cons (s_call G__law_told (Room.mono hr (by first | decide | omega)) F__law_told.g F__law_told.k F__law_told.b (takes_of rfl rfl rfl rfl) (s_cons (s_str) (s_cons (s_var 4) (s_cons (s_int) (s_nil)))) (cons_len (cons_len (cons_len (fun _ _ _ _ => nil_len))))) (s_cons (s_ix i_ix (s_var 1) (s_var 4)) (s_nil))) (cons_len (cons_len (fun _ _ _ _ => nil_len)))))) (s_or (s_cmpT (o_geW (by have z := Room.u65 hr; exact z)) (s_fld CT.gC CT.cls CT.noD (s_var 6)) (s_fld CT.gC CT.cls CT.noD (s_var 7))) (s_or1 (s_cmpT (o_ne (by have z := Room.u64 hr; exact z)) (s_fld CT.gC CT.cls CT.noB (s_var 7)) (s_op o_mul (s_tup (s_cons (s_int) (s_nil))) (s_var 4))))))) (ss_one (s_ret (s_bl))) (ss_nil)) (ss_cons (s_if (s_not (s_truth (s_call G__law_is_number (Room.mono hr (by first | decide | omega)) F__law_is_number.g F__law_is_number.k F__law_is_number.b (takes_of rfl rfl rfl rfl) (s_cons (s_call G__law_told (Room.mono hr (by first | decide | omega)) F__law_told.g F__law_told.k F__law_told.b (takes_of rfl rfl rfl rfl) (s_cons (s_str) (s_cons (s_call G_made_calendar (Room.mono hr (by first | decide | omega)) F_made_calendar.g F_made_calendar.k F_made_calendar.b (takes_of rfl rfl rfl rfl) (s_cons (s_fld CT.gC CT.cls CT.noB (s_var 6)) (s_cons (s_fld CT.gC CT.cls CT.noD (s_var 6)) (s_nil))) (cons_len (cons_len (fun _ _ _ _ => nil_len)))) (s_cons (s_int) (s_nil)))) (cons_len (cons_len (cons_len (fun _ _ _ _ => nil_len))))) (s_cons (s_var 5) (s_nil))) (cons_len (cons_len (fun _ _ _ _ => nil_len)))))) (ss_one (s_ret (s_bl))) (ss_nil)) (ss_cons (s_if (s_not (s_truth (s_call G__law_is_number (Room.mono hr (by first | decide | omega)) F__law_is_number.g F__law_is_number.k F__law_is_number.b (takes_of rfl rfl rfl rfl) (s_cons (s_call G__law_told (Room.mono hr (by first | decide | omega)) F__law_told.g F__law_told.k F__law_told.b (takes_of rfl rfl rfl rfl) (s_cons (s_str) (s_cons (s_var 7) (s_cons (s_int) (s_nil)))) (cons_len (cons_len (cons_len (fun _ _ _ _ => nil_len))))) (s_cons (s_op o_add (s_var 5) (s_int)) (s_nil))) (cons_len (cons_len (fun _ _ _ _ => nil_len)))))) (ss_one (s_ret (s_bl))) (ss_nil)) (ss_cons (s_set (i := 8) sc_law.nd (s_call G__law_one (Room.mono hr (by first | decide | omega)) F__law_one.g F__law_one.k F__law_one.b (takes_of rfl rfl rfl rfl) (s_cons (s_var 3) (s_cons (s_lst (s_cons (s_int) (s_cons (s_int) (s_cons (s_op o_sub (s_un o_neg (s_int)) (s_var 5)) (s_nil))))) (s_nil))) (cons_len (cons_len (fun _ _ _ _ => nil_len))))) (ss_cons (s_if (s_pw (s_or (s_cmpT (o_ne (by have z := Room.u64 hr; exact z)) (s_call G__law_told (Room.mono hr (by first | decide | omega)) F__law_told.g F__law_told.k F__law_told.b (takes_of rfl rfl rfl rfl) (s_cons (s_str) (s_cons (s_var 8) (s_cons (s_int) (s_nil)))) (cons_len (cons_len (cons_len (fun _ _ _ _ => nil_len))))) (s_tup (s_cons (s_str) (s_cons (s_var 8) (s_nil))))) (s_or1 (s_cmpT (o_ne (by have z := Room.u64 hr; exact z)) (s_call G__law_told (Room.mono hr (by first | decide | omega)) F__law_told.g F__law_told.k F__law_told.b (takes_of rfl rfl rfl rfl) (s_cons (s_str) (s_cons (s_var 8) (s_cons (s_un o_neg (s_int)) (s_nil)))) (cons_len (cons_len (cons_len (fun _ _ _ _ => nil_len))))) (s_tup (s_cons (s_str) (s_cons (s_var 8) (s_nil)))))))) (ss_one (s_ret (s_bl))) (ss_nil)) (ss_one (s_for (tp := false) (passes_of rfl) rfl (it_seq (s_lst (s_cons (s_tup (s_cons (s_tup (s_cons (s_int) (s_cons (s_int) (s_cons (s_int) (s_nil))))) (s_cons (s_tup (s_cons (s_tup (s_cons (s_int) (s_nil))) (s_cons (s_tup (s_cons (s_int) (s_nil))) (s_nil)))) (s_nil)))) (s_cons (s_tup (s_cons (s_tup (s_cons (s_int) (s_cons (s_int) (s_cons (s_int) (s_nil))))) (s_cons (s_tup (s_cons (s_tup (s_cons (s_int) (s_nil))) (s_nil))) (s_nil)))) (s_cons (s_tup (s_cons (s_tup (s_cons (s_int) (s_cons (s_int) (s_nil)))) (s_cons (s_tup (s_nil)) (s_nil)))) (s_cons (s_tup (s_cons (s_tup (s_cons (s_int) (s_cons (s_int) (s_cons (s_int) (s_nil))))) (s_cons (s_tup (s_cons (s_tup (s_cons (s_int) (s_nil))) (s_nil))) (s_nil)))) (s_nil))))))) (g_tp rfl (gs_cons (g_nm sc_law.nd) (gs_cons (g_nm sc_law.nd) (gs_nil)))) (ss_one (s_if (s_cmpT (o_ne (by have z := Room.u64 hr; exact z)) (s_call G__law_told (Room.mono hr (by first | decide | omega)) F__law_told.g F__law_told.k F__law_told.b (takes_of rfl rfl rfl rfl) (s_cons (s_str) (s_cons (s_call G_made_calendar (Room.mono hr (by first | decide | omega)) F_made_calendar.g F_made_calendar.k F_made_calendar.b (takes_of rfl rfl rfl rfl) (s_cons (s_var 9) (s_cons (s_var 10) (s_nil))) (cons_len (cons_len (fun _ _ _ _ => nil_len)))) (s_cons (s_int) (s_nil)))) (cons_len (cons_len (cons_len (fun _ _ _ _ => nil_len))))) (s_tup (s_cons (s_str) (s_cons (s_int) (s_nil))))) (ss_one (s_ret (s_bl))) (ss_nil)))))))))))))))) (ss_one (s_ret (s_bl))))
end
theorem er_fin {P : Program} {K : PySem.W.Frag} {h : Heap} {mg : Str → Option Value} (X : K.In h) (G : h.Ns mainGlobals mg) {D fI cc : Addr} (R : RefK P K D fI cc) {C0 : Addr} {C1 : Addr} {C2 : Addr} {C3 : Addr} {C4 : Addr} {C5 : Addr} (E0 : ErrK K "BadSize" C0 D fI) (E1 : ErrK K "BadBirth" C1 D fI) (E2 : ErrK K "BadDay" C2 D fI) (E3 : ErrK K "TooFew" C3 D fI) (E4 : ErrK K "BadCount" C4 D fI) (E5 : ErrK K "Unlike" C5 D fI) (nd : (D :: [C0, C1, C2, C3, C4, C5]).Nodup) :
    (∃ D fI cc, mg "Refused" = some (.ref D) ∧ BaseTxt P K mg D fI cc ∧ (∃ C, ErrTxt K mg "BadSize" C D fI) ∧ (∃ C, ErrTxt K mg "BadBirth" C D fI) ∧ (∃ C, ErrTxt K mg "BadDay" C D fI) ∧ (∃ C, ErrTxt K mg "TooFew" C D fI) ∧ (∃ C, ErrTxt K mg "BadCount" C D fI) ∧ (∃ C, ErrTxt K mg "Unlike" C D fI)) ∧ EF K mg errs := by
  have nd' : (D :: ([("BadSize", C0), ("BadBirth", C1), ("BadDay", C2), ("TooFew", C3), ("BadCount", C4), ("Unlike", C5)] : List (Str × Addr)).map (·.2)).Nodup := nd
  have n0 : C0 ≠ D := fun z => (List.nodup_cons.mp nd).1 (z ▸ by simp)
  have n1 : C1 ≠ D := fun z => (List.nodup_cons.mp nd).1 (z ▸ by simp)
  have n2 : C2 ≠ D := fun z => (List.nodup_cons.mp nd).1 (z ▸ by simp)
  have n3 : C3 ≠ D := fun z => (List.nodup_cons.mp nd).1 (z ▸ by simp)
  have n4 : C4 ≠ D := fun z => (List.nodup_cons.mp nd).1 (z ▸ by simp)
  have n5 : C5 ≠ D := fun z => (List.nodup_cons.mp nd).1 (z ▸ by simp)
  refine ⟨⟨D, fI, cc, PySem.W.mg_of X G R.a, R.base X G, ⟨C0, E0.txt X G n0⟩, ⟨C1, E1.txt X G n1⟩, ⟨C2, E2.txt X G n2⟩, ⟨C3, E3.txt X G n3⟩, ⟨C4, E4.txt X G n4⟩, ⟨C5, E5.txt X G n5⟩⟩, ?_⟩
  have r := ef_mk X G (ps := [("BadSize", C0), ("BadBirth", C1), ("BadDay", C2), ("TooFew", C3), ("BadCount", C4), ("Unlike", C5)]) R (by
    intro p hp
    simp only [List.mem_cons, List.not_mem_nil, or_false] at hp
    rcases hp with rfl | rfl | rfl | rfl | rfl | rfl
    · exact E0
    · exact E1
    · exact E2
    · exact E3
    · exact E4
    · exact E5) nd' (show (("Refused" : Str) :: errs).Nodup by decide +kernel)
  exact r
theorem tx_fin {w : World} {K : PySem.W.Frag} {h : Heap} {mg : Str → Option Value} {fa : Addr} (KX : K.In h) (G : h.Ns mainGlobals mg) (hmg : mg "law" = some (.ref fa))
    (f__law_patterns : ∃ f fd, FT K mg "_law_patterns" "_law_patterns" st__law_patterns ps__law_patterns f fd)
    (f__law_numbers : ∃ f fd, FT K mg "_law_numbers" "_law_numbers" st__law_numbers ps__law_numbers f fd)
    (f__law_pool : ∃ f fd, FT K mg "_law_pool" "_law_pool" st__law_pool ps__law_pool f fd)
    (f__law_days : ∃ f fd, FT K mg "_law_days" "_law_days" st__law_days ps__law_days f fd)
    (f__law_is_number : ∃ f fd, FT K mg "_law_is_number" "_law_is_number" st__law_is_number ps__law_is_number f fd)
    (f_want_leaves : ∃ f fd, FT K mg "want_leaves" "want_leaves" st_want_leaves ps_want_leaves f fd)
    (f_want_things : ∃ f fd, FT K mg "want_things" "want_things" st_want_things ps_want_things f fd)
    (f_patterns : ∃ f fd, FT K mg "patterns" "patterns" st_patterns ps_patterns f fd)
    (f_is_number : ∃ f fd, FT K mg "is_number" "is_number" st_is_number ps_is_number f fd)
    (f_is_pattern : ∃ f fd, FT K mg "is_pattern" "is_pattern" st_is_pattern ps_is_pattern f fd)
    (f_want_pattern : ∃ f fd, FT K mg "want_pattern" "want_pattern" st_want_pattern ps_want_pattern f fd)
    (f_less : ∃ f fd, FT K mg "less" "less" st_less ps_less f fd)
    (f_counts_to : ∃ f fd, FT K mg "counts_to" "counts_to" st_counts_to ps_counts_to f fd)
    (f_calendars_count : ∃ f fd, FT K mg "calendars_count" "calendars_count" st_calendars_count ps_calendars_count f fd)
    (f_made : ∃ f fd, FT K mg "made" "made" st_made ps_made f fd)
    (f_nth_calendar : ∃ f fd, FT K mg "nth_calendar" "nth_calendar" st_nth_calendar ps_nth_calendar f fd)
    (f_counts_of : ∃ f fd, FT K mg "counts_of" "counts_of" st_counts_of ps_counts_of f fd)
    (f_counts : ∃ f fd, FT K mg "counts" "counts" st_counts ps_counts f fd)
    (f_ends : ∃ f fd, FT K mg "ends" "ends" st_ends ps_ends f fd)
    (f_calendar_rank : ∃ f fd, FT K mg "calendar_rank" "calendar_rank" st_calendar_rank ps_calendar_rank f fd)
    (f__law_told : ∃ f fd, FT K mg "_law_told" "_law_told" st__law_told ps__law_told f fd)
    (f__law_listed_right : ∃ f fd, FT K mg "_law_listed_right" "_law_listed_right" st__law_listed_right ps__law_listed_right f fd)
    (f__law_take : ∃ f fd, FT K mg "_law_take" "_law_take" st__law_take ps__law_take f fd)
    (f__law_one : ∃ f fd, FT K mg "_law_one" "_law_one" st__law_one ps__law_one f fd)
    (f_made_calendar : ∃ f fd, FT K mg "made_calendar" "made_calendar" st_made_calendar ps_made_calendar f fd)
    (f_law : ∃ f fd, FT K mg "law" "law" st_law ps_law f fd)
    (n_all : mg "all" = none)
    (n_bool : mg "bool" = none)
    (n_enumerate : mg "enumerate" = none)
    (n_int : mg "int" = none)
    (n_isinstance : mg "isinstance" = none)
    (n_len : mg "len" = none)
    (n_max : mg "max" = none)
    (n_min : mg "min" = none)
    (n_range : mg "range" = none)
    (n_sorted : mg "sorted" = none)
    (n_sum : mg "sum" = none)
    (n_tuple : mg "tuple" = none)
    (c_LEAST_GROUP : ∃ t, mg "LEAST_GROUP" = some (.int 2 t))
    (c_MOST_DAYS : ∃ t, mg "MOST_DAYS" = some (.int 11 t))
    (c_MOST_LEAVES : ∃ t, mg "MOST_LEAVES" = some (.int 12 t))
    (c_MOST_THINGS : ∃ t, mg "MOST_THINGS" = some (.int 12 t))
    (er_ : (∃ D fI cc, mg "Refused" = some (.ref D) ∧ BaseTxt PySem.Challenge.rw_datedlines_k43_all_calendars_numbered.prog K mg D fI cc ∧ (∃ C, ErrTxt K mg "BadSize" C D fI) ∧ (∃ C, ErrTxt K mg "BadBirth" C D fI) ∧ (∃ C, ErrTxt K mg "BadDay" C D fI) ∧ (∃ C, ErrTxt K mg "TooFew" C D fI) ∧ (∃ C, ErrTxt K mg "BadCount" C D fI) ∧ (∃ C, ErrTxt K mg "Unlike" C D fI)) ∧ EF K mg errs)
    (ca_ : ∃ C fI fd, CalTxt K mg C fI ∧ Fun K "__init__" "Calendar.__init__" st_ini fI fd ∧ Binds K fd iniN [])
    : ∃ (K : PySem.W.Frag) (fd : FuncData), K.In h ∧ Binds K fd ps_law [] ∧ (∀ base : Heap, K.In base → base.Ns mainGlobals mg → FnOk PySem.Challenge.rw_datedlines_k43_all_calendars_numbered.prog w K mg base (L2.CX PySem.Challenge.rw_datedlines_k43_all_calendars_numbered.prog w) 84 fa fd ps_law (spOf ⟨K, mg⟩ 1 m_law)) ∧
      ∀ (s : Shared) (u : Value), BindsTo s fd ⟨[u], []⟩ [("_law_script", u)] := by
  have T : Tx PySem.Challenge.rw_datedlines_k43_all_calendars_numbered.prog K mg := ⟨f__law_patterns, f__law_numbers, f__law_pool, f__law_days, f__law_is_number, f_want_leaves, f_want_things, f_patterns, f_is_number, f_is_pattern, f_want_pattern, f_less, f_counts_to, f_calendars_count, f_made, f_nth_calendar, f_counts_of, f_counts, f_ends, f_calendar_rank, f__law_told, f__law_listed_right, f__law_take, f__law_one, f_made_calendar, f_law, n_all, n_bool, n_enumerate, n_int, n_isinstance, n_len, n_max, n_min, n_range, n_sorted, n_sum, n_tuple, c_LEAST_GROUP, c_MOST_DAYS, c_MOST_LEAVES, c_MOST_THINGS, er_.1, er_.2, ca_⟩
  obtain ⟨f, fd, F⟩ := f_law
  have e := F.g.symm.trans hmg
  cases e
  exact ⟨K, fd, KX, F.b, fun base _ _ => ok_law T F, fun s u => F.bt s [u] rfl⟩
end Gk

set_option Elab.async false
set_option linter.all false
set_option maxRecDepth 100000
namespace Gk
open PySem Sx
def IsSrc (h : Hc) (n : Nat) : Prop := ∃ b m : Int, h[n]? = some (false, .lst [.int b, .int m]) ∧ 0 ≤ m ∧ m < 2147483647
structure Go (n : Nat) (h h' : Hc) : Prop where
  len : h.length ≤ h'.length
  keep : ∀ i, i < h.length → i ≠ n → h'[i]? = h[i]?
  src : IsSrc h' n
theorem Go.refl {n : Nat} {h : Hc} (s : IsSrc h n) : Go n h h := ⟨Nat.le_refl _, fun _ _ _ => rfl, s⟩
theorem Go.trans {n : Nat} {h h1 h2 : Hc} (a : Go n h h1) (b : Go n h1 h2) : Go n h h2 :=
  ⟨Nat.le_trans a.len b.len, fun i hi hn => (b.keep i (Nat.lt_of_lt_of_le hi a.len) hn).trans (a.keep i hi hn), b.src⟩
theorem IsSrc.lt {h : Hc} {n : Nat} (s : IsSrc h n) : n < h.length := by
  obtain ⟨b, m, e, _⟩ := s
  exact (List.getElem?_eq_some_iff.mp e).1
theorem Go.app {n : Nat} {h h' : Hc} (a : Go n h h') (l : Hc) : Go n h (h' ++ l) := by
  refine ⟨by rw [List.length_append]; have := a.len; omega, fun i hi hn => ?_, ?_⟩
  · rw [List.getElem?_append_left (Nat.lt_of_lt_of_le hi a.len)]
    exact a.keep i hi hn
  · obtain ⟨b, m, e, q⟩ := a.src
    exact ⟨b, m, by rw [List.getElem?_append_left (List.getElem?_eq_some_iff.mp e).1]; exact e, q⟩
theorem Go.put {n k : Nat} {h h' : Hc} (a : Go n h h') (hk : h.length ≤ k) (hn : n < h.length) (p : Bool × O) : Go n h (h'.set k p) := by
  refine ⟨by rw [List.length_set]; exact a.len, fun i hi hn => ?_, ?_⟩
  · rw [List.getElem?_set_ne (by omega)]
    exact a.keep i hi hn
  · obtain ⟨b, m, e, q⟩ := a.src
    exact ⟨b, m, by rw [List.getElem?_set_ne (by omega)]; exact e, q⟩
theorem fmod_lt {a b : Int} (h : 0 < b) : 0 ≤ a.fmod b ∧ a.fmod b < b := ⟨Int.fmod_nonneg_of_pos a h, Int.fmod_lt_of_pos a h⟩
theorem take_set {h : Hc} {n : Nat} {top : Int} (s : IsSrc h n) (h0 : 0 < top) (h1 : top < 1073741824) :
    wE (m__law_take [.ref n, .int top] h) fun r h' => ∃ d b m : Int, r = .int d ∧ 0 ≤ d ∧ d < top ∧ h' = h.set n (false, .lst [.int b, .int m]) ∧ 0 ≤ m ∧ m < 2147483647 := by
  obtain ⟨b, m, e, m0, m1⟩ := s
  have hd : divOk top = true := by
    unfold divOk
    have e1 : (top != 0) = true := by simp; omega
    have e2 : Nat.blt top.natAbs 1073741824 = true := by rw [Nat.blt_eq]; omega
    rw [e1, e2]; rfl
  have d32 : divOk 32 = true := by decide
  have tz : ¬ top = 0 := by omega
  have e0 := fun p => q_ixR (p := p) e
  have hm1 : mulOk m 39373 = true := by
    unfold mulOk small64b
    simp only [Bool.or_eq_true, Bool.and_eq_true, decide_eq_true_eq]
    exact .inl (.inl ⟨by omega, by omega⟩)
  by_cases c : 0 < b
  · have z := fmod_lt (a := b) h0
    refine wE.of (a := .int (b.fmod top)) (h := h.set n (false, .lst [.int (b.fdiv top), .int m])) ?_ ⟨_, _, _, rfl, z.1, z.2, rfl, m0, m1⟩
    unfold m__law_take runD b__law_take
    simp [q_bok, q_bxn, q_ofok, q_ofxn, q_vo, q_var, q_k, q_c1, q_c2, q_nil, q_cons, q_c, q_call, q_callK, pick, q_b, q_tru, q_not, q_and, q_or, q_ifE, q_andV, q_orV, q_notV, q_chain, q_seq, q_tnx, q_trt, q_txn, q_tbk, q_tct, q_skip, q_drop, q_ret, q_retN, q_bk, q_ct, q_set, q_par, q_par3, q_if, q_raise, q_mt, q_mt0, q_end0, q_endr, q_endx, q_lt, q_le, q_gt, q_ge, q_sub, q_add, q_neg, q_inti, q_intb, q_max, q_min, q_lenT, q_lenF, q_truT, q_truF, q_truB, q_truI, q_ixT, q_ixF, at_0, at_1, er_int, er_bl, er_str, er_non, er_tup, er_flst, er_ref, er_obj, er_ty, er_gl, q_lst, q_tup, q_cutT, q_pn, q_ps, q_slT, q_itS, seqL_t, sz_0, sz_1, sz_2, sz_3, sz_4, sz_5, sz_6, sz_7, sz_8, sz_9, sz_10, sz_11, sz_12, sz_13, sz_14, e0, c, q_mod tz, q_div hd, cSetIx, e, Sx.putAt, L2.ixN]
  · have z := fmod_lt (a := m * 39373 + 7) (b := 2147483647) (by decide)
    generalize hm : (m * 39373 + 7).fmod 2147483647 = m2 at z
    have hm2 : mulOk m2 m2 = true := by
      unfold mulOk small64b
      simp only [Bool.or_eq_true, Bool.and_eq_true, decide_eq_true_eq]
      exact .inl (.inl ⟨by omega, by omega⟩)
    have e1 := fun p => q_ixR (p := p) (get_set (x := (false, .lst [.int b, .int m2])) e)
    have z2 := fmod_lt (a := ((m2 * m2).fmod 2147483629).fdiv 32) h0
    refine wE.of (a := .int ((((m2 * m2).fmod 2147483629).fdiv 32).fmod top)) (h := h.set n (false, .lst [.int b, .int m2])) ?_ ⟨_, _, _, rfl, z2.1, z2.2, rfl, z.1, z.2⟩
    unfold m__law_take runD b__law_take
    simp [q_bok, q_bxn, q_ofok, q_ofxn, q_vo, q_var, q_k, q_c1, q_c2, q_nil, q_cons, q_c, q_call, q_callK, pick, q_b, q_tru, q_not, q_and, q_or, q_ifE, q_andV, q_orV, q_notV, q_chain, q_seq, q_tnx, q_trt, q_txn, q_tbk, q_tct, q_skip, q_drop, q_ret, q_retN, q_bk, q_ct, q_set, q_par, q_par3, q_if, q_raise, q_mt, q_mt0, q_end0, q_endr, q_endx, q_lt, q_le, q_gt, q_ge, q_sub, q_add, q_neg, q_inti, q_intb, q_max, q_min, q_lenT, q_lenF, q_truT, q_truF, q_truB, q_truI, q_ixT, q_ixF, at_0, at_1, er_int, er_bl, er_str, er_non, er_tup, er_flst, er_ref, er_obj, er_ty, er_gl, q_lst, q_tup, q_cutT, q_pn, q_ps, q_slT, q_itS, seqL_t, sz_0, sz_1, sz_2, sz_3, sz_4, sz_5, sz_6, sz_7, sz_8, sz_9, sz_10, sz_11, sz_12, sz_13, sz_14, e0, e1, c, q_mod tz, q_div d32, q_mul hm1, q_mul hm2, q_mod, hm, cSetIx, e, Sx.putAt, L2.ixN]
theorem mulL {i j : Int} (h : small64b i = true) : mulOk i j = true := by unfold mulOk; rw [h]; rfl
theorem mulR {i j : Int} (h : small64b j = true) : mulOk i j = true := by unfold mulOk; rw [h, Bool.or_true]; rfl
theorem ix_at {x : D} {h : Hc} {ds : List D} {i : Nat} {d : D} (hx : asSeq x h = some ds) (hi : ds[i]? = some d) : gIx x (.int (i : Nat)) h = some (d, h) := by
  have hl := (List.getElem?_eq_some_iff.mp hi).1
  have e : L2.atI ds (i : Int) = some d := by
    unfold L2.atI L2.ixN
    have h1 : (0 : Int) ≤ (i : Int) := by omega
    have h2 : (i : Int) < (ds.length : Nat) := by omega
    rw [if_pos h1, if_pos h2]
    simpa using hi
  cases x with
  | str z => cases hx
  | _ => simp only [gIx, hx, e]
theorem seq_set {x : D} {h : Hc} {n : Nat} {p : Bool × O} {ds : List D} (hx : asSeq x h = some ds) (hk : x ≠ .ref n) : asSeq x (h.set n p) = some ds := by
  cases x with
  | ref k =>
    have hk' : n ≠ k := fun z => hk (by rw [z])
    simp only [asSeq, List.getElem?_set_ne hk'] at hx ⊢
    exact hx
  | _ => exact hx
theorem one_set {h : Hc} {n : Nat} {x : D} {ds : List D} (s : IsSrc h n) (hx : asSeq x h = some ds) (hk : x ≠ .ref n) (hl : x.isErr = false) (h0 : 0 < ds.length) (h1 : ds.length < 1073741824) :
    wE (m__law_one [.ref n, x] h) fun r h' => ∃ (i : Nat) (b m : Int), ds[i]? = some r ∧ h' = h.set n (false, .lst [.int b, .int m]) ∧ 0 ≤ m ∧ m < 2147483647 := by
  have len : gLen [x] h = some (.int ds.length, h) := by
    cases x with
    | str z => cases hx
    | _ => simp only [gLen, hx]
  obtain ⟨r, h', e, d, b, m, rfl, d0, d1, rfl, m0, m1⟩ := (take_set (top := (ds.length : Nat)) s (by omega) (by omega)).eq
  obtain ⟨i, rfl⟩ := Int.eq_ofNat_of_zero_le d0
  have hi : i < ds.length := by omega
  have e2 : gIx x (.int (i : Nat)) (h.set n (false, .lst [.int b, .int m])) = some (ds[i], h.set n (false, .lst [.int b, .int m])) := ix_at (seq_set hx hk) (List.getElem?_eq_getElem hi)
  refine wE.of (a := ds[i]) (h := h.set n (false, .lst [.int b, .int m])) ?_ ⟨i, _, _, by simp [hi], rfl, m0, m1⟩
  unfold m__law_one runD b__law_one
  simp [q_bok, q_bxn, q_ofok, q_ofxn, q_vo, q_var, q_k, q_c1, q_c2, q_nil, q_cons, q_c, q_call, q_callK, pick, q_b, q_tru, q_not, q_and, q_or, q_ifE, q_andV, q_orV, q_notV, q_chain, q_seq, q_tnx, q_trt, q_txn, q_tbk, q_tct, q_skip, q_drop, q_ret, q_retN, q_bk, q_ct, q_set, q_par, q_par3, q_if, q_raise, q_mt, q_mt0, q_end0, q_endr, q_endx, q_lt, q_le, q_gt, q_ge, q_sub, q_add, q_neg, q_inti, q_intb, q_max, q_min, q_lenT, q_lenF, q_truT, q_truF, q_truB, q_truI, q_ixT, q_ixF, at_0, at_1, er_int, er_bl, er_str, er_non, er_tup, er_flst, er_ref, er_obj, er_ty, er_gl, q_lst, q_tup, q_cutT, q_pn, q_ps, q_slT, q_itS, seqL_t, sz_0, sz_1, sz_2, sz_3, sz_4, sz_5, sz_6, sz_7, sz_8, sz_9, sz_10, sz_11, sz_12, sz_13, sz_14, hl, len, e, e2]
def bigI (c : Int) : Int := if -1 - c > c then -1 - c else c
def mixI (c k : Int) : Int := ((bigI c).fmod 2147483629 + 7919 * k * k + 31 * k + 17) * 48271
def srcB (c : Int) : Int := bigI c * (if 1000000000000000000 ≤ bigI c then 1 else 0)
theorem p18 {h : Hc} : gPow (.int 10) (.int 18) h = some (.int 1000000000000000000, h) := id rfl
theorem pool_eq {ns : List Int} {k : Nat} {h : Hc} (hk : k ≤ 63) : ∃ c : Int, m__law_pool [.flst (ns.map .int), .int k] h = .ok (.ref h.length) (h ++ [(false, .lst [.int (srcB c), .int ((mixI c k).fmod 2147483647)])]) := by
  have s2 : (2 : Nat) ≤ sizeLine := by decide
  have k1 : ∀ i, mulOk i 48271 = true := fun i => mulR rfl
  have k2 : ∀ i, mulOk 7919 i = true := fun i => mulL rfl
  have k3 : ∀ i, mulOk 31 i = true := fun i => mulL rfl
  have k4 : mulOk (7919 * (k : Int)) k = true := mulR (by unfold small64b; simp only [Bool.and_eq_true, decide_eq_true_eq]; omega)
  have k5 : ∀ (i : Int) (P : Prop) [Decidable P], mulOk i (if P then 1 else 0) = true := fun i P _ => mulR (by split <;> rfl)
  have n1 : ¬ (2147483629 : Int) = 0 := by decide
  have n2 : ¬ (2147483647 : Int) = 0 := by decide
  unfold m__law_pool runD b__law_pool
  by_cases c : (k : Int) < ns.length
  · have hk' : k < ns.length := by omega
    have g : L2.atI (ns.map D.int) (k : Int) = some (.int ns[k]) := at_nat (by simp [hk'])
    refine ⟨ns[k], ?_⟩
    unfold srcB mixI bigI
    simp [q_bok, q_bxn, q_ofok, q_ofxn, q_vo, q_var, q_k, q_c1, q_c2, q_nil, q_cons, q_c, q_call, q_callK, pick, q_b, q_tru, q_not, q_and, q_or, q_ifE, q_andV, q_orV, q_notV, q_chain, q_seq, q_tnx, q_trt, q_txn, q_tbk, q_tct, q_skip, q_drop, q_ret, q_retN, q_bk, q_ct, q_set, q_par, q_par3, q_if, q_raise, q_mt, q_mt0, q_end0, q_endr, q_endx, q_lt, q_le, q_gt, q_ge, q_sub, q_add, q_neg, q_inti, q_intb, q_max, q_min, q_lenT, q_lenF, q_truT, q_truF, q_truB, q_truI, q_ixT, q_ixF, at_0, at_1, er_int, er_bl, er_str, er_non, er_tup, er_flst, er_ref, er_obj, er_ty, er_gl, q_lst, q_tup, q_cutT, q_pn, q_ps, q_slT, q_itS, seqL_t, sz_0, sz_1, sz_2, sz_3, sz_4, sz_5, sz_6, sz_7, sz_8, sz_9, sz_10, sz_11, sz_12, sz_13, sz_14, c, g, q_mod n1, q_mod n2, q_mul, k1, k2, k3, k4, k5, p18, s2]
  · cases ns with
    | nil =>
      refine ⟨0, ?_⟩
      unfold srcB mixI bigI
      have c : ¬ (k : Int) < 0 := by omega
      have k6 : ∀ i, mulOk 0 i = true := fun i => mulL rfl
      simp [q_bok, q_bxn, q_ofok, q_ofxn, q_vo, q_var, q_k, q_c1, q_c2, q_nil, q_cons, q_c, q_call, q_callK, pick, q_b, q_tru, q_not, q_and, q_or, q_ifE, q_andV, q_orV, q_notV, q_chain, q_seq, q_tnx, q_trt, q_txn, q_tbk, q_tct, q_skip, q_drop, q_ret, q_retN, q_bk, q_ct, q_set, q_par, q_par3, q_if, q_raise, q_mt, q_mt0, q_end0, q_endr, q_endx, q_lt, q_le, q_gt, q_ge, q_sub, q_add, q_neg, q_inti, q_intb, q_max, q_min, q_lenT, q_lenF, q_truT, q_truF, q_truB, q_truI, q_ixT, q_ixF, at_0, at_1, er_int, er_bl, er_str, er_non, er_tup, er_flst, er_ref, er_obj, er_ty, er_gl, q_lst, q_tup, q_cutT, q_pn, q_ps, q_slT, q_itS, seqL_t, sz_0, sz_1, sz_2, sz_3, sz_4, sz_5, sz_6, sz_7, sz_8, sz_9, sz_10, sz_11, sz_12, sz_13, sz_14, c, k6, q_mod n1, q_mod n2, q_mul, k1, k2, k3, k4, k5, p18, s2]
    | cons i l =>
      refine ⟨i, ?_⟩
      unfold srcB mixI bigI
      have c : ¬ (k : Int) < (l.length : Nat) + 1 := by simpa using c
      simp [q_bok, q_bxn, q_ofok, q_ofxn, q_vo, q_var, q_k, q_c1, q_c2, q_nil, q_cons, q_c, q_call, q_callK, pick, q_b, q_tru, q_not, q_and, q_or, q_ifE, q_andV, q_orV, q_notV, q_chain, q_seq, q_tnx, q_trt, q_txn, q_tbk, q_tct, q_skip, q_drop, q_ret, q_retN, q_bk, q_ct, q_set, q_par, q_par3, q_if, q_raise, q_mt, q_mt0, q_end0, q_endr, q_endx, q_lt, q_le, q_gt, q_ge, q_sub, q_add, q_neg, q_inti, q_intb, q_max, q_min, q_lenT, q_lenF, q_truT, q_truF, q_truB, q_truI, q_ixT, q_ixF, at_0, at_1, er_int, er_bl, er_str, er_non, er_tup, er_flst, er_ref, er_obj, er_ty, er_gl, q_lst, q_tup, q_cutT, q_pn, q_ps, q_slT, q_itS, seqL_t, sz_0, sz_1, sz_2, sz_3, sz_4, sz_5, sz_6, sz_7, sz_8, sz_9, sz_10, sz_11, sz_12, sz_13, sz_14, c, q_mod n1, q_mod n2, q_mul, k1, k2, k3, k4, k5, p18, s2]
theorem pool_new {ns : List Int} {k : Nat} {h : Hc} (hk : k ≤ 63) : ∃ b m : Int, m__law_pool [.flst (ns.map .int), .int k] h = .ok (.ref h.length) (h ++ [(false, .lst [.int b, .int m])]) ∧ 0 ≤ m ∧ m < 2147483647 := by
  obtain ⟨c, e⟩ := pool_eq (ns := ns) (h := h) hk
  exact ⟨_, _, e, fmod_lt (by decide)⟩
theorem Go.take {n : Nat} {h : Hc} {b m : Int} (s : IsSrc h n) (m0 : 0 ≤ m) (m1 : m < 2147483647) : Go n h (h.set n (false, .lst [.int b, .int m])) := by
  obtain ⟨b0, k0, e, _⟩ := s
  exact ⟨by simp, fun i _ hn => List.getElem?_set_ne (Ne.symm hn), ⟨b, m, get_set e, m0, m1⟩⟩
theorem take_go {h : Hc} {n : Nat} {top : Int} (s : IsSrc h n) (h0 : 0 < top) (h1 : top < 1073741824) : ∃ (d : Int) (h' : Hc), m__law_take [.ref n, .int top] h = .ok (.int d) h' ∧ 0 ≤ d ∧ d < top ∧ Go n h h' := by
  obtain ⟨_, h', e, d, b, m, rfl, d0, d1, rfl, m0, m1⟩ := (take_set s h0 h1).eq
  exact ⟨d, _, e, d0, d1, Go.take s m0 m1⟩
theorem one_go {h : Hc} {n : Nat} {x : D} {ds : List D} (s : IsSrc h n) (hx : asSeq x h = some ds) (hk : x ≠ .ref n) (hl : x.isErr = false) (h0 : 0 < ds.length) (h1 : ds.length < 1073741824) :
    ∃ (r : D) (h' : Hc), m__law_one [.ref n, x] h = .ok r h' ∧ r ∈ ds ∧ Go n h h' := by
  obtain ⟨r, h', e, i, b, m, d0, rfl, m0, m1⟩ := (one_set s hx hk hl h0 h1).eq
  exact ⟨r, _, e, List.mem_of_getElem? d0, Go.take s m0 m1⟩
theorem at_last {l : List D} {d : D} (z : l.getLast? = some d) : L2.atI l (-1) = some d := by
  rw [List.getLast?_eq_getElem?] at z
  have hl := (List.getElem?_eq_some_iff.mp z).1
  unfold L2.atI L2.ixN
  rw [if_neg (by decide), if_pos (by omega)]
  have e : ((-1 : Int) + (l.length : Nat)).toNat = l.length - 1 := by omega
  rw [e]
  exact z

abbrev dsD (l : List (List Int)) : List D := l.map iT
def cnt : List Int → List (List Int) → Int → Nat → List Int
  | born, [], now, d => [now + (born.count (d : Int) : Nat)]
  | born, p :: r, now, d => (now + (born.count (d : Int) : Nat)) :: cnt born r (now + (born.count (d : Int) : Nat) - p.sum + p.length) (d + 1)
theorem counts_w {born : List Int} {days : List (List Int)} {h : Hc} (hd : days.length ≤ 100) :
    wE (m_counts_of [iT born, .tup (dsD days)] h) fun r h' => r = .ref (h.length + 2) ∧ ∃ l, h' = h ++ l ∧ h'[h.length + 2]? = some (false, .lst (iL (cnt born days 0 0))) := by
  have sz : (200 : Nat) < sizeLine := by decide
  unfold m_counts_of
  refine wE_run rfl ?_
  unfold b_counts_of
  refine wS_step (ρ' := [some (iT born), some (.tup (dsD days)), some (.ref h.length), some (.int 0), none, none]) (h' := h ++ [(false, .lst [])]) (by simp [q_bok, q_bxn, q_ofok, q_ofxn, q_vo, q_var, q_k, q_c1, q_c2, q_nil, q_cons, q_c, q_call, q_callK, pick, q_b, q_tru, q_not, q_and, q_or, q_ifE, q_andV, q_orV, q_notV, q_chain, q_seq, q_tnx, q_trt, q_txn, q_tbk, q_tct, q_skip, q_drop, q_ret, q_retN, q_bk, q_ct, q_set, q_par, q_par3, q_if, q_raise, q_mt, q_mt0, q_end0, q_endr, q_endx, q_lt, q_le, q_gt, q_ge, q_sub, q_add, q_neg, q_inti, q_intb, q_max, q_min, q_lenT, q_lenF, q_truT, q_truF, q_truB, q_truI, q_ixT, q_ixF, at_0, at_1, er_int, er_bl, er_str, er_non, er_tup, er_flst, er_ref, er_obj, er_ty, er_gl, q_lst, q_tup, q_cutT, q_pn, q_ps, q_slT, q_itS, seqL_t, sz_0, sz_1, sz_2, sz_3, sz_4, sz_5, sz_6, sz_7, sz_8, sz_9, sz_10, sz_11, sz_12, sz_13, sz_14]) ?_
  refine wS_loop ?_
  rw [q_for (l := numb 0 (dsD days)) (h1 := h ++ [(false, .lst [])]) (by simp [q_itE, q_bok, q_bxn, q_ofok, q_ofxn, q_vo, q_var, q_k, q_c1, q_c2, q_nil, q_cons, q_c, q_call, q_callK, pick, q_b, q_tru, q_not, q_and, q_or, q_ifE, q_andV, q_orV, q_notV, q_chain, q_seq, q_tnx, q_trt, q_txn, q_tbk, q_tct, q_skip, q_drop, q_ret, q_retN, q_bk, q_ct, q_set, q_par, q_par3, q_if, q_raise, q_mt, q_mt0, q_end0, q_endr, q_endx, q_lt, q_le, q_gt, q_ge, q_sub, q_add, q_neg, q_inti, q_intb, q_max, q_min, q_lenT, q_lenF, q_truT, q_truF, q_truB, q_truI, q_ixT, q_ixF, at_0, at_1, er_int, er_bl, er_str, er_non, er_tup, er_flst, er_ref, er_obj, er_ty, er_gl, q_lst, q_tup, q_cutT, q_pn, q_ps, q_slT, q_itS, seqL_t, sz_0, sz_1, sz_2, sz_3, sz_4, sz_5, sz_6, sz_7, sz_8, sz_9, sz_10, sz_11, sz_12, sz_13, sz_14, seqL_t])]
  refine for_inv (fun l ρ h1 => ∃ (rem : List (List Int)) (d : Nat) (acc : List Int) (now : Int) (x y : Option D), l = numb d (dsD rem) ∧ d + rem.length = days.length ∧ acc.length = d ∧ ρ = [some (iT born), some (.tup (dsD days)), some (.ref h.length), some (.int now), x, y] ∧
      h1 = h ++ [(false, .lst (iL acc))] ∧ acc ++ cnt born rem now d = cnt born days 0 0) ?_ ?_ _ _ _ ⟨days, 0, [], 0, none, none, rfl, by omega, rfl, rfl, rfl, rfl⟩
  · rintro ρ h1 ⟨rem, d, acc, now, x, y, e, hd1, hl, rfl, rfl, ht⟩
    cases rem with
    | cons p rem => rw [dsD, List.map_cons, numb_cons] at e; cases e
    | nil =>
      have hd2 : d = days.length := by simpa using hd1
      simp only [cnt] at ht
      have e3 : gAdd (.ref h.length) (.ref (h.length + 1)) (h ++ [(false, O.lst (iL acc)), (false, O.lst [D.int (now + (born.count (d : Int) : Nat))])]) =
          some (.ref (h.length + 2), h ++ [(false, O.lst (iL acc)), (false, O.lst [D.int (now + (born.count (d : Int) : Nat))]), (false, .lst (iL acc ++ [D.int (now + (born.count (d : Int) : Nat))]))]) := by
        rw [q_addR (f := false) (g := false) (ds := iL acc) (es := [D.int (now + (born.count (d : Int) : Nat))]) (by simp) (by simp) (by simp; omega)]
        simp
      refine wS_ret (d := .ref (h.length + 2)) (h' := h ++ [(false, O.lst (iL acc)), (false, O.lst [D.int (now + (born.count (d : Int) : Nat))]), (false, .lst (iL acc ++ [D.int (now + (born.count (d : Int) : Nat))]))]) ?_ ⟨rfl, _, rfl, ?_⟩
      · simp [q_bok, q_bxn, q_ofok, q_ofxn, q_vo, q_var, q_k, q_c1, q_c2, q_nil, q_cons, q_c, q_call, q_callK, pick, q_b, q_tru, q_not, q_and, q_or, q_ifE, q_andV, q_orV, q_notV, q_chain, q_seq, q_tnx, q_trt, q_txn, q_tbk, q_tct, q_skip, q_drop, q_ret, q_retN, q_bk, q_ct, q_set, q_par, q_par3, q_if, q_raise, q_mt, q_mt0, q_end0, q_endr, q_endx, q_lt, q_le, q_gt, q_ge, q_sub, q_add, q_neg, q_inti, q_intb, q_max, q_min, q_lenT, q_lenF, q_truT, q_truF, q_truB, q_truI, q_ixT, q_ixF, at_0, at_1, er_int, er_bl, er_str, er_non, er_tup, er_flst, er_ref, er_obj, er_ty, er_gl, q_lst, q_tup, q_cutT, q_pn, q_ps, q_slT, q_itS, seqL_t, sz_0, sz_1, sz_2, sz_3, sz_4, sz_5, sz_6, sz_7, sz_8, sz_9, sz_10, sz_11, sz_12, sz_13, sz_14, ok_seqT, q_cntT, ← hd2, e3]
      · rw [← ht]
        simp
  · rintro dd r ρ h1 ⟨rem, d, acc, now, x, y, e, hd1, hl, rfl, rfl, ht⟩
    cases rem with
    | nil => cases e
    | cons p rem =>
      rw [dsD, List.map_cons, numb_cons] at e
      cases e
      refine ⟨_, asg_t2, ?_⟩
      have hl2 : acc.length < sizeLine := by simp at hd1; omega
      refine wS.of (f := .nx) (ρ := [some (iT born), some (.tup (dsD days)), some (.ref h.length), some (.int (now + (born.count (d : Int) : Nat) - p.sum + p.length)), some (.int d), some (iT p)]) (h := h ++ [(false, .lst (iL (acc ++ [now + (born.count (d : Int) : Nat)])))]) ?_
        ⟨rem, d + 1, acc ++ [now + (born.count (d : Int) : Nat)], _, _, _, rfl, by simp at hd1; omega, by simp [hl], rfl, rfl, by rw [← ht]; simp [cnt]⟩
      simp [q_bok, q_bxn, q_ofok, q_ofxn, q_vo, q_var, q_k, q_c1, q_c2, q_nil, q_cons, q_c, q_call, q_callK, pick, q_b, q_tru, q_not, q_and, q_or, q_ifE, q_andV, q_orV, q_notV, q_chain, q_seq, q_tnx, q_trt, q_txn, q_tbk, q_tct, q_skip, q_drop, q_ret, q_retN, q_bk, q_ct, q_set, q_par, q_par3, q_if, q_raise, q_mt, q_mt0, q_end0, q_endr, q_endx, q_lt, q_le, q_gt, q_ge, q_sub, q_add, q_neg, q_inti, q_intb, q_max, q_min, q_lenT, q_lenF, q_truT, q_truF, q_truB, q_truI, q_ixT, q_ixF, at_0, at_1, er_int, er_bl, er_str, er_non, er_tup, er_flst, er_ref, er_obj, er_ty, er_gl, q_lst, q_tup, q_cutT, q_pn, q_ps, q_slT, q_itS, seqL_t, sz_0, sz_1, sz_2, sz_3, sz_4, sz_5, sz_6, sz_7, sz_8, sz_9, sz_10, sz_11, sz_12, sz_13, sz_14, ok_seqT, q_cntT, ok_lst get_new, q_app get_new, hl2, set_new, q_sumT]

abbrev calD (born : List Int) (days : List (List Int)) : D := .obj cal calN [iT born, .tup (dsD days)]
theorem fld_b {b : List Int} {d : List (List Int)} {h : Hc} : gFld cal "born" (calD b d) h = some (iT b, h) := id rfl
theorem fld_d {b : List Int} {d : List (List Int)} {h : Hc} : gFld cal "days" (calD b d) h = some (.tup (dsD d), h) := id rfl
theorem cnt_len : ∀ (b : List Int) (ds : List (List Int)) (n : Int) (d : Nat), (cnt b ds n d).length = ds.length + 1
  | _, [], _, _ => rfl
  | b, p :: r, n, d => by
    simp only [cnt, List.length_cons]
    rw [cnt_len]
def lessL (p : List Int) : Int := p.sum - p.length
def lostL : List (List Int) → Int
  | [] => 0
  | p :: r => lessL p + lostL r
def bornBy (b : List Int) (d : Int) : Int := ((b.filter fun x => decide (x ≤ d)).length : Nat)
theorem bornBy_cons {x : Int} {l : List Int} {d : Int} : bornBy (x :: l) d = (if x ≤ d then 1 else 0) + bornBy l d := by
  unfold bornBy
  rw [List.filter_cons]
  by_cases c : x ≤ d
  · simp [c]; omega
  · simp [c]
theorem bornBy_next : ∀ (l : List Int) (d : Int), bornBy l (d + 1) = bornBy l d + (l.count (d + 1) : Nat)
  | [], _ => rfl
  | x :: l, d => by
    rw [bornBy_cons, bornBy_cons, bornBy_next l d, List.count_cons]
    by_cases c : x ≤ d
    · have c2 : x ≤ d + 1 := by omega
      have c3 : ¬ x = d + 1 := by omega
      simp [c, c2, c3]; omega
    · by_cases c3 : x = d + 1
      · simp [c, c3]; omega
      · have c2 : ¬ x ≤ d + 1 := by omega
        simp [c, c2, c3]
theorem bornBy_neg : ∀ (l : List Int), (∀ x ∈ l, 0 ≤ x) → bornBy l (-1) = 0
  | [], _ => rfl
  | x :: l, h => by
    rw [bornBy_cons, bornBy_neg l fun y hy => h y (by simp [hy])]
    have := h x (by simp)
    rw [if_neg (by omega)]; rfl
theorem cnt_get : ∀ (b : List Int) (ds : List (List Int)) (now : Int) (d i : Nat), i ≤ ds.length → (cnt b ds now d)[i]? = some (now + bornBy b ((d + i : Nat) : Int) - bornBy b ((d : Int) - 1) - lostL (ds.take i))
  | b, ds, now, d, 0, _ => by
    have e := bornBy_next b ((d : Int) - 1)
    have e2 : (d : Int) - 1 + 1 = d := by omega
    rw [e2] at e
    cases ds with
    | nil => simp [cnt, lostL, e]; omega
    | cons p r => simp [cnt, lostL, e]; omega
  | b, [], now, d, i + 1, h => by simp at h
  | b, p :: r, now, d, i + 1, h => by
    simp only [cnt, List.getElem?_cons_succ]
    rw [cnt_get b r _ (d + 1) i (by simpa using h)]
    have e := bornBy_next b ((d : Int) - 1)
    have e2 : (d : Int) - 1 + 1 = d := by omega
    rw [e2] at e
    have e3 : ((d + 1 : Nat) : Int) - 1 = d := by omega
    have e4 : d + 1 + i = d + (i + 1) := by omega
    rw [e3, e4]
    simp only [List.take_succ_cons, lostL, lessL]
    congr 1
    omega
theorem cnt_at {b : List Int} {ds : List (List Int)} {i : Nat} (hb : ∀ x ∈ b, 0 ≤ x) (hi : i ≤ ds.length) : (cnt b ds 0 0)[i]? = some (bornBy b i - lostL (ds.take i)) := by
  rw [cnt_get b ds 0 0 i hi]
  have : bornBy b (((0 : Nat) : Int) - 1) = 0 := bornBy_neg b hb
  rw [this]
  simp
structure PatV (p : List Int) : Prop where
  two : ∀ x ∈ p, 2 ≤ x
  fall : ∀ (i : Nat) (h : i + 1 < p.length), p[i + 1] ≤ p[i]
theorem num_int {i : Int} {h : Hc} : m_is_number [.int i] h = .ok (.bl true) h := by
  unfold m_is_number runD b_is_number
  simp [q_bok, q_bxn, q_ofok, q_ofxn, q_vo, q_var, q_k, q_c1, q_c2, q_nil, q_cons, q_c, q_call, q_callK, pick, q_b, q_tru, q_not, q_and, q_or, q_ifE, q_andV, q_orV, q_notV, q_chain, q_seq, q_tnx, q_trt, q_txn, q_tbk, q_tct, q_skip, q_drop, q_ret, q_retN, q_bk, q_ct, q_set, q_par, q_par3, q_if, q_raise, q_mt, q_mt0, q_end0, q_endr, q_endx, q_lt, q_le, q_gt, q_ge, q_sub, q_add, q_neg, q_inti, q_intb, q_max, q_min, q_lenT, q_lenF, q_truT, q_truF, q_truB, q_truI, q_ixT, q_ixF, at_0, at_1, er_int, er_bl, er_str, er_non, er_tup, er_flst, er_ref, er_obj, er_ty, er_gl, q_lst, q_tup, q_cutT, q_pn, q_ps, q_slT, q_itS, seqL_t, sz_0, sz_1, sz_2, sz_3, sz_4, sz_5, sz_6, sz_7, sz_8, sz_9, sz_10, sz_11, sz_12, sz_13, sz_14, isi_int, isi_intb]
theorem pat_ok {p : List Int} {h : Hc} (v : PatV p) (hl : p.length ≤ 100) : wE (m_is_pattern [iT p] h) fun r h' => r = .bl true ∧ ∃ l, h' = h ++ l := by
  have sz : (200 : Nat) < sizeLine := by decide
  obtain ⟨A, gA, c1⟩ : ∃ A : List Bool, A.all id = true ∧ cCompB (.nm 2) cYes (cAndV (cCall m_is_number (cCons (cVar 2) cNil)) (Sx.c2 gGe (cVar 2) (cK (.int 2)))) (wipeD [some (iT p), none, none] [2]) (iL p) h = .ok (A.map D.bl) h := by
    refine ⟨p.map fun _ => true, by simp, ?_⟩
    rw [List.map_map]
    refine comp_all D.int _ p fun a ha => ⟨_, rfl, ?_⟩
    have := v.two a ha
    simp [q_bok, q_bxn, q_ofok, q_ofxn, q_vo, q_var, q_k, q_c1, q_c2, q_nil, q_cons, q_c, q_call, q_callK, pick, q_b, q_tru, q_not, q_and, q_or, q_ifE, q_andV, q_orV, q_notV, q_chain, q_seq, q_tnx, q_trt, q_txn, q_tbk, q_tct, q_skip, q_drop, q_ret, q_retN, q_bk, q_ct, q_set, q_par, q_par3, q_if, q_raise, q_mt, q_mt0, q_end0, q_endr, q_endx, q_lt, q_le, q_gt, q_ge, q_sub, q_add, q_neg, q_inti, q_intb, q_max, q_min, q_lenT, q_lenF, q_truT, q_truF, q_truB, q_truI, q_ixT, q_ixF, at_0, at_1, er_int, er_bl, er_str, er_non, er_tup, er_flst, er_ref, er_obj, er_ty, er_gl, q_lst, q_tup, q_cutT, q_pn, q_ps, q_slT, q_itS, seqL_t, sz_0, sz_1, sz_2, sz_3, sz_4, sz_5, sz_6, sz_7, sz_8, sz_9, sz_10, sz_11, sz_12, sz_13, sz_14, wipeD, num_int, this]
  have d1 := q_comp (ci := cItS (cVar 0)) (l := iL p) (h := h) (ρ := [some (iT p), none, none]) (vs := [2]) (by simp [q_bok, q_bxn, q_ofok, q_ofxn, q_vo, q_var, q_k, q_c1, q_c2, q_nil, q_cons, q_c, q_call, q_callK, pick, q_b, q_tru, q_not, q_and, q_or, q_ifE, q_andV, q_orV, q_notV, q_chain, q_seq, q_tnx, q_trt, q_txn, q_tbk, q_tct, q_skip, q_drop, q_ret, q_retN, q_bk, q_ct, q_set, q_par, q_par3, q_if, q_raise, q_mt, q_mt0, q_end0, q_endr, q_endx, q_lt, q_le, q_gt, q_ge, q_sub, q_add, q_neg, q_inti, q_intb, q_max, q_min, q_lenT, q_lenF, q_truT, q_truF, q_truB, q_truI, q_ixT, q_ixF, at_0, at_1, er_int, er_bl, er_str, er_non, er_tup, er_flst, er_ref, er_obj, er_ty, er_gl, q_lst, q_tup, q_cutT, q_pn, q_ps, q_slT, q_itS, seqL_t, sz_0, sz_1, sz_2, sz_3, sz_4, sz_5, sz_6, sz_7, sz_8, sz_9, sz_10, sz_11, sz_12, sz_13, sz_14]) (by simp; omega) c1
  generalize hh : h ++ [(false, O.lst (A.map D.bl))] = h1 at d1
  have g1 : gAll [.ref h.length] h1 = some (.bl true, h1) := by rw [← hh, q_allR get_new, gA]
  obtain ⟨B, gB, c2⟩ : ∃ B : List Bool, B.all id = true ∧ cCompB (.nm 1) cYes (Sx.c2 gGe (Sx.c2 gIx (cVar 0) (Sx.c2 gSub (cVar 1) (cK (.int 1)))) (Sx.c2 gIx (cVar 0) (cVar 1))) (wipeD [some (iT p), none, none] [1]) ((List.range ((p.length : Int) - 1).toNat).map fun (k : Nat) => .int (1 + (k : Int))) h1 = .ok (B.map D.bl) h1 := by
    refine ⟨(List.range ((p.length : Int) - 1).toNat).map fun _ => true, by simp, ?_⟩
    rw [List.map_map]
    refine comp_all (fun (k : Nat) => .int (1 + (k : Int))) _ (List.range ((p.length : Int) - 1).toNat) fun a ha => ⟨_, asg_nm, ?_⟩
    have ha2 : a < ((p.length : Int) - 1).toNat := by simpa using ha
    have hlt : a + 1 < p.length := by omega
    have i1 : L2.atI (iL p) (1 + (a : Int)) = some (.int p[a + 1]) := by
      have := at_nat (l := iL p) (i := a + 1) (d := .int p[a + 1]) (by simp [hlt])
      have e : ((a + 1 : Nat) : Int) = 1 + (a : Int) := by omega
      rwa [e] at this
    have i2 : L2.atI (iL p) (1 + (a : Int) - 1) = some (.int p[a]) := by
      have := at_nat (l := iL p) (i := a) (d := .int p[a]) (by simp [Nat.lt_of_succ_lt hlt])
      have e : 1 + (a : Int) - 1 = (a : Int) := by omega
      rw [e]; exact this
    have f := v.fall a hlt
    simp only [q_c2, q_var, q_k, wipeD, List.set_cons_succ, List.set_cons_zero, List.getElem?_cons_succ, List.getElem?_cons_zero, er_tup, er_int, Bool.false_eq_true, if_false, q_bok, q_sub, q_vo, q_ixT, i1, i2, q_ge, f, decide_true, Function.comp]
  have d2 := q_comp (ci := cItR2 (cK (.int 1)) (cC gLen (cCons (cVar 0) cNil))) (l := (List.range ((p.length : Int) - 1).toNat).map fun (k : Nat) => .int (1 + (k : Int))) (h := h1) (ρ := [some (iT p), none, none]) (vs := [1])
    (q_itR2 (h1 := h1) (by simp [q_bok, q_bxn, q_ofok, q_ofxn, q_vo, q_var, q_k, q_c1, q_c2, q_nil, q_cons, q_c, q_call, q_callK, pick, q_b, q_tru, q_not, q_and, q_or, q_ifE, q_andV, q_orV, q_notV, q_chain, q_seq, q_tnx, q_trt, q_txn, q_tbk, q_tct, q_skip, q_drop, q_ret, q_retN, q_bk, q_ct, q_set, q_par, q_par3, q_if, q_raise, q_mt, q_mt0, q_end0, q_endr, q_endx, q_lt, q_le, q_gt, q_ge, q_sub, q_add, q_neg, q_inti, q_intb, q_max, q_min, q_lenT, q_lenF, q_truT, q_truF, q_truB, q_truI, q_ixT, q_ixF, at_0, at_1, er_int, er_bl, er_str, er_non, er_tup, er_flst, er_ref, er_obj, er_ty, er_gl, q_lst, q_tup, q_cutT, q_pn, q_ps, q_slT, q_itS, seqL_t, sz_0, sz_1, sz_2, sz_3, sz_4, sz_5, sz_6, sz_7, sz_8, sz_9, sz_10, sz_11, sz_12, sz_13, sz_14]) (j := (p.length : Nat)) (by simp [q_bok, q_bxn, q_ofok, q_ofxn, q_vo, q_var, q_k, q_c1, q_c2, q_nil, q_cons, q_c, q_call, q_callK, pick, q_b, q_tru, q_not, q_and, q_or, q_ifE, q_andV, q_orV, q_notV, q_chain, q_seq, q_tnx, q_trt, q_txn, q_tbk, q_tct, q_skip, q_drop, q_ret, q_retN, q_bk, q_ct, q_set, q_par, q_par3, q_if, q_raise, q_mt, q_mt0, q_end0, q_endr, q_endx, q_lt, q_le, q_gt, q_ge, q_sub, q_add, q_neg, q_inti, q_intb, q_max, q_min, q_lenT, q_lenF, q_truT, q_truF, q_truB, q_truI, q_ixT, q_ixF, at_0, at_1, er_int, er_bl, er_str, er_non, er_tup, er_flst, er_ref, er_obj, er_ty, er_gl, q_lst, q_tup, q_cutT, q_pn, q_ps, q_slT, q_itS, seqL_t, sz_0, sz_1, sz_2, sz_3, sz_4, sz_5, sz_6, sz_7, sz_8, sz_9, sz_10, sz_11, sz_12, sz_13, sz_14]) (by omega) (by omega) (by omega) (by omega)) (by simp; omega) c2
  have g2 := q_allR (l := B) (get_new (h := h1) (p := (false, .lst (B.map D.bl))))
  rw [gB] at g2
  refine wE.of (a := .bl true) (h := h1 ++ [(false, .lst (B.map D.bl))]) ?_ ⟨rfl, [(false, .lst (A.map D.bl)), (false, .lst (B.map D.bl))], by rw [← hh]; simp⟩
  unfold m_is_pattern runD b_is_pattern
  simp [q_bok, q_bxn, q_ofok, q_ofxn, q_vo, q_var, q_k, q_c1, q_c2, q_nil, q_cons, q_c, q_call, q_callK, pick, q_b, q_tru, q_not, q_and, q_or, q_ifE, q_andV, q_orV, q_notV, q_chain, q_seq, q_tnx, q_trt, q_txn, q_tbk, q_tct, q_skip, q_drop, q_ret, q_retN, q_bk, q_ct, q_set, q_par, q_par3, q_if, q_raise, q_mt, q_mt0, q_end0, q_endr, q_endx, q_lt, q_le, q_gt, q_ge, q_sub, q_add, q_neg, q_inti, q_intb, q_max, q_min, q_lenT, q_lenF, q_truT, q_truF, q_truB, q_truI, q_ixT, q_ixF, at_0, at_1, er_int, er_bl, er_str, er_non, er_tup, er_flst, er_ref, er_obj, er_ty, er_gl, q_lst, q_tup, q_cutT, q_pn, q_ps, q_slT, q_itS, seqL_t, sz_0, sz_1, sz_2, sz_3, sz_4, sz_5, sz_6, sz_7, sz_8, sz_9, sz_10, sz_11, sz_12, sz_13, sz_14, isi_tup, d1, d2, g1, g2]

structure CalV (born : List Int) (days : List (List Int)) : Prop where
  b1 : 1 ≤ born.length
  b2 : born.length ≤ 12
  d2 : days.length ≤ 11
  pat : ∀ p ∈ days, PatV p ∧ p ≠ [] ∧ p.length ≤ 100
  inb : ∀ x ∈ born, 0 ≤ x ∧ x ≤ days.length
  few : ∀ (d : Nat) (p : List Int) (n : Int), days[d]? = some p → (cnt born days 0 0)[d]? = some n → p.sum ≤ n
theorem made_ok {b : List Int} {ds : List (List Int)} {h : Hc} (v : CalV b ds) : wE (m_made_calendar [iT b, .tup (dsD ds)] h) fun r h' => r = calD b ds ∧ ∃ l, h' = h ++ l := by
  unfold m_made_calendar
  refine wE_run rfl ?_
  unfold b_made_calendar
  have l1 : (1 : Int) ≤ (b.length : Nat) := by have := v.b1; omega
  have l2 : ((b.length : Nat) : Int) ≤ 12 := by have := v.b2; omega
  have l3 : ¬ (11 : Int) < (ds.length : Nat) := by have := v.d2; omega
  refine wS_step (ρ' := [some (iT b), some (.tup (dsD ds)), none, none, none, none, none]) (h' := h) (by simp [q_bok, q_bxn, q_ofok, q_ofxn, q_vo, q_var, q_k, q_c1, q_c2, q_nil, q_cons, q_c, q_call, q_callK, pick, q_b, q_tru, q_not, q_and, q_or, q_ifE, q_andV, q_orV, q_notV, q_chain, q_seq, q_tnx, q_trt, q_txn, q_tbk, q_tct, q_skip, q_drop, q_ret, q_retN, q_bk, q_ct, q_set, q_par, q_par3, q_if, q_raise, q_mt, q_mt0, q_end0, q_endr, q_endx, q_lt, q_le, q_gt, q_ge, q_sub, q_add, q_neg, q_inti, q_intb, q_max, q_min, q_lenT, q_lenF, q_truT, q_truF, q_truB, q_truI, q_ixT, q_ixF, at_0, at_1, er_int, er_bl, er_str, er_non, er_tup, er_flst, er_ref, er_obj, er_ty, er_gl, q_lst, q_tup, q_cutT, q_pn, q_ps, q_slT, q_itS, seqL_t, sz_0, sz_1, sz_2, sz_3, sz_4, sz_5, sz_6, sz_7, sz_8, sz_9, sz_10, sz_11, sz_12, sz_13, sz_14, l1, l2]) ?_
  refine wS_step (ρ' := [some (iT b), some (.tup (dsD ds)), none, none, none, none, none]) (h' := h) (by simp [q_bok, q_bxn, q_ofok, q_ofxn, q_vo, q_var, q_k, q_c1, q_c2, q_nil, q_cons, q_c, q_call, q_callK, pick, q_b, q_tru, q_not, q_and, q_or, q_ifE, q_andV, q_orV, q_notV, q_chain, q_seq, q_tnx, q_trt, q_txn, q_tbk, q_tct, q_skip, q_drop, q_ret, q_retN, q_bk, q_ct, q_set, q_par, q_par3, q_if, q_raise, q_mt, q_mt0, q_end0, q_endr, q_endx, q_lt, q_le, q_gt, q_ge, q_sub, q_add, q_neg, q_inti, q_intb, q_max, q_min, q_lenT, q_lenF, q_truT, q_truF, q_truB, q_truI, q_ixT, q_ixF, at_0, at_1, er_int, er_bl, er_str, er_non, er_tup, er_flst, er_ref, er_obj, er_ty, er_gl, q_lst, q_tup, q_cutT, q_pn, q_ps, q_slT, q_itS, seqL_t, sz_0, sz_1, sz_2, sz_3, sz_4, sz_5, sz_6, sz_7, sz_8, sz_9, sz_10, sz_11, sz_12, sz_13, sz_14, l3]) ?_
  refine wS_loop ?_
  rw [q_for (l := numb 0 (dsD ds)) (h1 := h) (by simp [q_itE, q_bok, q_bxn, q_ofok, q_ofxn, q_vo, q_var, q_k, q_c1, q_c2, q_nil, q_cons, q_c, q_call, q_callK, pick, q_b, q_tru, q_not, q_and, q_or, q_ifE, q_andV, q_orV, q_notV, q_chain, q_seq, q_tnx, q_trt, q_txn, q_tbk, q_tct, q_skip, q_drop, q_ret, q_retN, q_bk, q_ct, q_set, q_par, q_par3, q_if, q_raise, q_mt, q_mt0, q_end0, q_endr, q_endx, q_lt, q_le, q_gt, q_ge, q_sub, q_add, q_neg, q_inti, q_intb, q_max, q_min, q_lenT, q_lenF, q_truT, q_truF, q_truB, q_truI, q_ixT, q_ixF, at_0, at_1, er_int, er_bl, er_str, er_non, er_tup, er_flst, er_ref, er_obj, er_ty, er_gl, q_lst, q_tup, q_cutT, q_pn, q_ps, q_slT, q_itS, seqL_t, sz_0, sz_1, sz_2, sz_3, sz_4, sz_5, sz_6, sz_7, sz_8, sz_9, sz_10, sz_11, sz_12, sz_13, sz_14])]
  refine for_inv (fun l ρ h1 => ∃ (rem : List (List Int)) (d : Nat) (x y : Option D), l = numb d (dsD rem) ∧ (∀ p ∈ rem, p ∈ ds) ∧ ρ = [some (iT b), some (.tup (dsD ds)), x, y, none, none, none] ∧ ∃ t, h1 = h ++ t) ?_ ?_ _ _ _ ⟨ds, 0, none, none, rfl, fun _ z => z, rfl, [], by simp⟩
  rotate_left
  · rintro dd r ρ h1 ⟨rem, d, x, y, e, hm, rfl, t, rfl⟩
    cases rem with
    | nil => cases e
    | cons p rem =>
      rw [dsD, List.map_cons, numb_cons] at e
      cases e
      obtain ⟨v1, v2, v3⟩ := v.pat p (hm p (by simp))
      obtain ⟨_, h2, e2, rfl, u, rfl⟩ := (pat_ok (h := h ++ t) v1 v3).eq
      have e3 : gEq (iT p) (.tup []) (h ++ t ++ u) = some (.bl (decide (p = [])), h ++ t ++ u) := q_eqT (b := [])
      have e4 : decide (p = []) = false := decide_eq_false v2
      refine ⟨_, asg_t2, ?_⟩
      refine wS.of (f := .nx) (ρ := [some (iT b), some (.tup (dsD ds)), some (.int d), some (iT p), none, none, none]) (h := h ++ t ++ u) ?_ ⟨rem, d + 1, _, _, rfl, fun q z => hm q (by simp [z]), rfl, t ++ u, by simp⟩
      simp [q_bok, q_bxn, q_ofok, q_ofxn, q_vo, q_var, q_k, q_c1, q_c2, q_nil, q_cons, q_c, q_call, q_callK, pick, q_b, q_tru, q_not, q_and, q_or, q_ifE, q_andV, q_orV, q_notV, q_chain, q_seq, q_tnx, q_trt, q_txn, q_tbk, q_tct, q_skip, q_drop, q_ret, q_retN, q_bk, q_ct, q_set, q_par, q_par3, q_if, q_raise, q_mt, q_mt0, q_end0, q_endr, q_endx, q_lt, q_le, q_gt, q_ge, q_sub, q_add, q_neg, q_inti, q_intb, q_max, q_min, q_lenT, q_lenF, q_truT, q_truF, q_truB, q_truI, q_ixT, q_ixF, at_0, at_1, er_int, er_bl, er_str, er_non, er_tup, er_flst, er_ref, er_obj, er_ty, er_gl, q_lst, q_tup, q_cutT, q_pn, q_ps, q_slT, q_itS, seqL_t, sz_0, sz_1, sz_2, sz_3, sz_4, sz_5, sz_6, sz_7, sz_8, sz_9, sz_10, sz_11, sz_12, sz_13, sz_14, e2, e3, v2, -List.append_assoc]
  · rintro ρ h1 ⟨rem, d, x, y, e, hm, rfl, t, rfl⟩
    cases rem with
    | cons p rem => rw [dsD, List.map_cons, numb_cons] at e; cases e
    | nil =>
      refine wS_loop ?_
      rw [q_for (l := numb 0 (iL b)) (h1 := h ++ t) (by simp [q_itE, q_bok, q_bxn, q_ofok, q_ofxn, q_vo, q_var, q_k, q_c1, q_c2, q_nil, q_cons, q_c, q_call, q_callK, pick, q_b, q_tru, q_not, q_and, q_or, q_ifE, q_andV, q_orV, q_notV, q_chain, q_seq, q_tnx, q_trt, q_txn, q_tbk, q_tct, q_skip, q_drop, q_ret, q_retN, q_bk, q_ct, q_set, q_par, q_par3, q_if, q_raise, q_mt, q_mt0, q_end0, q_endr, q_endx, q_lt, q_le, q_gt, q_ge, q_sub, q_add, q_neg, q_inti, q_intb, q_max, q_min, q_lenT, q_lenF, q_truT, q_truF, q_truB, q_truI, q_ixT, q_ixF, at_0, at_1, er_int, er_bl, er_str, er_non, er_tup, er_flst, er_ref, er_obj, er_ty, er_gl, q_lst, q_tup, q_cutT, q_pn, q_ps, q_slT, q_itS, seqL_t, sz_0, sz_1, sz_2, sz_3, sz_4, sz_5, sz_6, sz_7, sz_8, sz_9, sz_10, sz_11, sz_12, sz_13, sz_14])]
      refine for_inv (fun l ρ h1 => ∃ (rem : List Int) (d : Nat) (z w : Option D), l = numb d (iL rem) ∧ (∀ p ∈ rem, p ∈ b) ∧ ρ = [some (iT b), some (.tup (dsD ds)), x, y, z, w, none] ∧ h1 = h ++ t) ?_ ?_ _ _ _ ⟨b, 0, none, none, rfl, fun _ z => z, rfl, rfl⟩
      rotate_left
      · rintro dd r ρ h1 ⟨rem, d, z, w, e, hm, rfl, rfl⟩
        cases rem with
        | nil => cases e
        | cons p rem =>
          rw [iL, List.map_cons, numb_cons] at e
          cases e
          obtain ⟨v1, v2⟩ := v.inb p (hm p (by simp))
          refine ⟨_, asg_t2, ?_⟩
          refine wS.of (f := .nx) (ρ := [some (iT b), some (.tup (dsD ds)), x, y, some (.int d), some (.int p), none]) (h := h ++ t) ?_ ⟨rem, d + 1, _, _, rfl, fun q z => hm q (by simp [z]), rfl, rfl⟩
          simp [q_bok, q_bxn, q_ofok, q_ofxn, q_vo, q_var, q_k, q_c1, q_c2, q_nil, q_cons, q_c, q_call, q_callK, pick, q_b, q_tru, q_not, q_and, q_or, q_ifE, q_andV, q_orV, q_notV, q_chain, q_seq, q_tnx, q_trt, q_txn, q_tbk, q_tct, q_skip, q_drop, q_ret, q_retN, q_bk, q_ct, q_set, q_par, q_par3, q_if, q_raise, q_mt, q_mt0, q_end0, q_endr, q_endx, q_lt, q_le, q_gt, q_ge, q_sub, q_add, q_neg, q_inti, q_intb, q_max, q_min, q_lenT, q_lenF, q_truT, q_truF, q_truB, q_truI, q_ixT, q_ixF, at_0, at_1, er_int, er_bl, er_str, er_non, er_tup, er_flst, er_ref, er_obj, er_ty, er_gl, q_lst, q_tup, q_cutT, q_pn, q_ps, q_slT, q_itS, seqL_t, sz_0, sz_1, sz_2, sz_3, sz_4, sz_5, sz_6, sz_7, sz_8, sz_9, sz_10, sz_11, sz_12, sz_13, sz_14, num_int, v1, v2]
      · rintro ρ h1 ⟨rem, d, z, w, e, hm, rfl, rfl⟩
        cases rem with
        | cons p rem => rw [iL, List.map_cons, numb_cons] at e; cases e
        | nil =>
          obtain ⟨_, h2, e2, rfl, u, rfl, g⟩ := (counts_w (born := b) (days := ds) (h := h ++ t) (by have := v.d2; omega)).eq
          generalize hn : (h ++ t).length + 2 = n at e2 g
          refine wS_step (ρ' := [some (iT b), some (.tup (dsD ds)), x, y, z, w, some (.ref n)]) (h' := h ++ t ++ u) (by simp [q_bok, q_bxn, q_ofok, q_ofxn, q_vo, q_var, q_k, q_c1, q_c2, q_nil, q_cons, q_c, q_call, q_callK, pick, q_b, q_tru, q_not, q_and, q_or, q_ifE, q_andV, q_orV, q_notV, q_chain, q_seq, q_tnx, q_trt, q_txn, q_tbk, q_tct, q_skip, q_drop, q_ret, q_retN, q_bk, q_ct, q_set, q_par, q_par3, q_if, q_raise, q_mt, q_mt0, q_end0, q_endr, q_endx, q_lt, q_le, q_gt, q_ge, q_sub, q_add, q_neg, q_inti, q_intb, q_max, q_min, q_lenT, q_lenF, q_truT, q_truF, q_truB, q_truI, q_ixT, q_ixF, at_0, at_1, er_int, er_bl, er_str, er_non, er_tup, er_flst, er_ref, er_obj, er_ty, er_gl, q_lst, q_tup, q_cutT, q_pn, q_ps, q_slT, q_itS, seqL_t, sz_0, sz_1, sz_2, sz_3, sz_4, sz_5, sz_6, sz_7, sz_8, sz_9, sz_10, sz_11, sz_12, sz_13, sz_14, e2, -List.append_assoc]) ?_
          refine wS_loop ?_
          rw [q_for (l := numb 0 (dsD ds)) (h1 := h ++ t ++ u) (by simp [q_itE, q_bok, q_bxn, q_ofok, q_ofxn, q_vo, q_var, q_k, q_c1, q_c2, q_nil, q_cons, q_c, q_call, q_callK, pick, q_b, q_tru, q_not, q_and, q_or, q_ifE, q_andV, q_orV, q_notV, q_chain, q_seq, q_tnx, q_trt, q_txn, q_tbk, q_tct, q_skip, q_drop, q_ret, q_retN, q_bk, q_ct, q_set, q_par, q_par3, q_if, q_raise, q_mt, q_mt0, q_end0, q_endr, q_endx, q_lt, q_le, q_gt, q_ge, q_sub, q_add, q_neg, q_inti, q_intb, q_max, q_min, q_lenT, q_lenF, q_truT, q_truF, q_truB, q_truI, q_ixT, q_ixF, at_0, at_1, er_int, er_bl, er_str, er_non, er_tup, er_flst, er_ref, er_obj, er_ty, er_gl, q_lst, q_tup, q_cutT, q_pn, q_ps, q_slT, q_itS, seqL_t, sz_0, sz_1, sz_2, sz_3, sz_4, sz_5, sz_6, sz_7, sz_8, sz_9, sz_10, sz_11, sz_12, sz_13, sz_14, -List.append_assoc])]
          refine for_inv (fun l ρ h1 => ∃ (rem : List (List Int)) (d : Nat) (x y : Option D), l = numb d (dsD rem) ∧ rem = ds.drop d ∧ ρ = [some (iT b), some (.tup (dsD ds)), x, y, z, w, some (.ref n)] ∧ h1 = h ++ t ++ u) ?_ ?_ _ _ _ ⟨ds, 0, _, _, rfl, by simp, rfl, rfl⟩
          · rintro ρ h1 ⟨rem, d, x, y, e, hm, rfl, rfl⟩
            refine wS_ret (d := calD b ds) (h' := h ++ t ++ u) (by simp [q_bok, q_bxn, q_ofok, q_ofxn, q_vo, q_var, q_k, q_c1, q_c2, q_nil, q_cons, q_c, q_call, q_callK, pick, q_b, q_tru, q_not, q_and, q_or, q_ifE, q_andV, q_orV, q_notV, q_chain, q_seq, q_tnx, q_trt, q_txn, q_tbk, q_tct, q_skip, q_drop, q_ret, q_retN, q_bk, q_ct, q_set, q_par, q_par3, q_if, q_raise, q_mt, q_mt0, q_end0, q_endr, q_endx, q_lt, q_le, q_gt, q_ge, q_sub, q_add, q_neg, q_inti, q_intb, q_max, q_min, q_lenT, q_lenF, q_truT, q_truF, q_truB, q_truI, q_ixT, q_ixF, at_0, at_1, er_int, er_bl, er_str, er_non, er_tup, er_flst, er_ref, er_obj, er_ty, er_gl, q_lst, q_tup, q_cutT, q_pn, q_ps, q_slT, q_itS, seqL_t, sz_0, sz_1, sz_2, sz_3, sz_4, sz_5, sz_6, sz_7, sz_8, sz_9, sz_10, sz_11, sz_12, sz_13, sz_14, gCal, -List.append_assoc]) ⟨rfl, t ++ u, by simp⟩
          · rintro dd r ρ h1 ⟨rem, d, x, y, e, hm, rfl, rfl⟩
            cases rem with
            | nil => cases e
            | cons p rem =>
              rw [dsD, List.map_cons, numb_cons] at e
              cases e
              have hp : ds[d]? = some p := by
                have := congrArg (fun l : List (List Int) => l[0]?) hm
                simpa using this.symm
              have hd := (List.getElem?_eq_some_iff.mp hp).1
              have hl : d < (cnt b ds 0 0).length := by rw [cnt_len]; omega
              have i : L2.atI (iL (cnt b ds 0 0)) (d : Int) = some (.int (cnt b ds 0 0)[d]) := at_nat (by simp [hl])
              have f := v.few d p _ hp (List.getElem?_eq_getElem hl)
              have f' : ¬ (cnt b ds 0 0)[d] < p.sum := by omega
              refine ⟨_, asg_t2, ?_⟩
              refine wS.of (f := .nx) (ρ := [some (iT b), some (.tup (dsD ds)), some (.int d), some (iT p), z, w, some (.ref n)]) (h := h ++ t ++ u) ?_ ⟨rem, d + 1, _, _, rfl, ?_, rfl, rfl⟩
              · simp [q_bok, q_bxn, q_ofok, q_ofxn, q_vo, q_var, q_k, q_c1, q_c2, q_nil, q_cons, q_c, q_call, q_callK, pick, q_b, q_tru, q_not, q_and, q_or, q_ifE, q_andV, q_orV, q_notV, q_chain, q_seq, q_tnx, q_trt, q_txn, q_tbk, q_tct, q_skip, q_drop, q_ret, q_retN, q_bk, q_ct, q_set, q_par, q_par3, q_if, q_raise, q_mt, q_mt0, q_end0, q_endr, q_endx, q_lt, q_le, q_gt, q_ge, q_sub, q_add, q_neg, q_inti, q_intb, q_max, q_min, q_lenT, q_lenF, q_truT, q_truF, q_truB, q_truI, q_ixT, q_ixF, at_0, at_1, er_int, er_bl, er_str, er_non, er_tup, er_flst, er_ref, er_obj, er_ty, er_gl, q_lst, q_tup, q_cutT, q_pn, q_ps, q_slT, q_itS, seqL_t, sz_0, sz_1, sz_2, sz_3, sz_4, sz_5, sz_6, sz_7, sz_8, sz_9, sz_10, sz_11, sz_12, sz_13, sz_14, q_sumT, q_ixR g, i, f', -List.append_assoc]
              · have := congrArg List.tail hm
                simpa using this

structure Kp (n : Nat) (h : Hc) (L : List (Nat × List D)) (h1 : Hc) : Prop where
  go : Go n h h1
  at_ : ∀ a c, (a, c) ∈ L → h1[a]? = some (false, .lst c)
  far : ∀ a c, (a, c) ∈ L → h.length ≤ a
section
variable {n : Nat} {h h1 h2 : Hc} {L : List (Nat × List D)}
theorem Kp.app (k : Kp n h L h1) (l : Hc) : Kp n h L (h1 ++ l) :=
  ⟨k.go.app l, fun a c m => by rw [List.getElem?_append_left (List.getElem?_eq_some_iff.mp (k.at_ a c m)).1]; exact k.at_ a c m, k.far⟩
theorem Kp.step (k : Kp n h L h1) (hn : n < h.length) (g : Go n h1 h2) : Kp n h L h2 :=
  ⟨k.go.trans g, fun a c m => (g.keep a (List.getElem?_eq_some_iff.mp (k.at_ a c m)).1 (by have := k.far a c m; omega)).trans (k.at_ a c m), k.far⟩
theorem Kp.add (k : Kp n h L h1) (c : List D) : Kp n h ((h1.length, c) :: L) (h1 ++ [(false, .lst c)]) :=
  ⟨k.go.app _, fun a x m => by
    rcases List.mem_cons.mp m with z | z
    · cases z; exact get_new
    · exact (k.app _).at_ a x z, fun a x m => by
    rcases List.mem_cons.mp m with z | z
    · cases z; exact k.go.len
    · exact k.far a x z⟩
theorem Kp.sub {L' : List (Nat × List D)} (k : Kp n h L h1) (s : ∀ p ∈ L', p ∈ L) : Kp n h L' h1 := ⟨k.go, fun a c m => k.at_ a c (s _ m), fun a c m => k.far a c (s _ m)⟩
theorem Kp.put {a : Nat} {c c' : List D} (k : Kp n h ((a, c) :: L) h1) (hn : n < h.length) (ne : ∀ p ∈ L, p.1 ≠ a) : Kp n h ((a, c') :: L) (h1.set a (false, .lst c')) :=
  ⟨k.go.put (k.far a c (by simp)) hn _, fun b x m => by
    rcases List.mem_cons.mp m with z | z
    · cases z; exact get_set (k.at_ a c (by simp))
    · rw [List.getElem?_set_ne (Ne.symm (ne _ z))]; exact k.at_ b x (by simp [z]), fun b x m => by
    rcases List.mem_cons.mp m with z | z
    · cases z; exact k.far a c (by simp)
    · exact k.far b x (by simp [z])⟩
end
theorem sum_len : ∀ (p : List Int), (∀ x ∈ p, 2 ≤ x) → (p.length : Int) ≤ p.sum
  | [], _ => by simp
  | x :: p, h => by
    have := sum_len p fun y hy => h y (by simp [hy])
    have := h x (by simp)
    simp; omega
theorem PatV.less {p : List Int} (v : PatV p) : 0 ≤ lessL p := by
  have := sum_len p v.two
  unfold lessL; omega
structure DaysV (W : List Int) (D : List (List Int)) : Prop where
  pat : ∀ p ∈ D, PatV p ∧ p ≠ [] ∧ p.length ≤ 100
  few : ∀ (i : Nat) (p : List Int), D[i]? = some p → p.sum ≤ bornBy W i - lostL (D.take i)
end Gk

set_option Elab.async false
set_option linter.all false
set_option maxRecDepth 100000
namespace Gk
open PySem Sx
theorem for_ix {α : Type} {t : TGT} {b : CS} {Q : Fl → Rho → Hc → Prop} (mk : α → D) (L : List α) (I : Nat → Rho → Hc → Prop)
    (step : ∀ (i : Nat) (a : α) (ρ : Rho) (h : Hc), L[i]? = some a → I i ρ h → ∃ ρ1, asg t (mk a) ρ = some ρ1 ∧ wS (b ρ1 h) fun f ρ2 h2 => match f with | .nx => I (i + 1) ρ2 h2 | .ct => I (i + 1) ρ2 h2 | .bk => Q .nx ρ2 h2 | f => Q f ρ2 h2)
    (end_ : ∀ ρ h, I L.length ρ h → Q .nx ρ h) {ρ : Rho} {h : Hc} (start : I 0 ρ h) : wS (cForB t b (L.map mk) ρ h) Q := by
  refine for_inv (fun l ρ h => ∃ i, i ≤ L.length ∧ l = (L.drop i).map mk ∧ I i ρ h) ?_ ?_ _ _ _ ⟨0, by omega, by simp, start⟩
  · rintro ρ h ⟨i, hi, e, k⟩
    have e2 := congrArg List.length e
    simp at e2
    have : i = L.length := by omega
    subst this
    exact end_ ρ h k
  · rintro d r ρ h ⟨i, hi, e, k⟩
    have lt : i < L.length := by
      apply Nat.lt_of_not_le
      intro z
      rw [List.drop_eq_nil_of_le z] at e
      cases e
    rw [List.drop_eq_getElem_cons lt, List.map_cons] at e
    cases e
    obtain ⟨ρ1, e1, w⟩ := step i L[i] ρ h (List.getElem?_eq_getElem lt) k
    refine ⟨ρ1, e1, w.mono fun f ρ2 h2 q => ?_⟩
    cases f with
    | nx => exact ⟨i + 1, lt, rfl, q⟩
    | ct => exact ⟨i + 1, lt, rfl, q⟩
    | bk => exact q
    | ret d => exact q
    | exn c x => exact q
theorem range_at {n i a : Nat} (h : (List.range n)[i]? = some a) : a = i ∧ i < n := by
  obtain ⟨h1, h2⟩ := List.getElem?_eq_some_iff.mp h
  simp at h1 h2
  exact ⟨h2.symm, h1⟩
theorem Ap.ge {h h1 : Hc} {i : Nat} (a : Ap h h1) (hi : h1.length ≤ i) : h.length ≤ i := Nat.le_trans a.len hi
theorem wS_bind2 {x y : CS} {ρ : Rho} {h : Hc} {S : Fl → Rho → Hc → Prop} {R : Rho → Hc → Prop} (w : wS (x ρ h) fun f ρ h => match f with | .nx => R ρ h | f => S f ρ h) (k : ∀ ρ h, R ρ h → wS (y ρ h) S) : wS (cSeq x y ρ h) S :=
  wS_loop (w.mono fun f ρ h q => by
    cases f with
    | nx => exact k _ _ q
    | _ => exact q)
theorem sum_twice : ∀ (p : List Int), (∀ x ∈ p, 2 ≤ x) → 2 * (p.length : Int) ≤ p.sum
  | [], _ => by simp
  | x :: p, h => by
    have := sum_twice p fun y hy => h y (by simp [hy])
    have := h x (by simp)
    simp; omega
theorem le_sumT : ∀ (p : List Int), (∀ x ∈ p, 2 ≤ x) → ∀ a ∈ p, a ≤ p.sum
  | [], _, a, h => by simp at h
  | x :: p, h, a, ha => by
    have h1 := sum_twice p fun y hy => h y (by simp [hy])
    have hx := h x (by simp)
    rw [List.sum_cons]
    rcases List.mem_cons.mp ha with rfl | ha
    · omega
    · have := le_sumT p (fun y hy => h y (by simp [hy])) a ha
      omega

theorem pu_list {l : List D} (hl : l.all (pu 8) = true) : ∃ ps, PDs l ps ∧ (∀ h : Hc, toS (.tup l) h = some (.tuple ps)) ∧ ∀ (h : Hc) (n : Nat) (f : Bool), h[n]? = some (f, .lst l) → toS (.ref n) h = some (.list ps) := by
  have e : pu 9 (.tup l) = true := hl
  obtain ⟨p, a, b, c, k⟩ := pu_PD 9 _ e
  cases a with
  | tup a =>
    rename_i ps
    refine ⟨ps, a, fun h => ?_, fun h n f g => ?_⟩
    · unfold toS
      rw [k h 9 (Nat.le_refl _)]
      have s : SeqAt.shaped (.tuple ps) = true := by
        unfold SeqAt.shaped
        rw [b, Bool.true_and]
        exact decide_eq_true (by omega)
      simp only [s, if_true]
    · have m : mapO (toP h 8) l = some ps := by
        have := k h 9 (Nat.le_refl _)
        simp only [toP] at this
        cases q : mapO (toP h 8) l with
        | none => rw [q] at this; simp at this
        | some r => rw [q] at this; simp at this; rw [this]
      unfold toS
      simp only [toP, g, m]
      have s : SeqAt.shaped (.list ps) = true := by
        unfold SeqAt.shaped
        simp only [PyData.canLay0, PyData.depth] at b c ⊢
        rw [b, Bool.true_and]
        exact decide_eq_true (by omega)
      simp only [s, if_true]

theorem leR_an {a b : List Int} (h1 : leR a b = true) (h2 : leR b a = true) : a = b := Std.le_antisymm (of_decide_eq_true h1) (of_decide_eq_true h2)
theorem sortR_uniq {a b : List (List Int)} (p : a.Perm b) (s : a.Pairwise (fun a b => leR a b = true)) : a = sortR b := by
  have q : a.Perm (sortR b) := p.trans (sortR_perm b).symm
  exact List.Perm.eq_of_pairwise (le := fun a b => leR a b = true) (fun a b _ _ h1 h2 => leR_an h1 h2) s (sortR_sorted b) q

def lastOr (k : Int) (p : List Int) : Int := if p = [] then k else p.getLastD 0
def capL (k : Int) (p : List Int) : Int := if lastOr k p < k - p.sum then lastOr k p else k - p.sum
def extL (k : Int) (p : List Int) : List (List Int) := (List.range (capL k p + 1 - 2).toNat).map fun (i : Nat) => p ++ [2 + (i : Int)]
def lstL (k : Int) : Nat → List (List Int)
  | 0 => [[]]
  | t + 1 => ((lstL k t).map (extL k)).flatten
structure VP (k : Int) (p : List Int) : Prop where
  two : ∀ x ∈ p, 2 ≤ x
  fall : p.Pairwise (fun a b => b ≤ a)
  sum : p.sum ≤ k
theorem last_min : ∀ {p : List Int}, p.Pairwise (fun a b => b ≤ a) → ∀ a ∈ p, p.getLastD 0 ≤ a
  | [], _, a, h => by simp at h
  | [x], _, a, h => by simp at h; subst h; simp
  | x :: y :: p, f, a, h => by
    obtain ⟨f1, f2⟩ := List.pairwise_cons.mp f
    have ih := last_min f2
    have e : (x :: y :: p).getLastD 0 = (y :: p).getLastD 0 := rfl
    rw [e]
    rcases List.mem_cons.mp h with rfl | h
    · have := ih y (by simp)
      have := f1 y (by simp)
      omega
    · exact ih a h
theorem VP.ext {k : Int} {p q : List Int} (v : VP k p) (h : q ∈ extL k p) : VP k q := by
  unfold extL at h
  obtain ⟨i, hi, rfl⟩ := List.mem_map.mp h
  have hi := List.mem_range.mp hi
  have c1 : 2 + (i : Int) ≤ capL k p := by omega
  have c2 : capL k p ≤ k - p.sum ∧ capL k p ≤ lastOr k p := by unfold capL; split <;> omega
  refine ⟨fun x hx => ?_, List.pairwise_append.mpr ⟨v.fall, List.pairwise_singleton _ _, fun a ha c hc => ?_⟩, ?_⟩
  · rcases List.mem_append.mp hx with z | z
    · exact v.two x z
    · simp at z; omega
  · simp at hc
    subst hc
    have ne : p ≠ [] := by rintro rfl; simp at ha
    have := last_min v.fall a ha
    have e : lastOr k p = p.getLastD 0 := if_neg ne
    omega
  · rw [List.sum_append]; simp; omega
theorem lst_vp {k : Int} (k0 : 0 ≤ k) : ∀ (t : Nat) (p : List Int), p ∈ lstL k t → VP k p
  | 0, p, h => by
    simp [lstL] at h
    subst h
    exact ⟨by simp, List.Pairwise.nil, by simpa using k0⟩
  | t + 1, p, h => by
    obtain ⟨l, h1, h2⟩ := List.mem_flatten.mp h
    obtain ⟨q, hq, rfl⟩ := List.mem_map.mp h1
    exact (lst_vp k0 t q hq).ext h2
theorem VP.sum0 {k : Int} {p : List Int} (v : VP k p) : 0 ≤ p.sum := by
  have := sum_twice p v.two
  omega
theorem VP.last {k : Int} {p : List Int} (v : VP k p) (ne : p ≠ []) : 2 ≤ p.getLastD 0 ∧ p.getLastD 0 ≤ k := by
  have hm : p.getLastD 0 ∈ p := by
    rw [List.getLastD_eq_getLast?, List.getLast?_eq_some_getLast ne]
    exact List.getLast_mem ne
  have h1 := v.two _ hm
  have h2 := le_sumT p v.two _ hm
  have := v.sum
  exact ⟨h1, by omega⟩
theorem at_lastI {p : List Int} (ne : p ≠ []) : L2.atI (iL p) (-1) = some (.int (p.getLastD 0)) := by
  have l0 := List.length_pos_iff.mpr ne
  have e : (iL p).getLast? = some (.int (p.getLastD 0)) := by
    rw [iL, List.getLast?_map, List.getLastD_eq_getLast?, List.getLast?_eq_some_getLast ne]
    rfl
  exact at_last e
theorem q_addRow {a c : List Int} {h : Hc} (z : a.length + c.length ≤ 200) : gAdd (iT a) (iT c) h = some (iT (a ++ c), h) := by
  have sz : (200 : Nat) < sizeLine := by decide
  rw [q_addT (by simp; omega)]; simp

end Gk

set_option Elab.async false
set_option linter.all false
set_option maxRecDepth 100000
namespace Gk
open PySem Sx
def stkD (k : Int) (p : List Int) : D := .tup [iT p, .int (k - p.sum)]
def pstep (k : Int) (s : List (List Int) × List (List Int)) : List (List Int) × List (List Int) := match s.2.getLast? with
  | none => s
  | some p => (s.1 ++ extL k p, s.2.dropLast ++ extL k p)
def pst (k : Int) : Nat → List (List Int) × List (List Int)
  | 0 => ([], [[]])
  | j + 1 => pstep k (pst k j)
theorem pst_few : ∀ k : Nat, k < 13 → (pst (k : Int) 90).2 = [] ∧ ∀ j : Nat, j < 91 → (pst (k : Int) j).1.length ≤ 100 ∧ (pst (k : Int) j).2.length ≤ 100 := by decide +kernel
theorem pst_vp {k : Int} (k0 : 0 ≤ k) : ∀ j : Nat, (∀ p ∈ (pst k j).1, VP k p ∧ p ≠ []) ∧ ∀ p ∈ (pst k j).2, VP k p
  | 0 => ⟨fun p h => by simp [pst] at h, fun p h => lst_vp k0 0 p h⟩
  | j + 1 => by
    obtain ⟨h1, h2⟩ := pst_vp k0 j
    simp only [pst, pstep]
    cases e : (pst k j).2.getLast? with
    | none => exact ⟨h1, h2⟩
    | some p =>
      have hp := h2 p (List.mem_of_getLast? e)
      have ne : ∀ q ∈ extL k p, q ≠ [] := fun q hq => by
        unfold extL at hq
        obtain ⟨i, _, rfl⟩ := List.mem_map.mp hq
        simp
      refine ⟨fun q hq => ?_, fun q hq => ?_⟩
      · rcases List.mem_append.mp hq with z | z
        · exact h1 q z
        · exact ⟨hp.ext z, ne q z⟩
      · rcases List.mem_append.mp hq with z | z
        · exact h2 q ((List.dropLast_sublist _).subset z)
        · exact hp.ext z
theorem any_tail {l : List D} (hl : l.all (pu 8) = true) {h : Hc} {n m : Nat} {f g : Bool} (e1 : h[n]? = some (f, .lst l)) (e2 : h[m]? = some (g, .lst [])) : gNe (.ref n) (.ref m) h = some (.bl (decide (l ≠ [])), h) := by
  obtain ⟨ps, a, _, k1⟩ := pu_list hl
  obtain ⟨qs, b, _, k2⟩ := pu_list (l := []) rfl
  have e : PyData.eqvAll ps qs = decide (l = []) := Bool.eq_iff_iff.mpr (by
    rw [PDs.eqv a b]; simp)
  simp only [gNe, eqD, k1 h n f e1, k2 h m g e2, PyData.eqv, e]
  by_cases c : l = [] <;> simp [c]
theorem pu_stk (k : Int) (S : List (List Int)) : (S.map (stkD k)).all (pu 8) = true := by
  simp only [List.all_map, List.all_eq_true]
  intro p _
  show ([iT p, D.int (k - p.sum)].all (pu 7)) = true
  rw [List.all_cons, List.all_cons, pu_iT, pu_int]; rfl
theorem q_pop0 {h : Hc} {n : Nat} {l : List D} {d : D} (e : h[n]? = some (false, .lst l)) (z : l.getLast? = some d) : gPop0 (.ref n) h = some (d, h.set n (false, .lst l.dropLast)) := by
  rw [List.getLast?_eq_getElem?] at z
  unfold gPop0
  simp only [wrL, e, z]
theorem q_srtR1 {l : List (List Int)} {h : Hc} {n : Nat} {f : Bool} (g : h[n]? = some (f, .lst (rL l))) : gSrt [.ref n] h = some (.ref h.length, h ++ [(false, .lst (rL (sortR l)))]) := by
  cases l with
  | nil =>
    have e : gSorted [.ref n] h = some (.ref h.length, h ++ [(false, .lst ([].map D.int))]) := by
      unfold gSorted
      simp only [g]
      rfl
    unfold gSrt
    rw [e]
    simp [sortR]
  | cons a l => exact q_srtR0 (by simp) g
theorem things_ok {k : Nat} {h : Hc} (k12 : k ≤ 12) : m_want_things [.int (k : Nat)] h = .ok .non h := by
  have h0 : (0 : Int) ≤ (k : Nat) := by omega
  have h1 : ((k : Nat) : Int) ≤ 12 := by omega
  unfold m_want_things runD b_want_things
  simp [q_bok, q_bxn, q_ofok, q_ofxn, q_vo, q_var, q_k, q_c1, q_c2, q_nil, q_cons, q_c, q_call, q_callK, pick, q_b, q_tru, q_not, q_and, q_or, q_ifE, q_andV, q_orV, q_notV, q_chain, q_seq, q_tnx, q_trt, q_txn, q_tbk, q_tct, q_skip, q_drop, q_ret, q_retN, q_bk, q_ct, q_set, q_par, q_par3, q_if, q_raise, q_mt, q_mt0, q_end0, q_endr, q_endx, q_lt, q_le, q_gt, q_ge, q_sub, q_add, q_neg, q_inti, q_intb, q_max, q_min, q_lenT, q_lenF, q_truT, q_truF, q_truB, q_truI, q_ixT, q_ixF, at_0, at_1, er_int, er_bl, er_str, er_non, er_tup, er_flst, er_ref, er_obj, er_ty, er_gl, q_lst, q_tup, q_cutT, q_pn, q_ps, q_slT, q_itS, seqL_t, sz_0, sz_1, sz_2, sz_3, sz_4, sz_5, sz_6, sz_7, sz_8, sz_9, sz_10, sz_11, sz_12, sz_13, sz_14, h0, h1]
theorem patterns_w {k : Nat} {h : Hc} (k12 : k ≤ 12) : ∃ h', m_patterns [.int (k : Nat)] h = .ok (.tup (rL (sortR (pst (k : Int) 90).1))) h' ∧ Ap h h' := by
  have sz : (3000 : Nat) < sizeLine := by decide
  obtain ⟨pe, pf⟩ := pst_few k (by omega)
  suffices w : wE (m_patterns [.int (k : Nat)] h) fun r h' => r = .tup (rL (sortR (pst (k : Int) 90).1)) ∧ Ap h h' by
    obtain ⟨_, h', e, rfl, ap⟩ := w.eq
    exact ⟨h', e, ap⟩
  unfold m_patterns
  refine wE_run rfl ?_
  unfold b_patterns
  have e0 := things_ok (k := k) (h := h) k12
  refine wS_step (ρ' := [some (.int (k : Nat)), none, none, none, none, none, none]) (h' := h) (by simp [q_bok, q_bxn, q_ofok, q_ofxn, q_vo, q_var, q_k, q_c1, q_c2, q_nil, q_cons, q_c, q_call, q_callK, pick, q_b, q_tru, q_not, q_and, q_or, q_ifE, q_andV, q_orV, q_notV, q_chain, q_seq, q_tnx, q_trt, q_txn, q_tbk, q_tct, q_skip, q_drop, q_ret, q_retN, q_bk, q_ct, q_set, q_par, q_par3, q_if, q_raise, q_mt, q_mt0, q_end0, q_endr, q_endx, q_lt, q_le, q_gt, q_ge, q_sub, q_add, q_neg, q_inti, q_intb, q_max, q_min, q_lenT, q_lenF, q_truT, q_truF, q_truB, q_truI, q_ixT, q_ixF, at_0, at_1, er_int, er_bl, er_str, er_non, er_tup, er_flst, er_ref, er_obj, er_ty, er_gl, q_lst, q_tup, q_cutT, q_pn, q_ps, q_slT, q_itS, seqL_t, sz_0, sz_1, sz_2, sz_3, sz_4, sz_5, sz_6, sz_7, sz_8, sz_9, sz_10, sz_11, sz_12, sz_13, sz_14, e0]) ?_
  have gt0 : ∀ h : Hc, gTupD [] h = some (.tup [], h) := fun h => id rfl
  have gt2 : ∀ (d e : D) (h : Hc), gTupD [d, e] h = some (.tup [d, e], h) := fun d e h => id rfl
  have gt1 : ∀ (d : D) (h : Hc), gTupD [d] h = some (.tup [d], h) := fun d h => id rfl
  have el0 : ∀ h : Hc, gLstD [] h = some (.ref h.length, h ++ [(false, .lst [])]) := fun h => q_lst (by decide)
  have sk0 : D.tup [.tup [], .int (k : Nat)] = stkD (k : Int) [] := by unfold stkD; simp
  have el1 : ∀ h : Hc, gLstD [stkD (k : Int) []] h = some (.ref h.length, h ++ [(false, .lst [stkD (k : Int) []])]) := fun h => q_lst (by simp only [List.length_cons, List.length_nil]; omega)
  refine wS_step (ρ' := [some (.int (k : Nat)), some (.ref h.length), some (.ref (h ++ [(false, O.lst [])]).length), none, none, none, none]) (h' := h ++ [(false, .lst [])] ++ [(false, .lst [stkD (k : Int) []])]) (by
    have er0 : (D.tup []).isErr = false := rfl
    have er1 : (stkD (k : Int) []).isErr = false := rfl
    generalize stkD (k : Int) [] = SK at *
    simp only [q_bok, q_bxn, q_ofok, q_ofxn, q_vo, q_var, q_k, q_c1, q_c2, q_nil, q_cons, q_c, q_call, q_callK, pick, q_b, q_tru, q_not, q_and, q_or, q_ifE, q_andV, q_orV, q_notV, q_chain, q_seq, q_tnx, q_trt, q_txn, q_tbk, q_tct, q_skip, q_drop, q_ret, q_retN, q_bk, q_ct, q_set, q_par, q_par3, q_if, q_raise, q_mt, q_mt0, q_end0, q_endr, q_endx, q_lt, q_le, q_gt, q_ge, q_sub, q_add, q_neg, q_inti, q_intb, q_max, q_min, q_lenT, q_lenF, q_truT, q_truF, q_truB, q_truI, q_ixT, q_ixF, at_0, at_1, er_int, er_bl, er_str, er_non, er_tup, er_flst, er_ref, er_obj, er_ty, er_gl, q_tup, q_cutT, q_pn, q_ps, q_slT, q_itS, seqL_t, sz_0, sz_1, sz_2, sz_3, sz_4, sz_5, sz_6, sz_7, sz_8, sz_9, sz_10, sz_11, sz_12, sz_13, sz_14, List.getElem?_cons_succ, List.getElem?_cons_zero, List.set_cons_succ, List.set_cons_zero, Bool.false_eq_true, if_false, gt0, gt2, sk0, el0, el1]) ?_
  have gf : (h ++ [(false, O.lst [])] ++ [(false, O.lst [stkD (k : Int) []])])[h.length]? = some (false, .lst (rL (pst (k : Int) 0).1)) := (Ap.new (h := h ++ [(false, O.lst [])]) _).get get_new
  have gl : (h ++ [(false, O.lst [])] ++ [(false, O.lst [stkD (k : Int) []])])[(h ++ [(false, O.lst [])]).length]? = some (false, .lst ((pst (k : Int) 0).2.map (stkD k))) := get_new
  have ap0 : Ap h (h ++ [(false, O.lst [])] ++ [(false, O.lst [stkD (k : Int) []])]) := (Ap.new _).app _
  have le0 : h.length < (h ++ [(false, O.lst [])]).length := by simp
  generalize (h ++ [(false, O.lst [])]).length = l at *
  generalize h ++ [(false, O.lst [])] ++ [(false, O.lst [stkD (k : Int) []])] = h0 at *
  have stop : ∀ j : Nat, 90 ≤ j → pst (k : Int) j = pst (k : Int) 90 := fun j hj => by
    obtain ⟨t, rfl⟩ : ∃ t, j = 90 + t := ⟨j - 90, by omega⟩
    induction t with
    | zero => rfl
    | succ t ih =>
      have ih := ih (by omega)
      show pstep _ (pst _ (90 + t)) = _
      rw [ih]
      unfold pstep
      rw [pe]
      rfl
  refine wS_bind2 (R := fun ρ h1 => ∃ x2 x3 x4 x5 x6, ρ = [some (.int (k : Nat)), some (.ref h.length), x2, x3, x4, x5, x6] ∧ Ap h h1 ∧ h1[h.length]? = some (false, .lst (rL (pst (k : Int) 90).1))) ?_ ?_
  · refine while_inv (fun m ρ h1 => ∃ (j : Nat) (x3 x4 x5 x6 : Option D), j ≤ 90 ∧ m = 90 - j ∧ ρ = [some (.int (k : Nat)), some (.ref h.length), some (.ref l), x3, x4, x5, x6] ∧ Ap h h1 ∧ h1[h.length]? = some (false, .lst (rL (pst (k : Int) j).1)) ∧ h1[l]? = some (false, .lst ((pst (k : Int) j).2.map (stkD k)))) ?_ 1000 90 _ _ (by omega) ⟨0, _, _, _, _, by omega, rfl, rfl, ap0, gf, gl⟩
    rintro m ρ h1 ⟨j, x3, x4, x5, x6, hj, rfl, rfl, ap1, gf, gl⟩
    have fl := pf j (by omega)
    have gl2 := (Ap.new (h := h1) [(false, O.lst [])]).get gl
    have gf2 := (Ap.new (h := h1) [(false, O.lst [])]).get gf
    have qn := any_tail (pu_stk (k : Int) (pst (k : Int) j).2) gl2 (get_new (h := h1) (p := (false, O.lst [])))
    have e : cB (Sx.c2 gNe (cVar 2) (cC gLstD (cNil))) [some (.int (k : Nat)), some (.ref h.length), some (.ref l), x3, x4, x5, x6] h1 = .ok (decide ((pst (k : Int) j).2.map (stkD k) ≠ [])) (h1 ++ [(false, .lst [])]) := by
      have e1 := el0 h1
      generalize decide ((pst (k : Int) j).2.map (stkD k) ≠ []) = B at *
      simp [q_bok, q_bxn, q_ofok, q_ofxn, q_vo, q_var, q_k, q_c1, q_c2, q_nil, q_cons, q_c, q_call, q_callK, pick, q_b, q_tru, q_not, q_and, q_or, q_ifE, q_andV, q_orV, q_notV, q_chain, q_seq, q_tnx, q_trt, q_txn, q_tbk, q_tct, q_skip, q_drop, q_ret, q_retN, q_bk, q_ct, q_set, q_par, q_par3, q_if, q_raise, q_mt, q_mt0, q_end0, q_endr, q_endx, q_lt, q_le, q_gt, q_ge, q_sub, q_add, q_neg, q_inti, q_intb, q_max, q_min, q_lenT, q_lenF, q_truT, q_truF, q_truB, q_truI, q_ixT, q_ixF, at_0, at_1, er_int, er_bl, er_str, er_non, er_tup, er_flst, er_ref, er_obj, er_ty, er_gl, q_tup, q_cutT, q_pn, q_ps, q_slT, q_itS, seqL_t, sz_0, sz_1, sz_2, sz_3, sz_4, sz_5, sz_6, sz_7, sz_8, sz_9, sz_10, sz_11, sz_12, sz_13, sz_14, e1, qn]
    rw [e, wX_ok]
    have ap2 : Ap h (h1 ++ [(false, .lst [])]) := ap1.app _
    generalize h1 ++ [(false, O.lst [])] = h2 at *
    cases z : (pst (k : Int) j).2.getLast? with
    | none =>
      have em := List.getLast?_eq_none_iff.mp z
      rw [em]
      have fin : pst (k : Int) 90 = pst (k : Int) j := by
        have st : ∀ t, pst (k : Int) (j + t) = pst (k : Int) j := fun t => by
          induction t with
          | zero => rfl
          | succ t ih =>
            show pstep _ (pst _ (j + t)) = _
            rw [ih]
            unfold pstep
            rw [z]
        have := st (90 - j)
        rwa [show j + (90 - j) = 90 by omega] at this
      have df : decide (([] : List (List Int)).map (stkD k) ≠ []) = false := by simp
      rw [df]
      dsimp only
      rw [fin]
      exact ⟨_, _, _, _, _, rfl, ap2, gf2⟩
    | some p =>
      have ne : (pst (k : Int) j).2 ≠ [] := fun q => by rw [q] at z; simp at z
      have jl : j < 90 := by
        apply Nat.lt_of_not_le
        intro q
        exact ne (by rw [stop j q]; exact pe)
      have dt : decide ((pst (k : Int) j).2.map (stkD k) ≠ []) = true := by simp [ne]
      rw [dt]
      dsimp only
      obtain ⟨v1, v2⟩ := pst_vp (k := (k : Int)) (by omega) j
      have v := v2 p (List.mem_of_getLast? z)
      have s0 := v.sum0
      have s1 := v.sum
      have pt := sum_twice p v.two
      have z2 : ((pst (k : Int) j).2.map (stkD k)).getLast? = some (stkD k p) := by rw [List.getLast?_map, z]; rfl
      have qp := q_pop0 gl2 z2
      have okl := ok_lst gl2
      have er1 : (stkD (k : Int) p).isErr = false := rfl
      have nxt : pst (k : Int) (j + 1) = ((pst (k : Int) j).1 ++ extL k p, (pst (k : Int) j).2.dropLast ++ extL k p) := by
        show pstep _ (pst _ j) = _
        unfold pstep
        rw [z]
      have fl1 := pf (j + 1) (by omega)
      rw [nxt] at fl1
      have gf3 : (h2.set l (false, O.lst ((pst (k : Int) j).2.map (stkD k)).dropLast))[h.length]? = some (false, .lst (rL (pst (k : Int) j).1)) := by rw [List.getElem?_set_ne (by omega)]; exact gf2
      have gl3 : (h2.set l (false, O.lst ((pst (k : Int) j).2.map (stkD k)).dropLast))[l]? = some (false, .lst ((pst (k : Int) j).2.dropLast.map (stkD k))) := by rw [get_set gl2, List.map_dropLast]
      have ap3 : Ap h (h2.set l (false, O.lst ((pst (k : Int) j).2.map (stkD k)).dropLast)) := ap2.put (by omega) _
      refine wS_step (ρ' := [some (.int (k : Nat)), some (.ref h.length), some (.ref l), some (iT p), some (.int ((k : Int) - p.sum)), x5, x6]) (h' := h2.set l (false, .lst ((pst (k : Int) j).2.map (stkD k)).dropLast)) (by
        have as2 : asg (.tp [.nm 3, .nm 4]) (stkD (k : Int) p) [some (.int (k : Nat)), some (.ref h.length), some (.ref l), x3, x4, x5, x6] = some [some (.int (k : Nat)), some (.ref h.length), some (.ref l), some (iT p), some (.int ((k : Int) - p.sum)), x5, x6] := id rfl
        generalize stkD (k : Int) p = SK at *
        simp only [q_asg, q_mt0, q_bok, q_bxn, q_ofok, q_ofxn, q_vo, q_var, q_k, q_c1, q_c2, q_nil, q_cons, q_c, q_call, q_callK, pick, q_b, q_tru, q_not, q_and, q_or, q_ifE, q_andV, q_orV, q_notV, q_chain, q_seq, q_tnx, q_trt, q_txn, q_tbk, q_tct, q_skip, q_drop, q_ret, q_retN, q_bk, q_ct, q_set, q_par, q_par3, q_if, q_raise, q_mt, q_mt0, q_end0, q_endr, q_endx, q_lt, q_le, q_gt, q_ge, q_sub, q_add, q_neg, q_inti, q_intb, q_max, q_min, q_lenT, q_lenF, q_truT, q_truF, q_truB, q_truI, q_ixT, q_ixF, at_0, at_1, er_int, er_bl, er_str, er_non, er_tup, er_flst, er_ref, er_obj, er_ty, er_gl, q_tup, q_cutT, q_pn, q_ps, q_slT, q_itS, seqL_t, sz_0, sz_1, sz_2, sz_3, sz_4, sz_5, sz_6, sz_7, sz_8, sz_9, sz_10, sz_11, sz_12, sz_13, sz_14, List.getElem?_cons_succ, List.getElem?_cons_zero, Bool.false_eq_true, if_false, if_true, okl, qp, as2]) ?_
      generalize h2.set l (false, O.lst ((pst (k : Int) j).2.map (stkD k)).dropLast) = h3 at *
      have cp : -1000 ≤ capL (k : Int) p ∧ capL (k : Int) p ≤ 12 := by
        have lo : 2 ≤ lastOr (k : Int) p ∨ lastOr (k : Int) p = k := by
          unfold lastOr
          by_cases c : p = []
          · rw [if_pos c]; omega
          · rw [if_neg c]; have := v.last c; omega
        unfold capL
        split <;> omega
      refine wS_step (ρ' := [some (.int (k : Nat)), some (.ref h.length), some (.ref l), some (iT p), some (.int ((k : Int) - p.sum)), some (.int (capL (k : Int) p)), x6]) (h' := h3) (by
        have erp : (iT p).isErr = false := rfl
        by_cases c : p = []
        · have tr : cTru (cVar 3) [some (.int (k : Nat)), some (.ref h.length), some (.ref l), some (iT p), some (.int ((k : Int) - p.sum)), x5, x6] h3 = .ok false h3 := by
            subst c
            simp [q_bok, q_bxn, q_ofok, q_ofxn, q_vo, q_var, q_k, q_c1, q_c2, q_nil, q_cons, q_c, q_call, q_callK, pick, q_b, q_tru, q_not, q_and, q_or, q_ifE, q_andV, q_orV, q_notV, q_chain, q_seq, q_tnx, q_trt, q_txn, q_tbk, q_tct, q_skip, q_drop, q_ret, q_retN, q_bk, q_ct, q_set, q_par, q_par3, q_if, q_raise, q_mt, q_mt0, q_end0, q_endr, q_endx, q_lt, q_le, q_gt, q_ge, q_sub, q_add, q_neg, q_inti, q_intb, q_max, q_min, q_lenT, q_lenF, q_truT, q_truF, q_truB, q_truI, q_ixT, q_ixF, at_0, at_1, er_int, er_bl, er_str, er_non, er_tup, er_flst, er_ref, er_obj, er_ty, er_gl, q_lst, q_tup, q_cutT, q_pn, q_ps, q_slT, q_itS, seqL_t, sz_0, sz_1, sz_2, sz_3, sz_4, sz_5, sz_6, sz_7, sz_8, sz_9, sz_10, sz_11, sz_12, sz_13, sz_14]
          have ec : capL (k : Int) p = (k : Int) - p.sum := by
            unfold capL lastOr
            rw [if_pos c]
            subst c
            simp
          rw [ec]
          rw [q_set, q_ifE, tr, q_bok]
          generalize iT p = PP at *
          simp [q_bok, q_bxn, q_ofok, q_ofxn, q_vo, q_var, q_k, q_c1, q_c2, q_nil, q_cons, q_c, q_call, q_callK, pick, q_b, q_tru, q_not, q_and, q_or, q_ifE, q_andV, q_orV, q_notV, q_chain, q_seq, q_tnx, q_trt, q_txn, q_tbk, q_tct, q_skip, q_drop, q_ret, q_retN, q_bk, q_ct, q_set, q_par, q_par3, q_if, q_raise, q_mt, q_mt0, q_end0, q_endr, q_endx, q_lt, q_le, q_gt, q_ge, q_sub, q_add, q_neg, q_inti, q_intb, q_max, q_min, q_lenT, q_lenF, q_truT, q_truF, q_truB, q_truI, q_ixT, q_ixF, at_0, at_1, er_int, er_bl, er_str, er_non, er_tup, er_flst, er_ref, er_obj, er_ty, er_gl, q_lst, q_tup, q_cutT, q_pn, q_ps, q_slT, q_itS, seqL_t, sz_0, sz_1, sz_2, sz_3, sz_4, sz_5, sz_6, sz_7, sz_8, sz_9, sz_10, sz_11, sz_12, sz_13, sz_14]
        · have tr : cTru (cVar 3) [some (.int (k : Nat)), some (.ref h.length), some (.ref l), some (iT p), some (.int ((k : Int) - p.sum)), x5, x6] h3 = .ok true h3 := by
            obtain ⟨a, q, e⟩ := List.exists_cons_of_ne_nil c
            rw [e]
            simp [q_bok, q_bxn, q_ofok, q_ofxn, q_vo, q_var, q_k, q_c1, q_c2, q_nil, q_cons, q_c, q_call, q_callK, pick, q_b, q_tru, q_not, q_and, q_or, q_ifE, q_andV, q_orV, q_notV, q_chain, q_seq, q_tnx, q_trt, q_txn, q_tbk, q_tct, q_skip, q_drop, q_ret, q_retN, q_bk, q_ct, q_set, q_par, q_par3, q_if, q_raise, q_mt, q_mt0, q_end0, q_endr, q_endx, q_lt, q_le, q_gt, q_ge, q_sub, q_add, q_neg, q_inti, q_intb, q_max, q_min, q_lenT, q_lenF, q_truT, q_truF, q_truB, q_truI, q_ixT, q_ixF, at_0, at_1, er_int, er_bl, er_str, er_non, er_tup, er_flst, er_ref, er_obj, er_ty, er_gl, q_lst, q_tup, q_cutT, q_pn, q_ps, q_slT, q_itS, seqL_t, sz_0, sz_1, sz_2, sz_3, sz_4, sz_5, sz_6, sz_7, sz_8, sz_9, sz_10, sz_11, sz_12, sz_13, sz_14]
          have ix2 : gIx (iT p) (.int (-1)) h3 = some (.int (p.getLastD 0), h3) := by rw [q_ixT, at_lastI c]
          have ec : (if p.getLastD 0 < (k : Int) - p.sum then p.getLastD 0 else (k : Int) - p.sum) = capL (k : Int) p := by
            unfold capL lastOr
            rw [if_neg c]
          rw [q_set, q_ifE, tr, q_bok]
          generalize capL (k : Int) p = CP at *
          generalize p.getLastD 0 = LD at *
          generalize iT p = PP at *
          simp [q_bok, q_bxn, q_ofok, q_ofxn, q_vo, q_var, q_k, q_c1, q_c2, q_nil, q_cons, q_c, q_call, q_callK, pick, q_b, q_tru, q_not, q_and, q_or, q_ifE, q_andV, q_orV, q_notV, q_chain, q_seq, q_tnx, q_trt, q_txn, q_tbk, q_tct, q_skip, q_drop, q_ret, q_retN, q_bk, q_ct, q_set, q_par, q_par3, q_if, q_raise, q_mt, q_mt0, q_end0, q_endr, q_endx, q_lt, q_le, q_gt, q_ge, q_sub, q_add, q_neg, q_inti, q_intb, q_max, q_min, q_lenT, q_lenF, q_truT, q_truF, q_truB, q_truI, q_ixT, q_ixF, at_0, at_1, er_int, er_bl, er_str, er_non, er_tup, er_flst, er_ref, er_obj, er_ty, er_gl, q_lst, q_tup, q_cutT, q_pn, q_ps, q_slT, q_itS, seqL_t, sz_0, sz_1, sz_2, sz_3, sz_4, sz_5, sz_6, sz_7, sz_8, sz_9, sz_10, sz_11, sz_12, sz_13, sz_14, erp, ix2, ec]) ?_
      rw [q_for (l := (List.range (capL (k : Int) p + 1 - 2).toNat).map fun (z : Nat) => .int (2 + (z : Int))) (h1 := h3) (q_itR2 (i := 2) (j := capL (k : Int) p + 1) (h1 := h3) rfl (by
        generalize iT p = PP at *
        simp [q_bok, q_bxn, q_ofok, q_ofxn, q_vo, q_var, q_k, q_c1, q_c2, q_nil, q_cons, q_c, q_call, q_callK, pick, q_b, q_tru, q_not, q_and, q_or, q_ifE, q_andV, q_orV, q_notV, q_chain, q_seq, q_tnx, q_trt, q_txn, q_tbk, q_tct, q_skip, q_drop, q_ret, q_retN, q_bk, q_ct, q_set, q_par, q_par3, q_if, q_raise, q_mt, q_mt0, q_end0, q_endr, q_endx, q_lt, q_le, q_gt, q_ge, q_sub, q_add, q_neg, q_inti, q_intb, q_max, q_min, q_lenT, q_lenF, q_truT, q_truF, q_truB, q_truI, q_ixT, q_ixF, at_0, at_1, er_int, er_bl, er_str, er_non, er_tup, er_flst, er_ref, er_obj, er_ty, er_gl, q_lst, q_tup, q_cutT, q_pn, q_ps, q_slT, q_itS, seqL_t, sz_0, sz_1, sz_2, sz_3, sz_4, sz_5, sz_6, sz_7, sz_8, sz_9, sz_10, sz_11, sz_12, sz_13, sz_14]) (by omega) (by omega) (by omega) (by omega))]
      refine for_ix (fun (z : Nat) => D.int (2 + (z : Int))) (List.range (capL (k : Int) p + 1 - 2).toNat) (fun z ρ h5 => ∃ x6, ρ = [some (.int (k : Nat)), some (.ref h.length), some (.ref l), some (iT p), some (.int ((k : Int) - p.sum)), some (.int (capL (k : Int) p)), x6] ∧ Ap h h5 ∧ h5[h.length]? = some (false, .lst (rL ((pst (k : Int) j).1 ++ (extL k p).take z))) ∧ h5[l]? = some (false, .lst (((pst (k : Int) j).2.dropLast ++ (extL k p).take z).map (stkD k)))) ?_ ?_ ⟨_, rfl, ap3, by simpa using gf3, by simpa using gl3⟩
      · rintro z0 z' ρ h5 hz ⟨x6, rfl, ap5, gf5, gl5⟩
        obtain ⟨rfl, lz⟩ := range_at hz
        refine ⟨_, asg_nm, ?_⟩
        have ez : (extL (k : Int) p)[z']? = some (p ++ [2 + (z' : Int)]) := by
          unfold extL
          rw [List.getElem?_map, List.getElem?_range lz]; rfl
        have tk : (extL (k : Int) p).take (z' + 1) = (extL (k : Int) p).take z' ++ [p ++ [2 + (z' : Int)]] := by
          rw [List.take_add_one, ez]; rfl
        have lt1 : ((pst (k : Int) j).1 ++ (extL (k : Int) p).take z').length ≤ 1000 := by
          have := List.length_take_le' z' (extL (k : Int) p)
          simp only [List.length_append] at fl1 ⊢
          omega
        have lt2 : ((pst (k : Int) j).2.dropLast ++ (extL (k : Int) p).take z').length ≤ 1000 := by
          have := List.length_take_le' z' (extL (k : Int) p)
          simp only [List.length_append] at fl1 ⊢
          omega
        have pl : p.length ≤ 12 := by omega
        have ad : ∀ h : Hc, gAdd (iT p) (.tup [.int (2 + (z' : Int))]) h = some (iT (p ++ [2 + (z' : Int)]), h) := fun h => q_addRow (a := p) (c := [2 + (z' : Int)]) (by simp; omega)
        have qa := q_app (d := iT (p ++ [2 + (z' : Int)])) gf5 (by simp only [rL, List.length_map]; omega)
        have e6 : rL ((pst (k : Int) j).1 ++ (extL (k : Int) p).take z') ++ [iT (p ++ [2 + (z' : Int)])] = rL ((pst (k : Int) j).1 ++ (extL (k : Int) p).take (z' + 1)) := by
          rw [tk]
          simp only [rL, List.map_append, List.map_cons, List.map_nil, List.append_assoc]
        rw [e6] at qa
        have okf := ok_lst gf5
        have gl6 : (h5.set h.length (false, O.lst (rL ((pst (k : Int) j).1 ++ (extL (k : Int) p).take (z' + 1)))))[l]? = some (false, .lst (((pst (k : Int) j).2.dropLast ++ (extL k p).take z').map (stkD k))) := by rw [List.getElem?_set_ne (by omega)]; exact gl5
        have gf6 : (h5.set h.length (false, O.lst (rL ((pst (k : Int) j).1 ++ (extL (k : Int) p).take (z' + 1)))))[h.length]? = some (false, .lst (rL ((pst (k : Int) j).1 ++ (extL (k : Int) p).take (z' + 1)))) := get_set gf5
        have ap6 : Ap h (h5.set h.length (false, O.lst (rL ((pst (k : Int) j).1 ++ (extL (k : Int) p).take (z' + 1))))) := ap5.put (Nat.le_refl _) _
        have okl6 := ok_lst gl6
        have sk : D.tup [iT (p ++ [2 + (z' : Int)]), .int ((k : Int) - p.sum - (2 + (z' : Int)))] = stkD (k : Int) (p ++ [2 + (z' : Int)]) := by
          unfold stkD
          congr 3
          rw [List.sum_append]; simp; omega
        have qb := q_app (d := stkD (k : Int) (p ++ [2 + (z' : Int)])) gl6 (by rw [List.length_map]; omega)
        have e7 : ((pst (k : Int) j).2.dropLast ++ (extL (k : Int) p).take z').map (stkD k) ++ [stkD (k : Int) (p ++ [2 + (z' : Int)])] = ((pst (k : Int) j).2.dropLast ++ (extL (k : Int) p).take (z' + 1)).map (stkD k) := by
          rw [tk]
          simp only [List.map_append, List.map_cons, List.map_nil, List.append_assoc]
        rw [e7] at qb
        have er1 : (iT p).isErr = false := rfl
        have er2 : (iT (p ++ [2 + (z' : Int)])).isErr = false := rfl
        have er3 : (stkD (k : Int) (p ++ [2 + (z' : Int)])).isErr = false := rfl
        refine wS_step (ρ' := [some (.int (k : Nat)), some (.ref h.length), some (.ref l), some (iT p), some (.int ((k : Int) - p.sum)), some (.int (capL (k : Int) p)), some (.int (2 + (z' : Int)))]) (h' := h5.set h.length (false, .lst (rL ((pst (k : Int) j).1 ++ (extL (k : Int) p).take (z' + 1))))) (by
          generalize rL ((pst (k : Int) j).1 ++ (extL (k : Int) p).take (z' + 1)) = RR at *
          generalize iT (p ++ [2 + (z' : Int)]) = P2 at *
          generalize iT p = PP at *
          generalize (2 + (z' : Int)) = ZZ at *
          simp only [q_drop, q_mt, q_bok, q_bxn, q_ofok, q_ofxn, q_vo, q_var, q_k, q_c1, q_c2, q_nil, q_cons, q_c, q_call, q_callK, pick, q_b, q_tru, q_not, q_and, q_or, q_ifE, q_andV, q_orV, q_notV, q_chain, q_seq, q_tnx, q_trt, q_txn, q_tbk, q_tct, q_skip, q_drop, q_ret, q_retN, q_bk, q_ct, q_set, q_par, q_par3, q_if, q_raise, q_mt, q_mt0, q_end0, q_endr, q_endx, q_lt, q_le, q_gt, q_ge, q_sub, q_add, q_neg, q_inti, q_intb, q_max, q_min, q_lenT, q_lenF, q_truT, q_truF, q_truB, q_truI, q_ixT, q_ixF, at_0, at_1, er_int, er_bl, er_str, er_non, er_tup, er_flst, er_ref, er_obj, er_ty, er_gl, q_tup, q_cutT, q_pn, q_ps, q_slT, q_itS, seqL_t, sz_0, sz_1, sz_2, sz_3, sz_4, sz_5, sz_6, sz_7, sz_8, sz_9, sz_10, sz_11, sz_12, sz_13, sz_14, List.getElem?_cons_succ, List.getElem?_cons_zero, List.set_cons_succ, List.set_cons_zero, Bool.false_eq_true, if_false, if_true, okf, er1, er2, gt1, ad, qa]) ?_
        generalize h5.set h.length (false, O.lst (rL ((pst (k : Int) j).1 ++ (extL (k : Int) p).take (z' + 1)))) = h6 at *
        refine wS.of (f := .nx) (ρ := [some (.int (k : Nat)), some (.ref h.length), some (.ref l), some (iT p), some (.int ((k : Int) - p.sum)), some (.int (capL (k : Int) p)), some (.int (2 + (z' : Int)))]) (h := h6.set l (false, .lst (((pst (k : Int) j).2.dropLast ++ (extL (k : Int) p).take (z' + 1)).map (stkD k)))) ?_ ⟨_, rfl, ap6.put (by omega) _, ?_, get_set gl6⟩
        · generalize (((pst (k : Int) j).2.dropLast ++ (extL (k : Int) p).take (z' + 1)).map (stkD k)) = RR at *
          generalize stkD (k : Int) (p ++ [2 + (z' : Int)]) = SK at *
          generalize iT (p ++ [2 + (z' : Int)]) = P2 at *
          generalize iT p = PP at *
          generalize (2 + (z' : Int)) = ZZ at *
          simp only [q_drop, q_mt, q_bok, q_bxn, q_ofok, q_ofxn, q_vo, q_var, q_k, q_c1, q_c2, q_nil, q_cons, q_c, q_call, q_callK, pick, q_b, q_tru, q_not, q_and, q_or, q_ifE, q_andV, q_orV, q_notV, q_chain, q_seq, q_tnx, q_trt, q_txn, q_tbk, q_tct, q_skip, q_drop, q_ret, q_retN, q_bk, q_ct, q_set, q_par, q_par3, q_if, q_raise, q_mt, q_mt0, q_end0, q_endr, q_endx, q_lt, q_le, q_gt, q_ge, q_sub, q_add, q_neg, q_inti, q_intb, q_max, q_min, q_lenT, q_lenF, q_truT, q_truF, q_truB, q_truI, q_ixT, q_ixF, at_0, at_1, er_int, er_bl, er_str, er_non, er_tup, er_flst, er_ref, er_obj, er_ty, er_gl, q_tup, q_cutT, q_pn, q_ps, q_slT, q_itS, seqL_t, sz_0, sz_1, sz_2, sz_3, sz_4, sz_5, sz_6, sz_7, sz_8, sz_9, sz_10, sz_11, sz_12, sz_13, sz_14, List.getElem?_cons_succ, List.getElem?_cons_zero, List.set_cons_succ, List.set_cons_zero, Bool.false_eq_true, if_false, if_true, okl6, er1, er2, er3, gt1, gt2, ad, sk, qb]
        · rw [List.getElem?_set_ne (by omega)]; exact gf6
      · rintro ρ h5 ⟨x6, rfl, ap5, gf5, gl5⟩
        have le : (extL (k : Int) p).take (List.range (capL (k : Int) p + 1 - 2).toNat).length = extL (k : Int) p := by
          rw [List.take_of_length_le]
          unfold extL
          rw [List.length_map]
          exact Nat.le_refl _
        rw [le] at gf5 gl5
        refine ⟨90 - (j + 1), by omega, j + 1, _, _, _, _, by omega, rfl, rfl, ap5, ?_, ?_⟩
        · rw [nxt]; exact gf5
        · rw [nxt]; exact gl5
  · rintro ρ h1 ⟨x2, x3, x4, x5, x6, rfl, ap1, gf⟩
    have qs := q_srtR1 gf
    have qt := q_tupR (get_new (h := h1) (p := (false, O.lst (rL (sortR (pst (k : Int) 90).1)))))
    refine wS_ret (d := .tup (rL (sortR (pst (k : Int) 90).1))) (h' := h1 ++ [(false, .lst (rL (sortR (pst (k : Int) 90).1)))]) ?_ ⟨rfl, ap1.app _⟩
    generalize rL (sortR (pst (k : Int) 90).1) = RR at *
    simp [q_bok, q_bxn, q_ofok, q_ofxn, q_vo, q_var, q_k, q_c1, q_c2, q_nil, q_cons, q_c, q_call, q_callK, pick, q_b, q_tru, q_not, q_and, q_or, q_ifE, q_andV, q_orV, q_notV, q_chain, q_seq, q_tnx, q_trt, q_txn, q_tbk, q_tct, q_skip, q_drop, q_ret, q_retN, q_bk, q_ct, q_set, q_par, q_par3, q_if, q_raise, q_mt, q_mt0, q_end0, q_endr, q_endx, q_lt, q_le, q_gt, q_ge, q_sub, q_add, q_neg, q_inti, q_intb, q_max, q_min, q_lenT, q_lenF, q_truT, q_truF, q_truB, q_truI, q_ixT, q_ixF, at_0, at_1, er_int, er_bl, er_str, er_non, er_tup, er_flst, er_ref, er_obj, er_ty, er_gl, q_lst, q_tup, q_cutT, q_pn, q_ps, q_slT, q_itS, seqL_t, sz_0, sz_1, sz_2, sz_3, sz_4, sz_5, sz_6, sz_7, sz_8, sz_9, sz_10, sz_11, sz_12, sz_13, sz_14, qs, qt]

section
variable {b : List Int} {ds : List (List Int)} {h : Hc}
theorem counts_cal (hd : ds.length ≤ 100) : wE (m_counts [calD b ds] h) fun r h' => r = .ref (h.length + 2) ∧ ∃ l, h' = h ++ l ∧ h'[h.length + 2]? = some (false, .lst (iL (cnt b ds 0 0))) := by
  obtain ⟨r, h', e, k⟩ := (counts_w (born := b) (h := h) hd).eq
  refine wE.of ?_ k
  unfold m_counts runD b_counts
  simp [q_bok, q_bxn, q_ofok, q_ofxn, q_vo, q_var, q_k, q_c1, q_c2, q_nil, q_cons, q_c, q_call, q_callK, pick, q_b, q_tru, q_not, q_and, q_or, q_ifE, q_andV, q_orV, q_notV, q_chain, q_seq, q_tnx, q_trt, q_txn, q_tbk, q_tct, q_skip, q_drop, q_ret, q_retN, q_bk, q_ct, q_set, q_par, q_par3, q_if, q_raise, q_mt, q_mt0, q_end0, q_endr, q_endx, q_lt, q_le, q_gt, q_ge, q_sub, q_add, q_neg, q_inti, q_intb, q_max, q_min, q_lenT, q_lenF, q_truT, q_truF, q_truB, q_truI, q_ixT, q_ixF, at_0, at_1, er_int, er_bl, er_str, er_non, er_tup, er_flst, er_ref, er_obj, er_ty, er_gl, q_lst, q_tup, q_cutT, q_pn, q_ps, q_slT, q_itS, seqL_t, sz_0, sz_1, sz_2, sz_3, sz_4, sz_5, sz_6, sz_7, sz_8, sz_9, sz_10, sz_11, sz_12, sz_13, sz_14, fld_b, fld_d, e]
theorem ends_ok (hd : ds.length ≤ 100) : wE (m_ends [calD b ds] h) fun r h' => (∃ n, (cnt b ds 0 0)[ds.length]? = some n ∧ r = .int n) ∧ ∃ l, h' = h ++ l := by
  obtain ⟨r, h', e, rfl, l, rfl, g⟩ := (counts_cal (b := b) (h := h) hd).eq
  have hl : ds.length < (cnt b ds 0 0).length := by rw [cnt_len]; omega
  refine wE.of (a := .int (cnt b ds 0 0)[ds.length]) (h := h ++ l) ?_ ⟨⟨_, List.getElem?_eq_getElem hl, rfl⟩, l, rfl⟩
  have i : L2.atI (iL (cnt b ds 0 0)) (-1) = some (.int (cnt b ds 0 0)[ds.length]) := by
    unfold L2.atI L2.ixN
    have c : (iL (cnt b ds 0 0)).length = ds.length + 1 := by rw [List.length_map, cnt_len]
    rw [c, if_neg (by decide), if_pos (by omega)]
    have z : ((-1 : Int) + ((ds.length + 1 : Nat) : Int)).toNat = ds.length := by omega
    rw [z]
    simp [hl]
  unfold m_ends runD b_ends
  simp [q_bok, q_bxn, q_ofok, q_ofxn, q_vo, q_var, q_k, q_c1, q_c2, q_nil, q_cons, q_c, q_call, q_callK, pick, q_b, q_tru, q_not, q_and, q_or, q_ifE, q_andV, q_orV, q_notV, q_chain, q_seq, q_tnx, q_trt, q_txn, q_tbk, q_tct, q_skip, q_drop, q_ret, q_retN, q_bk, q_ct, q_set, q_par, q_par3, q_if, q_raise, q_mt, q_mt0, q_end0, q_endr, q_endx, q_lt, q_le, q_gt, q_ge, q_sub, q_add, q_neg, q_inti, q_intb, q_max, q_min, q_lenT, q_lenF, q_truT, q_truF, q_truB, q_truI, q_ixT, q_ixF, at_0, at_1, er_int, er_bl, er_str, er_non, er_tup, er_flst, er_ref, er_obj, er_ty, er_gl, q_lst, q_tup, q_cutT, q_pn, q_ps, q_slT, q_itS, seqL_t, sz_0, sz_1, sz_2, sz_3, sz_4, sz_5, sz_6, sz_7, sz_8, sz_9, sz_10, sz_11, sz_12, sz_13, sz_14, e, q_ixR g, i]
end

end Gk

set_option Elab.async false
set_option linter.all false
set_option maxRecDepth 100000
namespace Gk
open PySem Sx
def insR (p : List Int) : List (List Int) → List (List Int)
  | [] => [p]
  | q :: r => if decide (p ≤ q) = true then p :: q :: r else q :: insR p r
def isrtR : List (List Int) → List (List Int)
  | [] => []
  | p :: r => insR p (isrtR r)
def pats (k : Nat) : List (List Int) := isrtR (pst (k : Int) 90).1
def lsN (p : List Int) : Nat := (p.sum - p.length).toNat
def tab : Nat → List Int
  | 0 => [0, 1]
  | n + 1 => tab n ++ [((pats (n + 2)).map fun p => (tab n).getD (n + 2 - lsN p) 0).sum]
def cN (k : Nat) : Int := (tab 11).getD k 0
theorem insR_perm (p : List Int) : ∀ l : List (List Int), (insR p l).Perm (p :: l)
  | [] => List.Perm.refl _
  | q :: r => by
    unfold insR
    split
    · exact List.Perm.refl _
    · exact ((insR_perm p r).cons q).trans (List.Perm.swap p q r)
theorem isrtR_perm : ∀ l : List (List Int), (isrtR l).Perm l
  | [] => List.Perm.refl _
  | p :: r => (insR_perm p _).trans ((isrtR_perm r).cons p)
theorem pats_lt : ∀ k : Nat, k < 13 → (pats k).Pairwise (fun a b => a < b) := by decide +kernel
theorem pats_eq {k : Nat} (k12 : k < 13) : sortR (pst (k : Int) 90).1 = pats k :=
  (sortR_uniq (isrtR_perm _) ((pats_lt k k12).imp fun h => by
    unfold leR
    exact decide_eq_true (Std.le_of_lt h))).symm
theorem tab_len : ∀ n : Nat, (tab n).length = n + 2
  | 0 => rfl
  | n + 1 => by simp [tab, tab_len n]
theorem cN_step : ∀ k : Nat, k < 13 → 2 ≤ k → cN k = ((pats k).map fun p => cN (k - lsN p)).sum := by decide +kernel
theorem cN_pos : ∀ k : Nat, k < 13 → 1 ≤ k → 1 ≤ cN k ∧ cN k ≤ 10 ^ 12 := by decide +kernel
theorem tab_get : ∀ n : Nat, n < 12 → ∀ k : Nat, k < n + 2 → (tab n).getD k 0 = cN k := by decide +kernel
theorem pats_few : ∀ k : Nat, k < 13 → (pats k).length ≤ 100 ∧ ∀ p ∈ pats k, 1 ≤ lsN p ∧ lsN p + 1 ≤ k ∧ p.length ≤ 6 ∧ p.sum = (lsN p : Int) + p.length := by decide +kernel
theorem pats_mem {k : Nat} {p : List Int} (h : p ∈ pats k) : VP (k : Int) p ∧ p ≠ [] :=
  (pst_vp (k := (k : Int)) (by omega) 90).1 p ((isrtR_perm _).mem_iff.mp h)
theorem VP.patv {k : Int} {p : List Int} (v : VP k p) : PatV p := ⟨v.two, fun i h => (List.pairwise_iff_getElem.mp v.fall) i (i + 1) (by omega) h (by omega)⟩
def pickP (k : Nat) : List (List Int) → Int → Option (List Int × Int)
  | [], _ => none
  | p :: r, i => if i < cN (k - lsN p) then some (p, i) else pickP k r (i - cN (k - lsN p))
def nthP : Nat → Nat → Int → List (List Int)
  | 0, _, _ => []
  | f + 1, k, i => if k ≤ 1 then [] else match pickP k (pats k) i with
    | some (p, j) => p :: nthP f (k - lsN p) j
    | none => []
def rankP : Nat → List (List Int) → Int
  | _, [] => 0
  | k, d :: ds => (((pats k).filter fun p => decide (p < d)).map fun p => cN (k - lsN p)).sum + rankP (k - lsN d) ds
def DayV : Nat → List (List Int) → Prop
  | k, [] => k = 1
  | k, p :: r => p ∈ pats k ∧ DayV (k - lsN p) r
abbrev sumC (k : Nat) (l : List (List Int)) : Int := (l.map fun p => cN (k - lsN p)).sum
theorem pick_ok {k : Nat} : ∀ (L : List (List Int)) (i : Int), 0 ≤ i → i < sumC k L → ∃ pre p suf, L = pre ++ p :: suf ∧ pickP k L i = some (p, i - sumC k pre) ∧ 0 ≤ i - sumC k pre ∧ i - sumC k pre < cN (k - lsN p)
  | [], i, h0, h1 => by simp [sumC] at h1; omega
  | p :: r, i, h0, h1 => by
    by_cases c : i < cN (k - lsN p)
    · exact ⟨[], p, r, rfl, by simp [pickP, c, sumC], by simpa [sumC] using h0, by simpa [sumC] using c⟩
    · obtain ⟨pre, q, suf, e, g, a, b⟩ := pick_ok (k := k) r (i - cN (k - lsN p)) (by omega) (by simp only [sumC, List.map_cons, List.sum_cons] at h1 ⊢; omega)
      have es : i - cN (k - lsN p) - sumC k pre = i - sumC k (p :: pre) := by simp only [sumC, List.map_cons, List.sum_cons]; omega
      refine ⟨p :: pre, q, suf, by rw [e]; rfl, ?_, by rw [← es]; exact a, by rw [← es]; exact b⟩
      unfold pickP
      rw [if_neg c, g, es]
theorem pick_at {k : Nat} : ∀ (pre : List (List Int)) (p : List Int) (suf : List (List Int)) (i : Int), (∀ q ∈ pre, 0 ≤ cN (k - lsN q)) → sumC k pre ≤ i → i - sumC k pre < cN (k - lsN p) → pickP k (pre ++ p :: suf) i = some (p, i - sumC k pre)
  | [], p, suf, i, _, h0, h1 => by
    have h1 : i < cN (k - lsN p) := by simpa [sumC] using h1
    simp [pickP, h1, sumC]
  | q :: pre, p, suf, i, hp, h0, h1 => by
    have hq := hp q (by simp)
    have s : sumC k (q :: pre) = cN (k - lsN q) + sumC k pre := by simp [sumC]
    have nn : 0 ≤ sumC k pre := by
      have : ∀ l : List (List Int), (∀ q ∈ l, 0 ≤ cN (k - lsN q)) → 0 ≤ sumC k l := fun l => by
        induction l with
        | nil => intro _; simp [sumC]
        | cons a l ih =>
          intro h
          have h1 := ih fun q hq => h q (List.mem_cons_of_mem _ hq)
          have h2 := h a (by simp)
          simp only [sumC, List.map_cons, List.sum_cons] at h1 ⊢
          omega
      exact this pre fun q hq => hp q (List.mem_cons_of_mem _ hq)
    rw [s] at h0 h1 ⊢
    have c : ¬ i < cN (k - lsN q) := by omega
    have ih := pick_at (k := k) pre p suf (i - cN (k - lsN q)) (fun q hq => hp q (List.mem_cons_of_mem _ hq)) (by omega) (by omega)
    rw [List.cons_append]
    unfold pickP
    rw [if_neg c, ih]
    congr 2
    omega
theorem filt_pre {pre : List (List Int)} {p : List Int} {suf : List (List Int)} (h : (pre ++ p :: suf).Pairwise (fun a b => a < b)) : ((pre ++ p :: suf).filter fun q => decide (q < p)) = pre := by
  obtain ⟨h1, h2, h3⟩ := List.pairwise_append.mp h
  rw [List.filter_append, List.filter_eq_self.mpr fun q hq => decide_eq_true (h3 q hq p (by simp)), List.filter_eq_nil_iff.mpr, List.append_nil]
  intro q hq
  rw [decide_eq_true_eq]
  rcases List.mem_cons.mp hq with rfl | hq
  · exact fun z => Std.lt_irrefl z
  · exact fun z => Std.lt_irrefl (Std.lt_trans z ((List.pairwise_cons.mp h2).1 q hq))
theorem cN_1 : cN 1 = 1 := by decide +kernel
theorem nth_main : ∀ (f k : Nat) (i : Int), k ≤ f → 1 ≤ k → k < 13 → 0 ≤ i → i < cN k → DayV k (nthP f k i) ∧ rankP k (nthP f k i) = i ∧ (i + 1 < cN k → nthP f k i < nthP f k (i + 1))
  | 0, k, i, hf, h1, _, _, _ => absurd hf (by omega)
  | f + 1, k, i, hf, h1, h2, h3, h4 => by
    by_cases c : k ≤ 1
    · have e : nthP (f + 1) k i = [] := by
        show (if k ≤ 1 then [] else _) = _
        rw [if_pos c]
      rw [e]
      have ek : k = 1 := by omega
      subst ek
      have e1 := cN_1
      have ei : i = 0 := by omega
      subst ei
      exact ⟨rfl, rfl, fun z => by omega⟩
    · have st := cN_step k h2 (by omega)
      obtain ⟨pre, p, suf, eL, eg, a, b⟩ := pick_ok (k := k) (pats k) i h3 (by rw [st] at h4; exact h4)
      have pm : p ∈ pats k := by rw [eL]; simp
      obtain ⟨l1, l2, l3, l4⟩ := (pats_few k h2).2 p pm
      have ih := nth_main f (k - lsN p) (i - sumC k pre) (by omega) (by omega) (by omega) a b
      have e : nthP (f + 1) k i = p :: nthP f (k - lsN p) (i - sumC k pre) := by
        show (if k ≤ 1 then [] else _) = _
        rw [if_neg c, eg]
      have so := pats_lt k h2
      have pos : ∀ q ∈ pats k, 0 ≤ cN (k - lsN q) := fun q hq => by
        obtain ⟨m1, m2, _⟩ := (pats_few k h2).2 q hq
        have := (cN_pos (k - lsN q) (by omega) (by omega)).1
        omega
      rw [e]
      refine ⟨⟨pm, ih.1⟩, ?_, fun z => ?_⟩
      · show sumC k ((pats k).filter fun q => decide (q < p)) + rankP (k - lsN p) (nthP f (k - lsN p) (i - sumC k pre)) = i
        have so' := so
        rw [eL] at so'
        rw [eL, filt_pre so', ih.2.1]
        omega
      · by_cases c2 : i + 1 - sumC k pre < cN (k - lsN p)
        · have g2 := pick_at (k := k) pre p suf (i + 1) (fun q hq => pos q (by rw [eL]; simp [hq])) (by omega) c2
          rw [← eL] at g2
          have e2 : nthP (f + 1) k (i + 1) = p :: nthP f (k - lsN p) (i + 1 - sumC k pre) := by
            show (if k ≤ 1 then [] else _) = _
            rw [if_neg c, g2]
          have e3 : i + 1 - sumC k pre = i - sumC k pre + 1 := by omega
          rw [e2, e3]
          exact List.cons_lt_cons_iff.mpr (.inr ⟨rfl, ih.2.2 (by omega)⟩)
        · cases suf with
          | nil =>
            exfalso
            have : sumC k (pats k) = sumC k pre + cN (k - lsN p) := by rw [eL]; simp [sumC]
            have st : cN k = sumC k (pats k) := st
            omega
          | cons q suf =>
            have es : sumC k (pre ++ [p]) = sumC k pre + cN (k - lsN p) := by simp [sumC]
            have qm : q ∈ pats k := by rw [eL]; simp
            have qp := (pats_few k h2).2 q qm
            have qc := (cN_pos (k - lsN q) (by omega) (by omega)).1
            have g2 := pick_at (k := k) (pre ++ [p]) q suf (i + 1) (fun r hr => pos r (by rw [eL]; rcases List.mem_append.mp hr with hr | hr <;> simp at hr ⊢ <;> simp [hr])) (by omega) (by omega)
            have eL2 : pats k = (pre ++ [p]) ++ q :: suf := by rw [eL]; simp
            rw [← eL2] at g2
            have e2 : nthP (f + 1) k (i + 1) = q :: nthP f (k - lsN q) (i + 1 - sumC k (pre ++ [p])) := by
              show (if k ≤ 1 then [] else _) = _
              rw [if_neg c, g2]
            rw [e2]
            have lt : p < q := by
              rw [eL] at so
              exact (List.pairwise_cons.mp (List.pairwise_append.mp so).2.1).1 q (by simp)
            exact List.cons_lt_cons_iff.mpr (.inl lt)
theorem dayv_len : ∀ {ds : List (List Int)} {k : Nat}, k < 13 → DayV k ds → ds.length + 1 ≤ k ∧ lostL ds = (k : Int) - 1 ∧ (∀ p ∈ ds, PatV p ∧ p ≠ [] ∧ p.length ≤ 100) ∧ ∀ (d : Nat) (p : List Int), ds[d]? = some p → p.sum ≤ (k : Int) - lostL (ds.take d)
  | [], k, _, h => by
    have h : k = 1 := h
    subst h
    exact ⟨by simp, rfl, by simp, by simp⟩
  | p :: r, k, k12, h => by
    obtain ⟨pm, h⟩ := h
    obtain ⟨l1, l2, l3, l4⟩ := (pats_few k k12).2 p pm
    obtain ⟨a, b, c, d⟩ := dayv_len (by omega) h
    obtain ⟨v, ne⟩ := pats_mem pm
    have el : lessL p = (lsN p : Int) := by unfold lessL; omega
    refine ⟨by simp only [List.length_cons]; omega, ?_, fun q hq => ?_, fun i q e => ?_⟩
    · show lessL p + lostL r = _
      omega
    · rcases List.mem_cons.mp hq with rfl | hq
      · exact ⟨v.patv, ne, by omega⟩
      · exact c q hq
    · cases i with
      | zero =>
        have e : p = q := by simpa using e
        have := v.sum
        rw [← e]
        show p.sum ≤ (k : Int) - 0
        omega
      | succ i =>
        have := d i q (by simpa using e)
        show q.sum ≤ (k : Int) - (lessL p + lostL (r.take i))
        omega
theorem dayv_cal {ds : List (List Int)} {k : Nat} (k1 : 1 ≤ k) (k12 : k < 13) (h : DayV k ds) : CalV (List.replicate k 0) ds := by
  obtain ⟨a, b, c, d⟩ := dayv_len k12 h
  have hb : ∀ x ∈ List.replicate k (0 : Int), 0 ≤ x := fun x hx => by rw [(List.mem_replicate.mp hx).2]; decide
  refine ⟨by simpa using k1, by simp; omega, by omega, c, fun x hx => by rw [(List.mem_replicate.mp hx).2]; omega, fun i p n e1 e2 => ?_⟩
  have hi : i < ds.length := by
    have := List.getElem?_eq_some_iff.mp e1
    exact this.1
  rw [cnt_at hb (by omega)] at e2
  have e2 : bornBy (List.replicate k 0) (i : Int) - lostL (ds.take i) = n := by injection e2
  have bb : bornBy (List.replicate k (0 : Int)) (i : Int) = (k : Int) := by
    unfold bornBy
    rw [List.filter_eq_self.mpr, List.length_replicate]
    intro x hx
    rw [(List.mem_replicate.mp hx).2]
    exact decide_eq_true (by omega)
  have := d i p e1
  omega
theorem dayv_end {ds : List (List Int)} {k : Nat} (k12 : k < 13) (h : DayV k ds) : (cnt (List.replicate k 0) ds 0 0)[ds.length]? = some 1 := by
  obtain ⟨a, b, c, d⟩ := dayv_len k12 h
  have hb : ∀ x ∈ List.replicate k (0 : Int), 0 ≤ x := fun x hx => by rw [(List.mem_replicate.mp hx).2]; decide
  have bb : bornBy (List.replicate k (0 : Int)) (ds.length : Int) = (k : Int) := by
    unfold bornBy
    rw [List.filter_eq_self.mpr, List.length_replicate]
    intro x hx
    rw [(List.mem_replicate.mp hx).2]
    exact decide_eq_true (by omega)
  rw [cnt_at hb (by omega), bb, List.take_length, b]
  congr 1
  omega

end Gk

set_option Elab.async false
set_option linter.all false
set_option maxRecDepth 100000
namespace Gk
open PySem Sx
theorem tab_next : ∀ z : Nat, z < 11 → tab (z + 1) = tab z ++ [sumC (z + 2) (pats (z + 2))] := by decide +kernel
theorem tab_at {n i : Nat} (hn : n < 12) (hi : i < n + 2) : (iL (tab n))[i]? = some (.int (cN i)) := by
  have e := tab_get n hn i hi
  have hl : i < (tab n).length := by rw [tab_len]; exact hi
  rw [iL, List.getElem?_map, List.getElem?_eq_getElem hl]
  rw [List.getD_eq_getElem?_getD, List.getElem?_eq_getElem hl] at e
  show some (D.int _) = _
  rw [show (tab n)[i] = cN i from e]
theorem less_ok {p : List Int} {h : Hc} (v : PatV p) (hl : p.length ≤ 100) : ∃ h', m_less [iT p] h = .ok (.int (p.sum - p.length)) h' ∧ Ap h h' := by
  obtain ⟨r, h', e, rfl, l, rfl⟩ := (pat_ok (h := h) v hl).eq
  have e1 : m_want_pattern [iT p] h = .ok .non (h ++ l) := by
    unfold m_want_pattern runD b_want_pattern
    simp [q_bok, q_bxn, q_ofok, q_ofxn, q_vo, q_var, q_k, q_c1, q_c2, q_nil, q_cons, q_c, q_call, q_callK, pick, q_b, q_tru, q_not, q_and, q_or, q_ifE, q_andV, q_orV, q_notV, q_chain, q_seq, q_tnx, q_trt, q_txn, q_tbk, q_tct, q_skip, q_drop, q_ret, q_retN, q_bk, q_ct, q_set, q_par, q_par3, q_if, q_raise, q_mt, q_mt0, q_end0, q_endr, q_endx, q_lt, q_le, q_gt, q_ge, q_sub, q_add, q_neg, q_inti, q_intb, q_max, q_min, q_lenT, q_lenF, q_truT, q_truF, q_truB, q_truI, q_ixT, q_ixF, at_0, at_1, er_int, er_bl, er_str, er_non, er_tup, er_flst, er_ref, er_obj, er_ty, er_gl, q_lst, q_tup, q_cutT, q_pn, q_ps, q_slT, q_itS, seqL_t, sz_0, sz_1, sz_2, sz_3, sz_4, sz_5, sz_6, sz_7, sz_8, sz_9, sz_10, sz_11, sz_12, sz_13, sz_14, e]
  refine ⟨h ++ l, ?_, ⟨l, rfl⟩⟩
  unfold m_less runD b_less
  simp [q_bok, q_bxn, q_ofok, q_ofxn, q_vo, q_var, q_k, q_c1, q_c2, q_nil, q_cons, q_c, q_call, q_callK, pick, q_b, q_tru, q_not, q_and, q_or, q_ifE, q_andV, q_orV, q_notV, q_chain, q_seq, q_tnx, q_trt, q_txn, q_tbk, q_tct, q_skip, q_drop, q_ret, q_retN, q_bk, q_ct, q_set, q_par, q_par3, q_if, q_raise, q_mt, q_mt0, q_end0, q_endr, q_endx, q_lt, q_le, q_gt, q_ge, q_sub, q_add, q_neg, q_inti, q_intb, q_max, q_min, q_lenT, q_lenF, q_truT, q_truF, q_truB, q_truI, q_ixT, q_ixF, at_0, at_1, er_int, er_bl, er_str, er_non, er_tup, er_flst, er_ref, er_obj, er_ty, er_gl, q_lst, q_tup, q_cutT, q_pn, q_ps, q_slT, q_itS, seqL_t, sz_0, sz_1, sz_2, sz_3, sz_4, sz_5, sz_6, sz_7, sz_8, sz_9, sz_10, sz_11, sz_12, sz_13, sz_14, e1, q_sumT]
theorem less_pat {k : Nat} {p : List Int} {h : Hc} (k12 : k < 13) (hp : p ∈ pats k) : ∃ h', m_less [iT p] h = .ok (.int (lsN p : Nat)) h' ∧ Ap h h' := by
  obtain ⟨l1, l2, l3, l4⟩ := (pats_few k k12).2 p hp
  obtain ⟨h', e, ap⟩ := less_ok (h := h) (pats_mem hp).1.patv (by omega)
  exact ⟨h', by rw [e]; congr 2; omega, ap⟩
theorem leaves_ok {k : Nat} {h : Hc} (k1 : 1 ≤ k) (k12 : k ≤ 12) : m_want_leaves [.int (k : Nat)] h = .ok .non h := by
  have h0 : (1 : Int) ≤ (k : Nat) := by omega
  have h1 : ((k : Nat) : Int) ≤ 12 := by omega
  unfold m_want_leaves runD b_want_leaves
  simp [q_bok, q_bxn, q_ofok, q_ofxn, q_vo, q_var, q_k, q_c1, q_c2, q_nil, q_cons, q_c, q_call, q_callK, pick, q_b, q_tru, q_not, q_and, q_or, q_ifE, q_andV, q_orV, q_notV, q_chain, q_seq, q_tnx, q_trt, q_txn, q_tbk, q_tct, q_skip, q_drop, q_ret, q_retN, q_bk, q_ct, q_set, q_par, q_par3, q_if, q_raise, q_mt, q_mt0, q_end0, q_endr, q_endx, q_lt, q_le, q_gt, q_ge, q_sub, q_add, q_neg, q_inti, q_intb, q_max, q_min, q_lenT, q_lenF, q_truT, q_truF, q_truB, q_truI, q_ixT, q_ixF, at_0, at_1, er_int, er_bl, er_str, er_non, er_tup, er_flst, er_ref, er_obj, er_ty, er_gl, q_lst, q_tup, q_cutT, q_pn, q_ps, q_slT, q_itS, seqL_t, sz_0, sz_1, sz_2, sz_3, sz_4, sz_5, sz_6, sz_7, sz_8, sz_9, sz_10, sz_11, sz_12, sz_13, sz_14, h0, h1]
theorem leaves_bad {k : Int} {h : Hc} (b : ¬ (1 ≤ k ∧ k ≤ 12)) : m_want_leaves [.int k] h = .exn "BadSize" (.int k) h := by
  unfold m_want_leaves runD b_want_leaves
  by_cases c : 1 ≤ k
  · have : ¬ k ≤ 12 := fun z => b ⟨c, z⟩
    simp [q_bok, q_bxn, q_ofok, q_ofxn, q_vo, q_var, q_k, q_c1, q_c2, q_nil, q_cons, q_c, q_call, q_callK, pick, q_b, q_tru, q_not, q_and, q_or, q_ifE, q_andV, q_orV, q_notV, q_chain, q_seq, q_tnx, q_trt, q_txn, q_tbk, q_tct, q_skip, q_drop, q_ret, q_retN, q_bk, q_ct, q_set, q_par, q_par3, q_if, q_raise, q_mt, q_mt0, q_end0, q_endr, q_endx, q_lt, q_le, q_gt, q_ge, q_sub, q_add, q_neg, q_inti, q_intb, q_max, q_min, q_lenT, q_lenF, q_truT, q_truF, q_truB, q_truI, q_ixT, q_ixF, at_0, at_1, er_int, er_bl, er_str, er_non, er_tup, er_flst, er_ref, er_obj, er_ty, er_gl, q_lst, q_tup, q_cutT, q_pn, q_ps, q_slT, q_itS, seqL_t, sz_0, sz_1, sz_2, sz_3, sz_4, sz_5, sz_6, sz_7, sz_8, sz_9, sz_10, sz_11, sz_12, sz_13, sz_14, c, this]
  · simp [q_bok, q_bxn, q_ofok, q_ofxn, q_vo, q_var, q_k, q_c1, q_c2, q_nil, q_cons, q_c, q_call, q_callK, pick, q_b, q_tru, q_not, q_and, q_or, q_ifE, q_andV, q_orV, q_notV, q_chain, q_seq, q_tnx, q_trt, q_txn, q_tbk, q_tct, q_skip, q_drop, q_ret, q_retN, q_bk, q_ct, q_set, q_par, q_par3, q_if, q_raise, q_mt, q_mt0, q_end0, q_endr, q_endx, q_lt, q_le, q_gt, q_ge, q_sub, q_add, q_neg, q_inti, q_intb, q_max, q_min, q_lenT, q_lenF, q_truT, q_truF, q_truB, q_truI, q_ixT, q_ixF, at_0, at_1, er_int, er_bl, er_str, er_non, er_tup, er_flst, er_ref, er_obj, er_ty, er_gl, q_lst, q_tup, q_cutT, q_pn, q_ps, q_slT, q_itS, seqL_t, sz_0, sz_1, sz_2, sz_3, sz_4, sz_5, sz_6, sz_7, sz_8, sz_9, sz_10, sz_11, sz_12, sz_13, sz_14, c]
theorem patterns_p {k : Nat} {h : Hc} (k12 : k ≤ 12) : ∃ h', m_patterns [.int (k : Nat)] h = .ok (.tup (rL (pats k))) h' ∧ Ap h h' := by
  obtain ⟨h', e, ap⟩ := patterns_w (h := h) k12
  rw [pats_eq (by omega)] at e
  exact ⟨h', e, ap⟩
theorem comp_apH43 {α : Type} {t : TGT} {e : CE} {ρ : Rho} {h0 : Hc} (mk F : α → D) : ∀ (l : List α) (h : Hc), Ap h0 h → (∀ a ∈ l, ∃ ρ1, asg t (mk a) ρ = some ρ1 ∧ ∀ h, Ap h0 h → ∃ h', e ρ1 h = .ok (F a) h' ∧ Ap h h') → ∃ h', cCompB t cYes e ρ (l.map mk) h = .ok (l.map F) h' ∧ Ap h h'
  | [], h, _, _ => ⟨h, rfl, .refl⟩
  | a :: l, h, a0, k => by
    obtain ⟨ρ1, e1, k1⟩ := k a (by simp)
    obtain ⟨h1, e2, ap⟩ := k1 h a0
    obtain ⟨h2, e3, ap2⟩ := comp_apH43 mk F l h1 (a0.trans ap) fun x hx => k x (by simp [hx])
    refine ⟨h2, ?_, ap.trans ap2⟩
    simp only [List.map_cons, cCompB, e1, cYes, Res.bind, e2, e3]
theorem ix_tab {n k : Nat} {p : List Int} {f : Nat} {h : Hc} (hn : n < 12) (hk : k ≤ n + 2) (k12 : k < 13) (hp : p ∈ pats k) (g : h[f]? = some (false, .lst (iL (tab n)))) : gIx (.ref f) (.int ((k : Int) - (lsN p : Nat))) h = some (.int (cN (k - lsN p)), h) := by
  obtain ⟨l1, l2, l3, l4⟩ := (pats_few k k12).2 p hp
  have i : L2.atI (iL (tab n)) ((k : Int) - (lsN p : Nat)) = some (.int (cN (k - lsN p))) := by
    have := at_nat (tab_at (n := n) (i := k - lsN p) hn (by omega))
    have e : ((k - lsN p : Nat) : Int) = (k : Int) - (lsN p : Nat) := by omega
    rwa [e] at this
  rw [q_ixR g, i]
theorem counts_to_w {k : Nat} {h : Hc} (k1 : 1 ≤ k) (k12 : k ≤ 12) : ∃ h' w, m_counts_to [.int (k : Nat)] h = .ok (.ref w) h' ∧ Ap h h' ∧ h.length ≤ w ∧ h'[w]? = some (false, .lst (iL (tab (k - 1)))) := by
  have sz : (3000 : Nat) < sizeLine := by decide
  suffices w : wE (m_counts_to [.int (k : Nat)] h) fun r h' => ∃ w, r = .ref w ∧ Ap h h' ∧ h.length ≤ w ∧ h'[w]? = some (false, .lst (iL (tab (k - 1)))) by
    obtain ⟨_, h', e, w, rfl, q⟩ := w.eq
    exact ⟨h', w, e, q⟩
  unfold m_counts_to
  refine wE_run rfl ?_
  unfold b_counts_to
  refine wS_step (ρ' := [some (.int (k : Nat)), some (.ref h.length), none, none]) (h' := h ++ [(false, .lst (iL (tab 0)))]) (by simp [q_bok, q_bxn, q_ofok, q_ofxn, q_vo, q_var, q_k, q_c1, q_c2, q_nil, q_cons, q_c, q_call, q_callK, pick, q_b, q_tru, q_not, q_and, q_or, q_ifE, q_andV, q_orV, q_notV, q_chain, q_seq, q_tnx, q_trt, q_txn, q_tbk, q_tct, q_skip, q_drop, q_ret, q_retN, q_bk, q_ct, q_set, q_par, q_par3, q_if, q_raise, q_mt, q_mt0, q_end0, q_endr, q_endx, q_lt, q_le, q_gt, q_ge, q_sub, q_add, q_neg, q_inti, q_intb, q_max, q_min, q_lenT, q_lenF, q_truT, q_truF, q_truB, q_truI, q_ixT, q_ixF, at_0, at_1, er_int, er_bl, er_str, er_non, er_tup, er_flst, er_ref, er_obj, er_ty, er_gl, q_lst, q_tup, q_cutT, q_pn, q_ps, q_slT, q_itS, seqL_t, sz_0, sz_1, sz_2, sz_3, sz_4, sz_5, sz_6, sz_7, sz_8, sz_9, sz_10, sz_11, sz_12, sz_13, sz_14, tab]) ?_
  have gf : (h ++ [(false, O.lst (iL (tab 0)))])[h.length]? = some (false, .lst (iL (tab 0))) := get_new
  have ap0 : Ap h (h ++ [(false, O.lst (iL (tab 0)))]) := .new _
  generalize h ++ [(false, O.lst (iL (tab 0)))] = h0 at *
  refine wS_loop ?_
  rw [q_for (l := (List.range (((k : Nat) : Int) + 1 - 2).toNat).map fun (z : Nat) => .int (2 + (z : Int))) (h1 := h0) (q_itR2 (i := 2) (j := (k : Nat) + 1) (h1 := h0) rfl (by simp [q_bok, q_bxn, q_ofok, q_ofxn, q_vo, q_var, q_k, q_c1, q_c2, q_nil, q_cons, q_c, q_call, q_callK, pick, q_b, q_tru, q_not, q_and, q_or, q_ifE, q_andV, q_orV, q_notV, q_chain, q_seq, q_tnx, q_trt, q_txn, q_tbk, q_tct, q_skip, q_drop, q_ret, q_retN, q_bk, q_ct, q_set, q_par, q_par3, q_if, q_raise, q_mt, q_mt0, q_end0, q_endr, q_endx, q_lt, q_le, q_gt, q_ge, q_sub, q_add, q_neg, q_inti, q_intb, q_max, q_min, q_lenT, q_lenF, q_truT, q_truF, q_truB, q_truI, q_ixT, q_ixF, at_0, at_1, er_int, er_bl, er_str, er_non, er_tup, er_flst, er_ref, er_obj, er_ty, er_gl, q_lst, q_tup, q_cutT, q_pn, q_ps, q_slT, q_itS, seqL_t, sz_0, sz_1, sz_2, sz_3, sz_4, sz_5, sz_6, sz_7, sz_8, sz_9, sz_10, sz_11, sz_12, sz_13, sz_14]) (by omega) (by omega) (by omega) (by omega))]
  refine for_ix (fun (z : Nat) => D.int (2 + (z : Int))) (List.range (((k : Nat) : Int) + 1 - 2).toNat) (fun z ρ h1 => ∃ x2, ρ = [some (.int (k : Nat)), some (.ref h.length), x2, none] ∧ Ap h h1 ∧ h1[h.length]? = some (false, .lst (iL (tab z)))) ?_ ?_ ⟨none, rfl, ap0, gf⟩
  · rintro z0 z ρ h1 hz ⟨x2, rfl, ap1, gf⟩
    obtain ⟨rfl, lz⟩ := range_at hz
    refine ⟨_, asg_nm, ?_⟩
    have ez : (2 + (z : Int)) = ((z + 2 : Nat) : Int) := by omega
    show wS (cDrop _ [some (.int (k : Nat)), some (.ref h.length), some (.int (2 + (z : Int))), none] h1) _
    rw [ez]
    obtain ⟨h2, e2, ap2⟩ := patterns_p (k := z + 2) (h := h1) (by omega)
    have fw := pats_few (z + 2) (by omega)
    obtain ⟨h3, e3, ap3⟩ := comp_apH43 (t := .nm 3) (e := Sx.c2 gIx (cVar 1) (Sx.c2 gSub (cVar 2) (cCall m_less (cCons (cVar 3) cNil)))) (ρ := wipeD [some (.int (k : Nat)), some (.ref h.length), some (.int ((z + 2 : Nat) : Int)), none] [3]) (h0 := h2) iT (fun p => .int (cN (z + 2 - lsN p))) (pats (z + 2)) h2 .refl fun p hp => ⟨_, asg_nm, fun h4 a4 => by
      obtain ⟨h5, e5, a5⟩ := less_pat (h := h4) (by omega) hp
      have ix := ix_tab (n := z) (k := z + 2) (by omega) (by omega) (by omega) hp ((ap2.trans (a4.trans a5)).get gf)
      refine ⟨h5, ?_, a5⟩
      have er : (iT p).isErr = false := rfl
      generalize iT p = PP at *
      generalize ((z + 2 : Nat) : Int) = ZZ at *
      simp [q_bok, q_bxn, q_ofok, q_ofxn, q_vo, q_var, q_k, q_c1, q_c2, q_nil, q_cons, q_c, q_call, q_callK, pick, q_b, q_tru, q_not, q_and, q_or, q_ifE, q_andV, q_orV, q_notV, q_chain, q_seq, q_tnx, q_trt, q_txn, q_tbk, q_tct, q_skip, q_drop, q_ret, q_retN, q_bk, q_ct, q_set, q_par, q_par3, q_if, q_raise, q_mt, q_mt0, q_end0, q_endr, q_endx, q_lt, q_le, q_gt, q_ge, q_sub, q_add, q_neg, q_inti, q_intb, q_max, q_min, q_lenT, q_lenF, q_truT, q_truF, q_truB, q_truI, q_ixT, q_ixF, at_0, at_1, er_int, er_bl, er_str, er_non, er_tup, er_flst, er_ref, er_obj, er_ty, er_gl, q_lst, q_tup, q_cutT, q_pn, q_ps, q_slT, q_itS, seqL_t, sz_0, sz_1, sz_2, sz_3, sz_4, sz_5, sz_6, sz_7, sz_8, sz_9, sz_10, sz_11, sz_12, sz_13, sz_14, wipeD, er, e5, ix]⟩
    have d1 := q_comp (vs := [3]) (ci := cItS (cCall m_patterns (cCons (cVar 2) cNil))) (l := rL (pats (z + 2))) (h := h1) (ρ := [some (.int (k : Nat)), some (.ref h.length), some (.int ((z + 2 : Nat) : Int)), none]) (by
      generalize ((z + 2 : Nat) : Int) = ZZ at *
      simp [q_bok, q_bxn, q_ofok, q_ofxn, q_vo, q_var, q_k, q_c1, q_c2, q_nil, q_cons, q_c, q_call, q_callK, pick, q_b, q_tru, q_not, q_and, q_or, q_ifE, q_andV, q_orV, q_notV, q_chain, q_seq, q_tnx, q_trt, q_txn, q_tbk, q_tct, q_skip, q_drop, q_ret, q_retN, q_bk, q_ct, q_set, q_par, q_par3, q_if, q_raise, q_mt, q_mt0, q_end0, q_endr, q_endx, q_lt, q_le, q_gt, q_ge, q_sub, q_add, q_neg, q_inti, q_intb, q_max, q_min, q_lenT, q_lenF, q_truT, q_truF, q_truB, q_truI, q_ixT, q_ixF, at_0, at_1, er_int, er_bl, er_str, er_non, er_tup, er_flst, er_ref, er_obj, er_ty, er_gl, q_lst, q_tup, q_cutT, q_pn, q_ps, q_slT, q_itS, seqL_t, sz_0, sz_1, sz_2, sz_3, sz_4, sz_5, sz_6, sz_7, sz_8, sz_9, sz_10, sz_11, sz_12, sz_13, sz_14, e2]) (by simp only [rL, List.length_map]; omega) e3
    have em : ((pats (z + 2)).map fun p => D.int (cN (z + 2 - lsN p))) = iL ((pats (z + 2)).map fun p => cN (z + 2 - lsN p)) := by
      rw [iL, List.map_map]; rfl
    rw [em] at d1
    have sm := q_sumR (get_new (h := h3) (p := (false, O.lst (iL ((pats (z + 2)).map fun p => cN (z + 2 - lsN p))))))
    have ap4 : Ap h1 (h3 ++ [(false, O.lst (iL ((pats (z + 2)).map fun p => cN (z + 2 - lsN p))))]) := (ap2.trans ap3).app _
    have g4 := ap4.get gf
    generalize h3 ++ [(false, O.lst (iL ((pats (z + 2)).map fun p => cN (z + 2 - lsN p))))] = h4 at *
    have qa := q_app (d := .int ((pats (z + 2)).map fun p => cN (z + 2 - lsN p)).sum) g4 (by rw [iL, List.length_map, tab_len]; omega)
    have en : iL (tab z) ++ [D.int ((pats (z + 2)).map fun p => cN (z + 2 - lsN p)).sum] = iL (tab (z + 1)) := by
      rw [tab_next z (by omega)]
      simp only [iL, List.map_append, List.map_cons, List.map_nil]
    rw [en] at qa
    have okf := ok_lst gf
    have okf4 := ok_lst g4
    refine wS.of (f := .nx) (ρ := [some (.int (k : Nat)), some (.ref h.length), some (.int ((z + 2 : Nat) : Int)), none]) (h := h4.set h.length (false, .lst (iL (tab (z + 1))))) ?_ ⟨_, rfl, (ap1.trans ap4).put (Nat.le_refl _) _, get_set g4⟩
    generalize ((pats (z + 2)).map fun p => cN (z + 2 - lsN p)).sum = SS at *
    generalize iL (tab (z + 1)) = TT at *
    generalize ((z + 2 : Nat) : Int) = ZZ at *
    simp [q_bok, q_bxn, q_ofok, q_ofxn, q_vo, q_var, q_k, q_c1, q_c2, q_nil, q_cons, q_c, q_call, q_callK, pick, q_b, q_tru, q_not, q_and, q_or, q_ifE, q_andV, q_orV, q_notV, q_chain, q_seq, q_tnx, q_trt, q_txn, q_tbk, q_tct, q_skip, q_drop, q_ret, q_retN, q_bk, q_ct, q_set, q_par, q_par3, q_if, q_raise, q_mt, q_mt0, q_end0, q_endr, q_endx, q_lt, q_le, q_gt, q_ge, q_sub, q_add, q_neg, q_inti, q_intb, q_max, q_min, q_lenT, q_lenF, q_truT, q_truF, q_truB, q_truI, q_ixT, q_ixF, at_0, at_1, er_int, er_bl, er_str, er_non, er_tup, er_flst, er_ref, er_obj, er_ty, er_gl, q_lst, q_tup, q_cutT, q_pn, q_ps, q_slT, q_itS, seqL_t, sz_0, sz_1, sz_2, sz_3, sz_4, sz_5, sz_6, sz_7, sz_8, sz_9, sz_10, sz_11, sz_12, sz_13, sz_14, okf, okf4, d1, sm, qa]
  · rintro ρ h1 ⟨x2, rfl, ap1, gf⟩
    have ek : (List.range (((k : Nat) : Int) + 1 - 2).toNat).length = k - 1 := by rw [List.length_range]; omega
    rw [ek] at gf
    exact wS_ret (d := .ref h.length) (h' := h1) (by simp [q_bok, q_bxn, q_ofok, q_ofxn, q_vo, q_var, q_k, q_c1, q_c2, q_nil, q_cons, q_c, q_call, q_callK, pick, q_b, q_tru, q_not, q_and, q_or, q_ifE, q_andV, q_orV, q_notV, q_chain, q_seq, q_tnx, q_trt, q_txn, q_tbk, q_tct, q_skip, q_drop, q_ret, q_retN, q_bk, q_ct, q_set, q_par, q_par3, q_if, q_raise, q_mt, q_mt0, q_end0, q_endr, q_endx, q_lt, q_le, q_gt, q_ge, q_sub, q_add, q_neg, q_inti, q_intb, q_max, q_min, q_lenT, q_lenF, q_truT, q_truF, q_truB, q_truI, q_ixT, q_ixF, at_0, at_1, er_int, er_bl, er_str, er_non, er_tup, er_flst, er_ref, er_obj, er_ty, er_gl, q_lst, q_tup, q_cutT, q_pn, q_ps, q_slT, q_itS, seqL_t, sz_0, sz_1, sz_2, sz_3, sz_4, sz_5, sz_6, sz_7, sz_8, sz_9, sz_10, sz_11, sz_12, sz_13, sz_14]) ⟨_, rfl, ap1, Nat.le_refl _, gf⟩
theorem count_ok {k : Nat} {h : Hc} (k1 : 1 ≤ k) (k12 : k ≤ 12) : ∃ h', m_calendars_count [.int (k : Nat)] h = .ok (.int (cN k)) h' ∧ Ap h h' := by
  obtain ⟨h', w, e, ap, _, g⟩ := counts_to_w (h := h) k1 k12
  have e0 := leaves_ok (h := h) k1 k12
  refine ⟨h', ?_, ap⟩
  have i : L2.atI (iL (tab (k - 1))) (k : Nat) = some (.int (cN k)) := at_nat (tab_at (by omega) (by omega))
  unfold m_calendars_count runD b_calendars_count
  simp [q_bok, q_bxn, q_ofok, q_ofxn, q_vo, q_var, q_k, q_c1, q_c2, q_nil, q_cons, q_c, q_call, q_callK, pick, q_b, q_tru, q_not, q_and, q_or, q_ifE, q_andV, q_orV, q_notV, q_chain, q_seq, q_tnx, q_trt, q_txn, q_tbk, q_tct, q_skip, q_drop, q_ret, q_retN, q_bk, q_ct, q_set, q_par, q_par3, q_if, q_raise, q_mt, q_mt0, q_end0, q_endr, q_endx, q_lt, q_le, q_gt, q_ge, q_sub, q_add, q_neg, q_inti, q_intb, q_max, q_min, q_lenT, q_lenF, q_truT, q_truF, q_truB, q_truI, q_ixT, q_ixF, at_0, at_1, er_int, er_bl, er_str, er_non, er_tup, er_flst, er_ref, er_obj, er_ty, er_gl, q_lst, q_tup, q_cutT, q_pn, q_ps, q_slT, q_itS, seqL_t, sz_0, sz_1, sz_2, sz_3, sz_4, sz_5, sz_6, sz_7, sz_8, sz_9, sz_10, sz_11, sz_12, sz_13, sz_14, e0, e, q_ixR g, i]
theorem count_bad {k : Int} {h : Hc} (b : ¬ (1 ≤ k ∧ k ≤ 12)) : m_calendars_count [.int k] h = .exn "BadSize" (.int k) h := by
  have e := leaves_bad (h := h) b
  unfold m_calendars_count runD b_calendars_count
  simp [q_bok, q_bxn, q_ofok, q_ofxn, q_vo, q_var, q_k, q_c1, q_c2, q_nil, q_cons, q_c, q_call, q_callK, pick, q_b, q_tru, q_not, q_and, q_or, q_ifE, q_andV, q_orV, q_notV, q_chain, q_seq, q_tnx, q_trt, q_txn, q_tbk, q_tct, q_skip, q_drop, q_ret, q_retN, q_bk, q_ct, q_set, q_par, q_par3, q_if, q_raise, q_mt, q_mt0, q_end0, q_endr, q_endx, q_lt, q_le, q_gt, q_ge, q_sub, q_add, q_neg, q_inti, q_intb, q_max, q_min, q_lenT, q_lenF, q_truT, q_truF, q_truB, q_truI, q_ixT, q_ixF, at_0, at_1, er_int, er_bl, er_str, er_non, er_tup, er_flst, er_ref, er_obj, er_ty, er_gl, q_lst, q_tup, q_cutT, q_pn, q_ps, q_slT, q_itS, seqL_t, sz_0, sz_1, sz_2, sz_3, sz_4, sz_5, sz_6, sz_7, sz_8, sz_9, sz_10, sz_11, sz_12, sz_13, sz_14, e]
theorem nth_bad {k i : Int} {h : Hc} (b : ¬ (1 ≤ k ∧ k ≤ 12)) : m_nth_calendar [.int k, .int i] h = .exn "BadSize" (.int k) h := by
  have e := leaves_bad (h := h) b
  unfold m_nth_calendar runD b_nth_calendar
  simp [q_bok, q_bxn, q_ofok, q_ofxn, q_vo, q_var, q_k, q_c1, q_c2, q_nil, q_cons, q_c, q_call, q_callK, pick, q_b, q_tru, q_not, q_and, q_or, q_ifE, q_andV, q_orV, q_notV, q_chain, q_seq, q_tnx, q_trt, q_txn, q_tbk, q_tct, q_skip, q_drop, q_ret, q_retN, q_bk, q_ct, q_set, q_par, q_par3, q_if, q_raise, q_mt, q_mt0, q_end0, q_endr, q_endx, q_lt, q_le, q_gt, q_ge, q_sub, q_add, q_neg, q_inti, q_intb, q_max, q_min, q_lenT, q_lenF, q_truT, q_truF, q_truB, q_truI, q_ixT, q_ixF, at_0, at_1, er_int, er_bl, er_str, er_non, er_tup, er_flst, er_ref, er_obj, er_ty, er_gl, q_lst, q_tup, q_cutT, q_pn, q_ps, q_slT, q_itS, seqL_t, sz_0, sz_1, sz_2, sz_3, sz_4, sz_5, sz_6, sz_7, sz_8, sz_9, sz_10, sz_11, sz_12, sz_13, sz_14, e]

end Gk

set_option Elab.async false
set_option linter.all false
set_option maxRecDepth 100000
namespace Gk
open PySem Sx
theorem q_aug43 {i : Nat} {g : G2} {e : CE} {ρ : Rho} {h h1 h2 : Hc} {x y z : D} (r : ρ[i]? = some (some x)) (er : x.isErr = false) (e1 : e ρ h = .ok y h1) (e2 : g x y h1 = some (z, h2)) : cAug i g e ρ h = .ok .nx (ρ.set i (some z)) h2 := by
  unfold cAug
  simp only [r, er, Bool.false_eq_true, if_false, e1, q_ofok, e2]
theorem zeros43 {k : Nat} {h : Hc} (hk : k ≤ 1000) : gMul (.tup [.int 0]) (.int (k : Nat)) h = some (iT (List.replicate k 0), h) := by
  have z : repOk (k : Int) [D.int 0] = true := by
    unfold repOk
    simp only [Bool.and_eq_true, decide_eq_true_eq]
    simp
    omega
  rw [q_mulT z, repD_1]
  simp [iL]
theorem made43 {b : List Int} {ds : List (List Int)} {h : Hc} : m_made [iT b, .tup (dsD ds)] h = .ok (calD b ds) h := by
  have t1 : gTuple [iT b] h = some (iT b, h) := id rfl
  have t2 : gTuple [.tup (dsD ds)] h = some (.tup (dsD ds), h) := id rfl
  have gc : gCal [iT b, .tup (dsD ds)] h = some (calD b ds, h) := id rfl
  have er1 : (iT b).isErr = false := rfl
  unfold m_made runD b_made
  generalize calD b ds = C at *
  generalize iT b = R at *
  generalize dsD ds = E at *
  simp [q_bok, q_bxn, q_ofok, q_ofxn, q_vo, q_var, q_k, q_c1, q_c2, q_nil, q_cons, q_c, q_call, q_callK, pick, q_b, q_tru, q_not, q_and, q_or, q_ifE, q_andV, q_orV, q_notV, q_chain, q_seq, q_tnx, q_trt, q_txn, q_tbk, q_tct, q_skip, q_drop, q_ret, q_retN, q_bk, q_ct, q_set, q_par, q_par3, q_if, q_raise, q_mt, q_mt0, q_end0, q_endr, q_endx, q_lt, q_le, q_gt, q_ge, q_sub, q_add, q_neg, q_inti, q_intb, q_max, q_min, q_lenT, q_lenF, q_truT, q_truF, q_truB, q_truI, q_ixT, q_ixF, at_0, at_1, er_int, er_bl, er_str, er_non, er_tup, er_flst, er_ref, er_obj, er_ty, er_gl, q_lst, q_tup, q_cutT, q_pn, q_ps, q_slT, q_itS, seqL_t, sz_0, sz_1, sz_2, sz_3, sz_4, sz_5, sz_6, sz_7, sz_8, sz_9, sz_10, sz_11, sz_12, sz_13, sz_14, t1, t2, gc, er1]
theorem nth_out {k : Nat} {i : Int} {h : Hc} (k1 : 1 ≤ k) (k12 : k ≤ 12) (bad : ¬ (0 ≤ i ∧ i < cN k)) : ∃ h', m_nth_calendar [.int (k : Nat), .int i] h = .exn "BadCount" (.int i) h' ∧ Ap h h' := by
  obtain ⟨h', w, e, ap, _, g⟩ := counts_to_w (h := h) k1 k12
  have e0 := leaves_ok (h := h) k1 k12
  refine ⟨h', ?_, ap⟩
  have ix : L2.atI (iL (tab (k - 1))) (k : Nat) = some (.int (cN k)) := at_nat (tab_at (by omega) (by omega))
  unfold m_nth_calendar runD b_nth_calendar
  by_cases c : 0 ≤ i
  · have : ¬ i < cN k := fun z => bad ⟨c, z⟩
    simp [q_bok, q_bxn, q_ofok, q_ofxn, q_vo, q_var, q_k, q_c1, q_c2, q_nil, q_cons, q_c, q_call, q_callK, pick, q_b, q_tru, q_not, q_and, q_or, q_ifE, q_andV, q_orV, q_notV, q_chain, q_seq, q_tnx, q_trt, q_txn, q_tbk, q_tct, q_skip, q_drop, q_ret, q_retN, q_bk, q_ct, q_set, q_par, q_par3, q_if, q_raise, q_mt, q_mt0, q_end0, q_endr, q_endx, q_lt, q_le, q_gt, q_ge, q_sub, q_add, q_neg, q_inti, q_intb, q_max, q_min, q_lenT, q_lenF, q_truT, q_truF, q_truB, q_truI, q_ixT, q_ixF, at_0, at_1, er_int, er_bl, er_str, er_non, er_tup, er_flst, er_ref, er_obj, er_ty, er_gl, q_lst, q_tup, q_cutT, q_pn, q_ps, q_slT, q_itS, seqL_t, sz_0, sz_1, sz_2, sz_3, sz_4, sz_5, sz_6, sz_7, sz_8, sz_9, sz_10, sz_11, sz_12, sz_13, sz_14, e0, e, q_ixR g, ix, c, this]
  · simp [q_bok, q_bxn, q_ofok, q_ofxn, q_vo, q_var, q_k, q_c1, q_c2, q_nil, q_cons, q_c, q_call, q_callK, pick, q_b, q_tru, q_not, q_and, q_or, q_ifE, q_andV, q_orV, q_notV, q_chain, q_seq, q_tnx, q_trt, q_txn, q_tbk, q_tct, q_skip, q_drop, q_ret, q_retN, q_bk, q_ct, q_set, q_par, q_par3, q_if, q_raise, q_mt, q_mt0, q_end0, q_endr, q_endx, q_lt, q_le, q_gt, q_ge, q_sub, q_add, q_neg, q_inti, q_intb, q_max, q_min, q_lenT, q_lenF, q_truT, q_truF, q_truB, q_truI, q_ixT, q_ixF, at_0, at_1, er_int, er_bl, er_str, er_non, er_tup, er_flst, er_ref, er_obj, er_ty, er_gl, q_lst, q_tup, q_cutT, q_pn, q_ps, q_slT, q_itS, seqL_t, sz_0, sz_1, sz_2, sz_3, sz_4, sz_5, sz_6, sz_7, sz_8, sz_9, sz_10, sz_11, sz_12, sz_13, sz_14, e0, e, q_ixR g, ix, c]
noncomputable abbrev nthF : CS := cFor (cItS (cCall m_patterns (cCons (cVar 3) (cNil)))) (.nm 6) (cSeq (cSet 7 (Sx.c2 gIx (cVar 2) (Sx.c2 gSub (cVar 3) (cCall m_less (cCons (cVar 6) (cNil)))))) (cSeq (cIf (cB (Sx.c2 gLt (cVar 4) (cVar 7))) (cBk) (cSkip)) (cAug 4 gSub (cVar 7))))
theorem nth_for {k m : Nat} {i j jf : Int} {p : List Int} {w d n : Nat} {x6 x7 : Option D} {h : Hc} (hn : n < 12) (hk : m ≤ n + 2) (m12 : m < 13) (gw : h[w]? = some (false, .lst (iL (tab n)))) (pk : pickP m (pats m) j = some (p, jf)) :
    wS (nthF [some (.int (k : Nat)), some (.int i), some (.ref w), some (.int (m : Nat)), some (.int j), some (.ref d), x6, x7] h) fun f ρ h' => f = .nx ∧ Ap h h' ∧ p ∈ pats m ∧ ∃ x7, ρ = [some (.int (k : Nat)), some (.int i), some (.ref w), some (.int (m : Nat)), some (.int jf), some (.ref d), some (iT p), x7] := by
  obtain ⟨h1, e1, ap1⟩ := patterns_p (k := m) (h := h) (by omega)
  unfold nthF
  rw [q_for (l := rL (pats m)) (h1 := h1) (by
    generalize ((m : Nat) : Int) = MM at *
    simp [q_bok, q_bxn, q_ofok, q_ofxn, q_vo, q_var, q_k, q_c1, q_c2, q_nil, q_cons, q_c, q_call, q_callK, pick, q_b, q_tru, q_not, q_and, q_or, q_ifE, q_andV, q_orV, q_notV, q_chain, q_seq, q_tnx, q_trt, q_txn, q_tbk, q_tct, q_skip, q_drop, q_ret, q_retN, q_bk, q_ct, q_set, q_par, q_par3, q_if, q_raise, q_mt, q_mt0, q_end0, q_endr, q_endx, q_lt, q_le, q_gt, q_ge, q_sub, q_add, q_neg, q_inti, q_intb, q_max, q_min, q_lenT, q_lenF, q_truT, q_truF, q_truB, q_truI, q_ixT, q_ixF, at_0, at_1, er_int, er_bl, er_str, er_non, er_tup, er_flst, er_ref, er_obj, er_ty, er_gl, q_lst, q_tup, q_cutT, q_pn, q_ps, q_slT, q_itS, seqL_t, sz_0, sz_1, sz_2, sz_3, sz_4, sz_5, sz_6, sz_7, sz_8, sz_9, sz_10, sz_11, sz_12, sz_13, sz_14, e1])]
  refine for_inv (fun l ρ h2 => ∃ (rest : List (List Int)) (j' : Int) (x6 x7 : Option D), l = rest.map iT ∧ (∀ q ∈ rest, q ∈ pats m) ∧ pickP m rest j' = some (p, jf) ∧ ρ = [some (.int (k : Nat)), some (.int i), some (.ref w), some (.int (m : Nat)), some (.int j'), some (.ref d), x6, x7] ∧ Ap h h2) ?_ ?_ _ _ _ ⟨pats m, j, x6, x7, rfl, fun q hq => hq, pk, rfl, ap1⟩
  · rintro ρ h2 ⟨rest, j', x6, x7, e, hm, pk, rfl, ap⟩
    cases rest with
    | cons q rest => cases e
    | nil => cases pk
  · rintro dd r ρ h2 ⟨rest, j', x6, x7, e, hm, pk, rfl, ap⟩
    cases rest with
    | nil => cases e
    | cons q rest =>
      rw [List.map_cons] at e
      cases e
      refine ⟨_, asg_nm, ?_⟩
      have qm := hm q (by simp)
      obtain ⟨h3, e3, ap3⟩ := less_pat (h := h2) m12 qm
      have ix := ix_tab (n := n) (k := m) hn hk m12 qm ((ap.trans ap3).get gw)
      have er : (iT q).isErr = false := rfl
      refine wS_step (ρ' := [some (.int (k : Nat)), some (.int i), some (.ref w), some (.int (m : Nat)), some (.int j'), some (.ref d), some (iT q), some (.int (cN (m - lsN q)))]) (h' := h3) (by
        generalize cN (m - lsN q) = CC at *
        generalize iT q = QQ at *
        generalize ((m : Nat) : Int) = MM at *
        simp [q_bok, q_bxn, q_ofok, q_ofxn, q_vo, q_var, q_k, q_c1, q_c2, q_nil, q_cons, q_c, q_call, q_callK, pick, q_b, q_tru, q_not, q_and, q_or, q_ifE, q_andV, q_orV, q_notV, q_chain, q_seq, q_tnx, q_trt, q_txn, q_tbk, q_tct, q_skip, q_drop, q_ret, q_retN, q_bk, q_ct, q_set, q_par, q_par3, q_if, q_raise, q_mt, q_mt0, q_end0, q_endr, q_endx, q_lt, q_le, q_gt, q_ge, q_sub, q_add, q_neg, q_inti, q_intb, q_max, q_min, q_lenT, q_lenF, q_truT, q_truF, q_truB, q_truI, q_ixT, q_ixF, at_0, at_1, er_int, er_bl, er_str, er_non, er_tup, er_flst, er_ref, er_obj, er_ty, er_gl, q_lst, q_tup, q_cutT, q_pn, q_ps, q_slT, q_itS, seqL_t, sz_0, sz_1, sz_2, sz_3, sz_4, sz_5, sz_6, sz_7, sz_8, sz_9, sz_10, sz_11, sz_12, sz_13, sz_14, er, e3, ix]) ?_
      unfold pickP at pk
      by_cases c : j' < cN (m - lsN q)
      · rw [if_pos c] at pk
        cases pk
        refine wS_loop ?_
        refine wS.of (f := .bk) (ρ := [some (.int (k : Nat)), some (.int i), some (.ref w), some (.int (m : Nat)), some (.int jf), some (.ref d), some (iT p), some (.int (cN (m - lsN p)))]) (h := h3) (by
          generalize cN (m - lsN p) = CC at *
          generalize iT p = QQ at *
          simp [q_bok, q_bxn, q_ofok, q_ofxn, q_vo, q_var, q_k, q_c1, q_c2, q_nil, q_cons, q_c, q_call, q_callK, pick, q_b, q_tru, q_not, q_and, q_or, q_ifE, q_andV, q_orV, q_notV, q_chain, q_seq, q_tnx, q_trt, q_txn, q_tbk, q_tct, q_skip, q_drop, q_ret, q_retN, q_bk, q_ct, q_set, q_par, q_par3, q_if, q_raise, q_mt, q_mt0, q_end0, q_endr, q_endx, q_lt, q_le, q_gt, q_ge, q_sub, q_add, q_neg, q_inti, q_intb, q_max, q_min, q_lenT, q_lenF, q_truT, q_truF, q_truB, q_truI, q_ixT, q_ixF, at_0, at_1, er_int, er_bl, er_str, er_non, er_tup, er_flst, er_ref, er_obj, er_ty, er_gl, q_tup, q_cutT, q_pn, q_ps, q_slT, q_itS, seqL_t, sz_0, sz_1, sz_2, sz_3, sz_4, sz_5, sz_6, sz_7, sz_8, sz_9, sz_10, sz_11, sz_12, sz_13, sz_14, q_tif, q_bif, q_oif, q_eif, q_bok, q_bxn, q_ofok, q_ofxn, q_vo, q_var, q_k, q_c1, q_c2, q_nil, q_cons, q_c, q_call, q_callK, pick, q_b, q_tru, q_not, q_and, q_or, q_ifE, q_andV, q_orV, q_notV, q_chain, q_seq, q_tnx, q_trt, q_txn, q_tbk, q_tct, q_skip, q_drop, q_ret, q_retN, q_bk, q_ct, q_set, q_par, q_par3, q_if, q_raise, q_mt, q_mt0, q_end0, q_endr, q_endx, q_lt, q_le, q_gt, q_ge, q_sub, q_add, q_neg, q_inti, q_intb, q_max, q_min, q_lenT, q_lenF, q_truT, q_truF, q_truB, q_truI, q_ixT, q_ixF, at_0, at_1, er_int, er_bl, er_str, er_non, er_tup, er_flst, er_ref, er_obj, er_ty, er_gl, q_lst, q_tup, q_cutT, q_pn, q_ps, q_slT, q_itS, seqL_t, sz_0, sz_1, sz_2, sz_3, sz_4, sz_5, sz_6, sz_7, sz_8, sz_9, sz_10, sz_11, sz_12, sz_13, sz_14, c]) ?_
        exact ⟨rfl, ap.trans ap3, qm, _, rfl⟩
      · rw [if_neg c] at pk
        refine wS_step (ρ' := [some (.int (k : Nat)), some (.int i), some (.ref w), some (.int (m : Nat)), some (.int j'), some (.ref d), some (iT q), some (.int (cN (m - lsN q)))]) (h' := h3) (by
          generalize cN (m - lsN q) = CC at *
          generalize iT q = QQ at *
          simp [q_bok, q_bxn, q_ofok, q_ofxn, q_vo, q_var, q_k, q_c1, q_c2, q_nil, q_cons, q_c, q_call, q_callK, pick, q_b, q_tru, q_not, q_and, q_or, q_ifE, q_andV, q_orV, q_notV, q_chain, q_seq, q_tnx, q_trt, q_txn, q_tbk, q_tct, q_skip, q_drop, q_ret, q_retN, q_bk, q_ct, q_set, q_par, q_par3, q_if, q_raise, q_mt, q_mt0, q_end0, q_endr, q_endx, q_lt, q_le, q_gt, q_ge, q_sub, q_add, q_neg, q_inti, q_intb, q_max, q_min, q_lenT, q_lenF, q_truT, q_truF, q_truB, q_truI, q_ixT, q_ixF, at_0, at_1, er_int, er_bl, er_str, er_non, er_tup, er_flst, er_ref, er_obj, er_ty, er_gl, q_lst, q_tup, q_cutT, q_pn, q_ps, q_slT, q_itS, seqL_t, sz_0, sz_1, sz_2, sz_3, sz_4, sz_5, sz_6, sz_7, sz_8, sz_9, sz_10, sz_11, sz_12, sz_13, sz_14, c]) ?_
        refine wS.of (f := .nx) (ρ := [some (.int (k : Nat)), some (.int i), some (.ref w), some (.int (m : Nat)), some (.int (j' - cN (m - lsN q))), some (.ref d), some (iT q), some (.int (cN (m - lsN q)))]) (h := h3) ?_ ⟨rest, _, _, _, rfl, fun r hr => hm r (List.mem_cons_of_mem _ hr), pk, rfl, ap.trans ap3⟩
        refine q_aug43 (x := .int j') (y := .int (cN (m - lsN q))) (z := .int (j' - cN (m - lsN q))) (h1 := h3) (h2 := h3) rfl rfl ?_ q_sub
        generalize cN (m - lsN q) = CC at *
        generalize iT q = QQ at *
        simp [q_bok, q_bxn, q_ofok, q_ofxn, q_vo, q_var, q_k, q_c1, q_c2, q_nil, q_cons, q_c, q_call, q_callK, pick, q_b, q_tru, q_not, q_and, q_or, q_ifE, q_andV, q_orV, q_notV, q_chain, q_seq, q_tnx, q_trt, q_txn, q_tbk, q_tct, q_skip, q_drop, q_ret, q_retN, q_bk, q_ct, q_set, q_par, q_par3, q_if, q_raise, q_mt, q_mt0, q_end0, q_endr, q_endx, q_lt, q_le, q_gt, q_ge, q_sub, q_add, q_neg, q_inti, q_intb, q_max, q_min, q_lenT, q_lenF, q_truT, q_truF, q_truB, q_truI, q_ixT, q_ixF, at_0, at_1, er_int, er_bl, er_str, er_non, er_tup, er_flst, er_ref, er_obj, er_ty, er_gl, q_lst, q_tup, q_cutT, q_pn, q_ps, q_slT, q_itS, seqL_t, sz_0, sz_1, sz_2, sz_3, sz_4, sz_5, sz_6, sz_7, sz_8, sz_9, sz_10, sz_11, sz_12, sz_13, sz_14]
theorem nth_w {k : Nat} {i : Int} {h : Hc} (k1 : 1 ≤ k) (k12 : k ≤ 12) (i0 : 0 ≤ i) (i1 : i < cN k) : ∃ h', m_nth_calendar [.int (k : Nat), .int i] h = .ok (calD (List.replicate k 0) (nthP 12 k i)) h' ∧ Ap h h' := by
  have sz : (3000 : Nat) < sizeLine := by decide
  suffices w : wE (m_nth_calendar [.int (k : Nat), .int i] h) fun r h' => r = calD (List.replicate k 0) (nthP 12 k i) ∧ Ap h h' by
    obtain ⟨_, h', e, rfl, q⟩ := w.eq
    exact ⟨h', e, q⟩
  obtain ⟨h1, w, e1, ap1, wl, gw⟩ := counts_to_w (h := h) k1 k12
  have e0 := leaves_ok (h := h) k1 k12
  have ix : L2.atI (iL (tab (k - 1))) (k : Nat) = some (.int (cN k)) := at_nat (tab_at (by omega) (by omega))
  unfold m_nth_calendar
  refine wE_run rfl ?_
  unfold b_nth_calendar
  refine wS_step (ρ' := [some (.int (k : Nat)), some (.int i), none, none, none, none, none, none]) (h' := h) (by simp [q_bok, q_bxn, q_ofok, q_ofxn, q_vo, q_var, q_k, q_c1, q_c2, q_nil, q_cons, q_c, q_call, q_callK, pick, q_b, q_tru, q_not, q_and, q_or, q_ifE, q_andV, q_orV, q_notV, q_chain, q_seq, q_tnx, q_trt, q_txn, q_tbk, q_tct, q_skip, q_drop, q_ret, q_retN, q_bk, q_ct, q_set, q_par, q_par3, q_if, q_raise, q_mt, q_mt0, q_end0, q_endr, q_endx, q_lt, q_le, q_gt, q_ge, q_sub, q_add, q_neg, q_inti, q_intb, q_max, q_min, q_lenT, q_lenF, q_truT, q_truF, q_truB, q_truI, q_ixT, q_ixF, at_0, at_1, er_int, er_bl, er_str, er_non, er_tup, er_flst, er_ref, er_obj, er_ty, er_gl, q_lst, q_tup, q_cutT, q_pn, q_ps, q_slT, q_itS, seqL_t, sz_0, sz_1, sz_2, sz_3, sz_4, sz_5, sz_6, sz_7, sz_8, sz_9, sz_10, sz_11, sz_12, sz_13, sz_14, e0]) ?_
  refine wS_step (ρ' := [some (.int (k : Nat)), some (.int i), some (.ref w), none, none, none, none, none]) (h' := h1) (by simp [q_bok, q_bxn, q_ofok, q_ofxn, q_vo, q_var, q_k, q_c1, q_c2, q_nil, q_cons, q_c, q_call, q_callK, pick, q_b, q_tru, q_not, q_and, q_or, q_ifE, q_andV, q_orV, q_notV, q_chain, q_seq, q_tnx, q_trt, q_txn, q_tbk, q_tct, q_skip, q_drop, q_ret, q_retN, q_bk, q_ct, q_set, q_par, q_par3, q_if, q_raise, q_mt, q_mt0, q_end0, q_endr, q_endx, q_lt, q_le, q_gt, q_ge, q_sub, q_add, q_neg, q_inti, q_intb, q_max, q_min, q_lenT, q_lenF, q_truT, q_truF, q_truB, q_truI, q_ixT, q_ixF, at_0, at_1, er_int, er_bl, er_str, er_non, er_tup, er_flst, er_ref, er_obj, er_ty, er_gl, q_lst, q_tup, q_cutT, q_pn, q_ps, q_slT, q_itS, seqL_t, sz_0, sz_1, sz_2, sz_3, sz_4, sz_5, sz_6, sz_7, sz_8, sz_9, sz_10, sz_11, sz_12, sz_13, sz_14, e1]) ?_
  refine wS_step (ρ' := [some (.int (k : Nat)), some (.int i), some (.ref w), none, none, none, none, none]) (h' := h1) (by simp [q_bok, q_bxn, q_ofok, q_ofxn, q_vo, q_var, q_k, q_c1, q_c2, q_nil, q_cons, q_c, q_call, q_callK, pick, q_b, q_tru, q_not, q_and, q_or, q_ifE, q_andV, q_orV, q_notV, q_chain, q_seq, q_tnx, q_trt, q_txn, q_tbk, q_tct, q_skip, q_drop, q_ret, q_retN, q_bk, q_ct, q_set, q_par, q_par3, q_if, q_raise, q_mt, q_mt0, q_end0, q_endr, q_endx, q_lt, q_le, q_gt, q_ge, q_sub, q_add, q_neg, q_inti, q_intb, q_max, q_min, q_lenT, q_lenF, q_truT, q_truF, q_truB, q_truI, q_ixT, q_ixF, at_0, at_1, er_int, er_bl, er_str, er_non, er_tup, er_flst, er_ref, er_obj, er_ty, er_gl, q_lst, q_tup, q_cutT, q_pn, q_ps, q_slT, q_itS, seqL_t, sz_0, sz_1, sz_2, sz_3, sz_4, sz_5, sz_6, sz_7, sz_8, sz_9, sz_10, sz_11, sz_12, sz_13, sz_14, q_ixR gw, ix, i0, i1]) ?_
  have el : gLstD [] h1 = some (.ref h1.length, h1 ++ [(false, .lst [])]) := q_lst (by decide)
  refine wS_step (ρ' := [some (.int (k : Nat)), some (.int i), some (.ref w), some (.int (k : Nat)), some (.int i), some (.ref h1.length), none, none]) (h' := h1 ++ [(false, .lst (rL []))]) (by simp [q_bok, q_bxn, q_ofok, q_ofxn, q_vo, q_var, q_k, q_c1, q_c2, q_nil, q_cons, q_c, q_call, q_callK, pick, q_b, q_tru, q_not, q_and, q_or, q_ifE, q_andV, q_orV, q_notV, q_chain, q_seq, q_tnx, q_trt, q_txn, q_tbk, q_tct, q_skip, q_drop, q_ret, q_retN, q_bk, q_ct, q_set, q_par, q_par3, q_if, q_raise, q_mt, q_mt0, q_end0, q_endr, q_endx, q_lt, q_le, q_gt, q_ge, q_sub, q_add, q_neg, q_inti, q_intb, q_max, q_min, q_lenT, q_lenF, q_truT, q_truF, q_truB, q_truI, q_ixT, q_ixF, at_0, at_1, er_int, er_bl, er_str, er_non, er_tup, er_flst, er_ref, er_obj, er_ty, er_gl, q_lst, q_tup, q_cutT, q_pn, q_ps, q_slT, q_itS, seqL_t, sz_0, sz_1, sz_2, sz_3, sz_4, sz_5, sz_6, sz_7, sz_8, sz_9, sz_10, sz_11, sz_12, sz_13, sz_14, el]) ?_
  have gd : (h1 ++ [(false, O.lst (rL []))])[h1.length]? = some (false, .lst (rL [])) := get_new
  have ap2 : Ap h1 (h1 ++ [(false, O.lst (rL []))]) := .new _
  have wlt : w < h1.length := (List.getElem?_eq_some_iff.mp gw).1
  have gw := ap2.get gw
  have hd0 : h.length ≤ h1.length := ap1.len
  have ap2 := ap1.trans ap2
  generalize h1.length = d at *
  generalize h1 ++ [(false, O.lst (rL []))] = h2 at *
  refine wS_bind2 (R := fun ρ h3 => ∃ x3 x4 x6 x7, ρ = [some (.int (k : Nat)), some (.int i), some (.ref w), x3, x4, some (.ref d), x6, x7] ∧ Ap h h3 ∧ h3[d]? = some (false, .lst (rL (nthP 12 k i)))) ?_ ?_
  · refine while_inv (fun m ρ h3 => ∃ (f : Nat) (j : Int) (D0 : List (List Int)) (x6 x7 : Option D), 1 ≤ m ∧ m ≤ k ∧ m ≤ f ∧ 0 ≤ j ∧ j < cN m ∧ D0.length + m ≤ 12 ∧ D0 ++ nthP f m j = nthP 12 k i ∧ ρ = [some (.int (k : Nat)), some (.int i), some (.ref w), some (.int (m : Nat)), some (.int j), some (.ref d), x6, x7] ∧ Ap h h3 ∧ h3[w]? = some (false, .lst (iL (tab (k - 1)))) ∧ h3[d]? = some (false, .lst (rL D0))) ?_ 1000 k _ _ (by omega) ⟨12, i, [], none, none, k1, Nat.le_refl _, k12, i0, i1, by simpa using k12, rfl, rfl, ap2, gw, gd⟩
    rintro m ρ h3 ⟨f, j, D0, x6, x7, m1, mk, mf, j0, j1, dl, en, rfl, ap3, gw, gd⟩
    by_cases c : m ≤ 1
    · have nc : ¬ (1 : Int) < (m : Nat) := by omega
      have e : cB (Sx.c2 gGt (cVar 3) (cK (.int 1))) [some (.int (k : Nat)), some (.int i), some (.ref w), some (.int (m : Nat)), some (.int j), some (.ref d), x6, x7] h3 = .ok false h3 := by
        simp [q_bok, q_bxn, q_ofok, q_ofxn, q_vo, q_var, q_k, q_c1, q_c2, q_nil, q_cons, q_c, q_call, q_callK, pick, q_b, q_tru, q_not, q_and, q_or, q_ifE, q_andV, q_orV, q_notV, q_chain, q_seq, q_tnx, q_trt, q_txn, q_tbk, q_tct, q_skip, q_drop, q_ret, q_retN, q_bk, q_ct, q_set, q_par, q_par3, q_if, q_raise, q_mt, q_mt0, q_end0, q_endr, q_endx, q_lt, q_le, q_gt, q_ge, q_sub, q_add, q_neg, q_inti, q_intb, q_max, q_min, q_lenT, q_lenF, q_truT, q_truF, q_truB, q_truI, q_ixT, q_ixF, at_0, at_1, er_int, er_bl, er_str, er_non, er_tup, er_flst, er_ref, er_obj, er_ty, er_gl, q_lst, q_tup, q_cutT, q_pn, q_ps, q_slT, q_itS, seqL_t, sz_0, sz_1, sz_2, sz_3, sz_4, sz_5, sz_6, sz_7, sz_8, sz_9, sz_10, sz_11, sz_12, sz_13, sz_14, nc]
      rw [e, wX_ok]
      dsimp only
      have e2 : nthP f m j = [] := by
        cases f with
        | zero => rfl
        | succ f =>
          show (if m ≤ 1 then [] else _) = _
          rw [if_pos c]
      rw [e2, List.append_nil] at en
      rw [en] at gd
      exact ⟨_, _, _, _, rfl, ap3, gd⟩
    · have nc : (1 : Int) < (m : Nat) := by omega
      have e : cB (Sx.c2 gGt (cVar 3) (cK (.int 1))) [some (.int (k : Nat)), some (.int i), some (.ref w), some (.int (m : Nat)), some (.int j), some (.ref d), x6, x7] h3 = .ok true h3 := by
        simp [q_bok, q_bxn, q_ofok, q_ofxn, q_vo, q_var, q_k, q_c1, q_c2, q_nil, q_cons, q_c, q_call, q_callK, pick, q_b, q_tru, q_not, q_and, q_or, q_ifE, q_andV, q_orV, q_notV, q_chain, q_seq, q_tnx, q_trt, q_txn, q_tbk, q_tct, q_skip, q_drop, q_ret, q_retN, q_bk, q_ct, q_set, q_par, q_par3, q_if, q_raise, q_mt, q_mt0, q_end0, q_endr, q_endx, q_lt, q_le, q_gt, q_ge, q_sub, q_add, q_neg, q_inti, q_intb, q_max, q_min, q_lenT, q_lenF, q_truT, q_truF, q_truB, q_truI, q_ixT, q_ixF, at_0, at_1, er_int, er_bl, er_str, er_non, er_tup, er_flst, er_ref, er_obj, er_ty, er_gl, q_lst, q_tup, q_cutT, q_pn, q_ps, q_slT, q_itS, seqL_t, sz_0, sz_1, sz_2, sz_3, sz_4, sz_5, sz_6, sz_7, sz_8, sz_9, sz_10, sz_11, sz_12, sz_13, sz_14, nc]
      rw [e, wX_ok]
      dsimp only
      cases f with
      | zero => omega
      | succ f =>
      have st := cN_step m (by omega) (by omega)
      obtain ⟨pre, p, suf, eL, eg, a, b⟩ := pick_ok (k := m) (pats m) j j0 (by rw [st] at j1; exact j1)
      have e2 : nthP (f + 1) m j = p :: nthP f (m - lsN p) (j - sumC m pre) := by
        show (if m ≤ 1 then [] else _) = _
        rw [if_neg c, eg]
      rw [e2] at en
      have nf := nth_for (k := k) (i := i) (d := d) (x6 := x6) (x7 := x7) (n := k - 1) (by omega) (by omega) (by omega) gw eg
      refine wS_bind2 (R := fun ρ h4 => Ap h3 h4 ∧ p ∈ pats m ∧ ∃ x7, ρ = [some (.int (k : Nat)), some (.int i), some (.ref w), some (.int (m : Nat)), some (.int (j - sumC m pre)), some (.ref d), some (iT p), x7]) (nf.mono fun f ρ h q => by
        obtain ⟨rfl, q⟩ := q
        exact q) ?_
      rintro ρ h4 ⟨ap4, pm, x7, rfl⟩
      obtain ⟨l1, l2, l3, l4⟩ := (pats_few m (by omega)).2 p pm
      have gd4 := ap4.get gd
      have gw4 := ap4.get gw
      have okd := ok_lst gd4
      have er : (iT p).isErr = false := rfl
      have qa := q_app (d := iT p) gd4 (by simp only [rL, List.length_map]; omega)
      have ea : rL D0 ++ [iT p] = rL (D0 ++ [p]) := by simp only [rL, List.map_append, List.map_cons, List.map_nil]
      rw [ea] at qa
      have gd5 : (h4.set d (false, O.lst (rL (D0 ++ [p]))))[d]? = some (false, .lst (rL (D0 ++ [p]))) := get_set gd4
      have gw5 : (h4.set d (false, O.lst (rL (D0 ++ [p]))))[w]? = some (false, .lst (iL (tab (k - 1)))) := by rw [List.getElem?_set_ne (by omega)]; exact gw4
      have ap5 : Ap h (h4.set d (false, O.lst (rL (D0 ++ [p])))) := (ap3.trans ap4).put hd0 _
      generalize sumC m pre = SP at *
      refine wS_step (ρ' := [some (.int (k : Nat)), some (.int i), some (.ref w), some (.int (m : Nat)), some (.int (j - SP)), some (.ref d), some (iT p), x7]) (h' := h4.set d (false, .lst (rL (D0 ++ [p])))) (by
        generalize iT p = PP at *
        generalize rL (D0 ++ [p]) = RR at *
        simp [q_bok, q_bxn, q_ofok, q_ofxn, q_vo, q_var, q_k, q_c1, q_c2, q_nil, q_cons, q_c, q_call, q_callK, pick, q_b, q_tru, q_not, q_and, q_or, q_ifE, q_andV, q_orV, q_notV, q_chain, q_seq, q_tnx, q_trt, q_txn, q_tbk, q_tct, q_skip, q_drop, q_ret, q_retN, q_bk, q_ct, q_set, q_par, q_par3, q_if, q_raise, q_mt, q_mt0, q_end0, q_endr, q_endx, q_lt, q_le, q_gt, q_ge, q_sub, q_add, q_neg, q_inti, q_intb, q_max, q_min, q_lenT, q_lenF, q_truT, q_truF, q_truB, q_truI, q_ixT, q_ixF, at_0, at_1, er_int, er_bl, er_str, er_non, er_tup, er_flst, er_ref, er_obj, er_ty, er_gl, q_lst, q_tup, q_cutT, q_pn, q_ps, q_slT, q_itS, seqL_t, sz_0, sz_1, sz_2, sz_3, sz_4, sz_5, sz_6, sz_7, sz_8, sz_9, sz_10, sz_11, sz_12, sz_13, sz_14, okd, er, qa]) ?_
      generalize h4.set d (false, O.lst (rL (D0 ++ [p]))) = h5 at *
      obtain ⟨h6, e6, ap6⟩ := less_pat (h := h5) (by omega) pm
      refine wS.of (f := .nx) (ρ := [some (.int (k : Nat)), some (.int i), some (.ref w), some (.int ((m - lsN p : Nat) : Int)), some (.int (j - SP)), some (.ref d), some (iT p), x7]) (h := h6) ?_ ⟨m - lsN p, by omega, f, j - SP, D0 ++ [p], _, _, by omega, by omega, by omega, a, b, by simp only [List.length_append, List.length_cons, List.length_nil]; omega, by rw [← en]; simp, rfl, ap5.trans ap6, ap6.get gw5, ap6.get gd5⟩
      have em : ((m - lsN p : Nat) : Int) = ((m : Nat) : Int) - (lsN p : Nat) := by omega
      rw [em]
      refine q_aug43 (x := .int (m : Nat)) (y := .int (lsN p : Nat)) (z := .int (((m : Nat) : Int) - (lsN p : Nat))) (h1 := h6) (h2 := h6) rfl rfl ?_ q_sub
      generalize iT p = PP at *
      simp [q_bok, q_bxn, q_ofok, q_ofxn, q_vo, q_var, q_k, q_c1, q_c2, q_nil, q_cons, q_c, q_call, q_callK, pick, q_b, q_tru, q_not, q_and, q_or, q_ifE, q_andV, q_orV, q_notV, q_chain, q_seq, q_tnx, q_trt, q_txn, q_tbk, q_tct, q_skip, q_drop, q_ret, q_retN, q_bk, q_ct, q_set, q_par, q_par3, q_if, q_raise, q_mt, q_mt0, q_end0, q_endr, q_endx, q_lt, q_le, q_gt, q_ge, q_sub, q_add, q_neg, q_inti, q_intb, q_max, q_min, q_lenT, q_lenF, q_truT, q_truF, q_truB, q_truI, q_ixT, q_ixF, at_0, at_1, er_int, er_bl, er_str, er_non, er_tup, er_flst, er_ref, er_obj, er_ty, er_gl, q_lst, q_tup, q_cutT, q_pn, q_ps, q_slT, q_itS, seqL_t, sz_0, sz_1, sz_2, sz_3, sz_4, sz_5, sz_6, sz_7, sz_8, sz_9, sz_10, sz_11, sz_12, sz_13, sz_14, er, e6]
  · rintro ρ h3 ⟨x3, x4, x6, x7, rfl, ap3, gd⟩
    have z := zeros43 (k := k) (h := h3) (by omega)
    have tu := q_tupR gd
    have md := made43 (b := List.replicate k 0) (ds := nthP 12 k i) (h := h3)
    have er1 : (iT (List.replicate k 0)).isErr = false := rfl
    refine wS_ret (d := calD (List.replicate k 0) (nthP 12 k i)) (h' := h3) ?_ ⟨rfl, ap3⟩
    have ed : rL (nthP 12 k i) = dsD (nthP 12 k i) := rfl
    rw [ed] at tu
    generalize calD (List.replicate k 0) (nthP 12 k i) = CC at *
    generalize iT (List.replicate k 0) = ZZ at *
    generalize dsD (nthP 12 k i) = EE at *
    generalize ((k : Nat) : Int) = KK at *
    simp [q_bok, q_bxn, q_ofok, q_ofxn, q_vo, q_var, q_k, q_c1, q_c2, q_nil, q_cons, q_c, q_call, q_callK, pick, q_b, q_tru, q_not, q_and, q_or, q_ifE, q_andV, q_orV, q_notV, q_chain, q_seq, q_tnx, q_trt, q_txn, q_tbk, q_tct, q_skip, q_drop, q_ret, q_retN, q_bk, q_ct, q_set, q_par, q_par3, q_if, q_raise, q_mt, q_mt0, q_end0, q_endr, q_endx, q_lt, q_le, q_gt, q_ge, q_sub, q_add, q_neg, q_inti, q_intb, q_max, q_min, q_lenT, q_lenF, q_truT, q_truF, q_truB, q_truI, q_ixT, q_ixF, at_0, at_1, er_int, er_bl, er_str, er_non, er_tup, er_flst, er_ref, er_obj, er_ty, er_gl, q_lst, q_tup, q_cutT, q_pn, q_ps, q_slT, q_itS, seqL_t, sz_0, sz_1, sz_2, sz_3, sz_4, sz_5, sz_6, sz_7, sz_8, sz_9, sz_10, sz_11, sz_12, sz_13, sz_14, z, tu, md, er1]

end Gk

set_option Elab.async false
set_option linter.all false
set_option maxRecDepth 100000
namespace Gk
open PySem Sx
def tokG : List Int → List Int
  | [] => [0]
  | x :: g => 1 :: x :: tokG g
def tokR : List (List Int) → List Int
  | [] => [0]
  | g :: r => 1 :: (tokG g ++ tokR r)
theorem toks_ints : ∀ a : List Int, PySem.W.keyToksAll (a.map PyData.int) = (tokG a).map Sum.inl
  | [] => by simp [PySem.W.keyToksAll, tokG]
  | x :: a => by
    rw [List.map_cons, PySem.W.keyToksAll, toks_ints a]
    simp [PySem.W.keyToks, tokG]
theorem toks_rows : ∀ r : List (List Int), PySem.W.keyToksAll (r.map fun l => PyData.tuple (l.map .int)) = (tokR r).map Sum.inl
  | [] => by simp [PySem.W.keyToksAll, tokR]
  | g :: r => by
    rw [List.map_cons, PySem.W.keyToksAll, toks_rows r, PySem.W.keyToks, toks_ints]
    simp [tokR]
theorem lex_inl : ∀ a b : List Int, PyProof.Rows.lexLt PyProof.Rows.itemOrd (a.map Sum.inl) (b.map Sum.inl) = decide (a < b)
  | [], [] => by simp [PyProof.Rows.lexLt]
  | [], y :: b => by simp [PyProof.Rows.lexLt]
  | x :: a, [] => by simp [PyProof.Rows.lexLt]
  | x :: a, y :: b => by
    have ih := lex_inl a b
    rw [List.map_cons, List.map_cons, PyProof.Rows.lex_cons, ih]
    have e1 : PyProof.Rows.itemOrd.blt (Sum.inl x) (Sum.inl y) = decide (x < y) := rfl
    have e2 : PyProof.Rows.itemOrd.blt (Sum.inl y) (Sum.inl x) = decide (y < x) := rfl
    rw [e1, e2]
    have e3 : decide (x :: a < y :: b) = (decide (x < y) || (!decide (y < x) && decide (a < b))) := by
      rw [Bool.eq_iff_iff]
      simp only [decide_eq_true_eq, Bool.or_eq_true, Bool.and_eq_true, Bool.not_eq_true', decide_eq_false_iff_not]
      rw [List.cons_lt_cons_iff]
      constructor
      · rintro (h | ⟨h1, h2⟩)
        · exact .inl h
        · exact .inr ⟨by omega, h2⟩
      · rintro (h | ⟨h1, h2⟩)
        · exact .inl h
        · by_cases c : x < y
          · exact .inl c
          · exact .inr ⟨by omega, h2⟩
    rw [e3]
theorem dataLt_rows (a b : List (List Int)) : PySem.W.dataLt (pR a) (pR b) = decide (tokR a < tokR b) := by
  unfold PySem.W.dataLt
  have e : ∀ r : List (List Int), PySem.W.keyToks (pR r) = (tokR r).map Sum.inl := fun r => by
    unfold pR
    rw [PySem.W.keyToks]
    exact toks_rows r
  rw [e, e]
  exact lex_inl _ _

theorem tokG_lt : ∀ a b : List Int, tokG a < tokG b ↔ a < b
  | [], [] => by simp [tokG]
  | [], y :: b => by simp [tokG, List.cons_lt_cons_iff]
  | x :: a, [] => by simp [tokG, List.cons_lt_cons_iff]
  | x :: a, y :: b => by
    have ih := tokG_lt a b
    simp only [tokG, List.cons_lt_cons_iff, ih]
    simp
theorem tokG_app : ∀ {a b : List Int} (s t : List Int), a < b → tokG a ++ s < tokG b ++ t
  | [], [], s, t, h => by simp at h
  | [], y :: b, s, t, h => by simp [tokG, List.cons_lt_cons_iff]
  | x :: a, [], s, t, h => by simp at h
  | x :: a, y :: b, s, t, h => by
    rw [List.cons_lt_cons_iff] at h
    simp only [tokG, List.cons_append, List.cons_lt_cons_iff]
    rcases h with h | ⟨rfl, h⟩
    · exact .inr ⟨trivial, .inl h⟩
    · exact .inr ⟨trivial, .inr ⟨rfl, tokG_app s t h⟩⟩
theorem app_lt : ∀ (l : List Int) {s t : List Int}, s < t → l ++ s < l ++ t
  | [], s, t, h => h
  | x :: l, s, t, h => by
    rw [List.cons_append, List.cons_append, List.cons_lt_cons_iff]
    exact .inr ⟨rfl, app_lt l h⟩
theorem tokR_lt : ∀ {a b : List (List Int)}, a < b → tokR a < tokR b
  | [], [], h => by simp at h
  | [], y :: b, h => by simp [tokR, List.cons_lt_cons_iff]
  | x :: a, [], h => by simp at h
  | x :: a, y :: b, h => by
    rw [List.cons_lt_cons_iff] at h
    simp only [tokR, List.cons_lt_cons_iff]
    rcases h with h | ⟨rfl, h⟩
    · exact .inr ⟨trivial, tokG_app _ _ h⟩
    · exact .inr ⟨trivial, app_lt _ (tokR_lt h)⟩
theorem toSW_eq {d : D} {h : Hc} {p X : PyData} (e : toSW d h = some p) (t : toP h 40 d = some X) : p = X := by
  unfold toSW at e
  rw [t] at e
  simp only at e
  split at e
  · injection e with e; exact e.symm
  · cases e
theorem mapO_int {h : Hc} {n : Nat} : ∀ l : List Int, mapO (toP h n) (iL l) = some (l.map PyData.int)
  | [] => rfl
  | x :: l => by
    have ih := mapO_int (h := h) (n := n) l
    have e : toP h n (.int x) = some (.int x) := by cases n <;> rfl
    simp only [iL, List.map_cons, mapO, e] at ih ⊢
    rw [ih]
theorem mapO_rows {h : Hc} {n : Nat} : ∀ l : List (List Int), mapO (toP h (n + 1)) (l.map iT) = some (l.map fun l => PyData.tuple (l.map .int))
  | [] => rfl
  | x :: l => by
    have ih := mapO_rows (h := h) (n := n) l
    have e : toP h (n + 1) (iT x) = some (.tuple (x.map .int)) := by
      show (match mapO (toP h n) (iL x) with | some l => some (PyData.tuple l) | none => none) = _
      rw [mapO_int]
    rw [List.map_cons, List.map_cons]
    simp only [mapO]
    rw [e, ih]
theorem toSW_row {p : List Int} {h : Hc} : toSW (iT p) h = some (.tuple (p.map .int)) := by
  have pu : pu 40 (iT p) = true := pu_iT _ p
  obtain ⟨q, _, e⟩ := pu_toSW pu
  have t : toP h 40 (iT p) = some (.tuple (p.map .int)) := by
    show (match mapO (toP h 39) (iL p) with | some l => some (PyData.tuple l) | none => none) = _
    rw [mapO_int]
  rw [e h, toSW_eq (e h) t]
theorem toSW_rows {p : List (List Int)} {h : Hc} : toSW (.tup (dsD p)) h = some (pR p) := by
  have pu : pu 40 (.tup (dsD p)) = true := by
    show ((dsD p).all (pu 39)) = true
    rw [List.all_map, List.all_eq_true]
    intro x _
    exact pu_iT _ x
  obtain ⟨q, _, e⟩ := pu_toSW pu
  have t : toP h 40 (.tup (dsD p)) = some (pR p) := by
    show (match mapO (toP h 39) (dsD p) with | some l => some (PyData.tuple l) | none => none) = _
    rw [mapO_rows]
    rfl
  rw [e h, toSW_eq (e h) t]
theorem q_ltRow {p q : List Int} {h : Hc} : gLtW (iT p) (iT q) h = some (.bl (decide (p < q)), h) := by
  have al : PySem.W.alike (.tuple (p.map .int)) (.tuple (q.map .int)) = true := by
    simp only [PySem.W.alike]; exact alk_ints p q
  have c : cmpW (iT p) (iT q) h = some (.tuple (p.map .int), .tuple (q.map .int)) := by
    unfold cmpW
    rw [toSW_row, toSW_row]
    simp only [al, notN, Bool.and_self, if_true]
  have d : PySem.W.dataLt (.tuple (p.map .int)) (.tuple (q.map .int)) = decide (p < q) := by
    rw [PySem.W.dataLt_tuple, toks_ints, toks_ints, lex_inl]
    exact Bool.eq_iff_iff.mpr (by simp only [decide_eq_true_eq]; exact tokG_lt p q)
  unfold gLtW
  rw [c]
  simp only [d]
theorem q_geRows {p q : List (List Int)} {h : Hc} (lt : p < q) : gGeW (.tup (dsD p)) (.tup (dsD q)) h = some (.bl false, h) := by
  have al : PySem.W.alike (pR p) (pR q) = true := by
    simp only [pR, PySem.W.alike]; exact alk_rows p q
  have c : cmpW (.tup (dsD p)) (.tup (dsD q)) h = some (pR p, pR q) := by
    unfold cmpW
    rw [toSW_rows, toSW_rows]
    have nn : notN (pR p) = true := rfl
    simp only [al, nn, Bool.and_self, if_true]
  have d : PySem.W.dataLt (pR p) (pR q) = true := by
    rw [dataLt_rows]
    exact decide_eq_true (tokR_lt lt)
  unfold gGeW
  rw [c]
  simp only [d, Bool.not_true]
theorem comp_apV43 {α : Type} {t : TGT} {tt : CT} {e : CE} {ρ : Rho} {h0 : Hc} (mk F : α → D) (P : α → Bool) : ∀ (l : List α) (h : Hc), Ap h0 h → (∀ a ∈ l, ∃ ρ1, asg t (mk a) ρ = some ρ1 ∧ ∀ h, Ap h0 h → tt ρ1 h = .ok (P a) h ∧ (P a = true → ∃ h', e ρ1 h = .ok (F a) h' ∧ Ap h h')) → ∃ h', cCompB t tt e ρ (l.map mk) h = .ok ((l.filter P).map F) h' ∧ Ap h h'
  | [], h, _, _ => ⟨h, rfl, .refl⟩
  | a :: l, h, a0, k => by
    obtain ⟨ρ1, e1, k1⟩ := k a (by simp)
    obtain ⟨e2, k2⟩ := k1 h a0
    cases c : P a with
    | false =>
      obtain ⟨h2, e3, ap2⟩ := comp_apV43 mk F P l h a0 fun x hx => k x (by simp [hx])
      rw [c] at e2
      refine ⟨h2, ?_, ap2⟩
      rw [List.filter_cons_of_neg (by simp [c])]
      simp only [List.map_cons, cCompB, e1, e2, Res.bind, e3]
    | true =>
      obtain ⟨h1, e4, ap⟩ := k2 c
      obtain ⟨h2, e3, ap2⟩ := comp_apV43 mk F P l h1 (a0.trans ap) fun x hx => k x (by simp [hx])
      rw [c] at e2
      refine ⟨h2, ?_, ap.trans ap2⟩
      rw [List.filter_cons_of_pos c]
      simp only [List.map_cons, cCompB, e1, e2, e4, Res.bind, e3]
theorem q_max43 {l : List Int} {h : Hc} (k : l ≠ []) : gMax [iT l] h = some (.int (maxL l), h) := by
  cases l with
  | nil => exact absurd rfl k
  | cons i l => simp only [gMax, asSeq, intsOf_iL]
theorem max_zeros : ∀ k : Nat, k < 13 → maxL (List.replicate k 0) = 0 := by decide +kernel
theorem rank_out {b : List Int} {ds : List (List Int)} {n : Int} {h : Hc} (hd : ds.length ≤ 100) (nb : b ≠ []) (e : (cnt b ds 0 0)[ds.length]? = some n) (bad : 0 < maxL b ∨ n ≠ 1) : ∃ h', m_calendar_rank [calD b ds] h = .exn "Unlike" (.int 0) h' ∧ Ap h h' := by
  have qm := q_max43 (h := h) nb
  by_cases c : 0 < maxL b
  · refine ⟨h, ?_, .refl⟩
    unfold m_calendar_rank runD b_calendar_rank
    simp [q_bok, q_bxn, q_ofok, q_ofxn, q_vo, q_var, q_k, q_c1, q_c2, q_nil, q_cons, q_c, q_call, q_callK, pick, q_b, q_tru, q_not, q_and, q_or, q_ifE, q_andV, q_orV, q_notV, q_chain, q_seq, q_tnx, q_trt, q_txn, q_tbk, q_tct, q_skip, q_drop, q_ret, q_retN, q_bk, q_ct, q_set, q_par, q_par3, q_if, q_raise, q_mt, q_mt0, q_end0, q_endr, q_endx, q_lt, q_le, q_gt, q_ge, q_sub, q_add, q_neg, q_inti, q_intb, q_max, q_min, q_lenT, q_lenF, q_truT, q_truF, q_truB, q_truI, q_ixT, q_ixF, at_0, at_1, er_int, er_bl, er_str, er_non, er_tup, er_flst, er_ref, er_obj, er_ty, er_gl, q_lst, q_tup, q_cutT, q_pn, q_ps, q_slT, q_itS, seqL_t, sz_0, sz_1, sz_2, sz_3, sz_4, sz_5, sz_6, sz_7, sz_8, sz_9, sz_10, sz_11, sz_12, sz_13, sz_14, fld_b, fld_d, qm, c]
  · obtain ⟨r, h', e1, ⟨n', e2, rfl⟩, l, rfl⟩ := (ends_ok (b := b) (ds := ds) (h := h) hd).eq
    rw [e] at e2
    cases e2
    have ne : n ≠ 1 := bad.resolve_left c
    have qn : gNe (.int n) (.int 1) (h ++ l) = some (.bl true, h ++ l) := by
      simp only [gNe, eqD, toS_int]; simp [PyData.eqv, ne]
    refine ⟨h ++ l, ?_, ⟨l, rfl⟩⟩
    unfold m_calendar_rank runD b_calendar_rank
    simp [q_bok, q_bxn, q_ofok, q_ofxn, q_vo, q_var, q_k, q_c1, q_c2, q_nil, q_cons, q_c, q_call, q_callK, pick, q_b, q_tru, q_not, q_and, q_or, q_ifE, q_andV, q_orV, q_notV, q_chain, q_seq, q_tnx, q_trt, q_txn, q_tbk, q_tct, q_skip, q_drop, q_ret, q_retN, q_bk, q_ct, q_set, q_par, q_par3, q_if, q_raise, q_mt, q_mt0, q_end0, q_endr, q_endx, q_lt, q_le, q_gt, q_ge, q_sub, q_add, q_neg, q_inti, q_intb, q_max, q_min, q_lenT, q_lenF, q_truT, q_truF, q_truB, q_truI, q_ixT, q_ixF, at_0, at_1, er_int, er_bl, er_str, er_non, er_tup, er_flst, er_ref, er_obj, er_ty, er_gl, q_lst, q_tup, q_cutT, q_pn, q_ps, q_slT, q_itS, seqL_t, sz_0, sz_1, sz_2, sz_3, sz_4, sz_5, sz_6, sz_7, sz_8, sz_9, sz_10, sz_11, sz_12, sz_13, sz_14, fld_b, fld_d, qm, c, e1, qn]

end Gk

set_option Elab.async false
set_option linter.all false
set_option maxRecDepth 100000
namespace Gk
open PySem Sx
theorem rank_w {k : Nat} {ds : List (List Int)} {h : Hc} (k1 : 1 ≤ k) (k12 : k ≤ 12) (v : DayV k ds) : ∃ h', m_calendar_rank [calD (List.replicate k 0) ds] h = .ok (.int (rankP k ds)) h' ∧ Ap h h' := by
  have sz : (3000 : Nat) < sizeLine := by decide
  suffices w : wE (m_calendar_rank [calD (List.replicate k 0) ds] h) fun r h' => r = .int (rankP k ds) ∧ Ap h h' by
    obtain ⟨_, h', e, rfl, q⟩ := w.eq
    exact ⟨h', e, q⟩
  have nb : List.replicate k (0 : Int) ≠ [] := by
    intro z
    have := congrArg List.length z
    simp at this
    omega
  have qm := q_max43 (h := h) nb
  rw [max_zeros k (by omega)] at qm
  obtain ⟨dl, _⟩ := dayv_len (by omega) v
  obtain ⟨r, h1, e1, ⟨n', e2, rfl⟩, ap1⟩ := (ends_ok (b := List.replicate k 0) (ds := ds) (h := h) (by omega)).eq
  have ap1 : Ap h h1 := ap1
  rw [dayv_end (by omega) v] at e2
  cases e2
  have qn : gNe (.int 1) (.int 1) h1 = some (.bl false, h1) := id rfl
  obtain ⟨h2, w, e3, ap2, wl, gw⟩ := counts_to_w (h := h1) k1 k12
  have ln : (iL (List.replicate k (0 : Int))).length = k := by simp
  have fb : gFld cal "born" (calD (List.replicate k 0) ds) h = some (iT (List.replicate k 0), h) := fld_b
  have fb1 : gFld cal "born" (calD (List.replicate k 0) ds) h1 = some (iT (List.replicate k 0), h1) := fld_b
  have fd : gFld cal "days" (calD (List.replicate k 0) ds) h2 = some (.tup (dsD ds), h2) := fld_d
  have ql : gLen [iT (List.replicate k 0)] h1 = some (.int (k : Nat), h1) := by
    have := q_lenT (ds := iL (List.replicate k (0 : Int))) (h := h1)
    rw [ln] at this
    exact this
  have er : (calD (List.replicate k 0) ds).isErr = false := rfl
  have erb : (iT (List.replicate k 0)).isErr = false := rfl
  have ap0 := ap1.trans ap2
  unfold m_calendar_rank
  refine wE_run rfl ?_
  unfold b_calendar_rank
  generalize hC : calD (List.replicate k 0) ds = CC at *
  generalize hB : iT (List.replicate k 0) = BB at *
  refine wS_step (ρ' := [some CC, none, none, none, none, none]) (h' := h1) (by
    simp [q_bok, q_bxn, q_ofok, q_ofxn, q_vo, q_var, q_k, q_c1, q_c2, q_nil, q_cons, q_c, q_call, q_callK, pick, q_b, q_tru, q_not, q_and, q_or, q_ifE, q_andV, q_orV, q_notV, q_chain, q_seq, q_tnx, q_trt, q_txn, q_tbk, q_tct, q_skip, q_drop, q_ret, q_retN, q_bk, q_ct, q_set, q_par, q_par3, q_if, q_raise, q_mt, q_mt0, q_end0, q_endr, q_endx, q_lt, q_le, q_gt, q_ge, q_sub, q_add, q_neg, q_inti, q_intb, q_max, q_min, q_lenT, q_lenF, q_truT, q_truF, q_truB, q_truI, q_ixT, q_ixF, at_0, at_1, er_int, er_bl, er_str, er_non, er_tup, er_flst, er_ref, er_obj, er_ty, er_gl, q_lst, q_tup, q_cutT, q_pn, q_ps, q_slT, q_itS, seqL_t, sz_0, sz_1, sz_2, sz_3, sz_4, sz_5, sz_6, sz_7, sz_8, sz_9, sz_10, sz_11, sz_12, sz_13, sz_14, er, erb, fb, qm, e1, qn]) ?_
  have gt2 : ∀ (d e : D) (h : Hc), gTupD [d, e] h = some (.tup [d, e], h) := fun d e h => id rfl
  have as2 : asg (.tp [.nm 1, .nm 2]) (.tup [.int (k : Nat), .int 0]) [some CC, none, none, none, none, none] = some [some CC, some (.int (k : Nat)), some (.int 0), none, none, none] := id rfl
  refine wS_step (ρ' := [some CC, some (.int (k : Nat)), some (.int 0), none, none, none]) (h' := h1) (by
    generalize ((k : Nat) : Int) = KK at *
    simp only [q_asg, q_bok, q_bxn, q_ofok, q_ofxn, q_vo, q_var, q_k, q_c1, q_c2, q_nil, q_cons, q_c, q_call, q_callK, pick, q_b, q_tru, q_not, q_and, q_or, q_ifE, q_andV, q_orV, q_notV, q_chain, q_seq, q_tnx, q_trt, q_txn, q_tbk, q_tct, q_skip, q_drop, q_ret, q_retN, q_bk, q_ct, q_set, q_par, q_par3, q_if, q_raise, q_mt, q_mt0, q_end0, q_endr, q_endx, q_lt, q_le, q_gt, q_ge, q_sub, q_add, q_neg, q_inti, q_intb, q_max, q_min, q_lenT, q_lenF, q_truT, q_truF, q_truB, q_truI, q_ixT, q_ixF, at_0, at_1, er_int, er_bl, er_str, er_non, er_tup, er_flst, er_ref, er_obj, er_ty, er_gl, q_tup, q_cutT, q_pn, q_ps, q_slT, q_itS, seqL_t, sz_0, sz_1, sz_2, sz_3, sz_4, sz_5, sz_6, sz_7, sz_8, sz_9, sz_10, sz_11, sz_12, sz_13, sz_14, List.getElem?_cons_zero, er, erb, Bool.false_eq_true, if_false, fb1, ql, gt2, as2]) ?_
  refine wS_step (ρ' := [some CC, some (.int (k : Nat)), some (.int 0), some (.ref w), none, none]) (h' := h2) (by
    generalize ((k : Nat) : Int) = KK at *
    simp [q_bok, q_bxn, q_ofok, q_ofxn, q_vo, q_var, q_k, q_c1, q_c2, q_nil, q_cons, q_c, q_call, q_callK, pick, q_b, q_tru, q_not, q_and, q_or, q_ifE, q_andV, q_orV, q_notV, q_chain, q_seq, q_tnx, q_trt, q_txn, q_tbk, q_tct, q_skip, q_drop, q_ret, q_retN, q_bk, q_ct, q_set, q_par, q_par3, q_if, q_raise, q_mt, q_mt0, q_end0, q_endr, q_endx, q_lt, q_le, q_gt, q_ge, q_sub, q_add, q_neg, q_inti, q_intb, q_max, q_min, q_lenT, q_lenF, q_truT, q_truF, q_truB, q_truI, q_ixT, q_ixF, at_0, at_1, er_int, er_bl, er_str, er_non, er_tup, er_flst, er_ref, er_obj, er_ty, er_gl, q_lst, q_tup, q_cutT, q_pn, q_ps, q_slT, q_itS, seqL_t, sz_0, sz_1, sz_2, sz_3, sz_4, sz_5, sz_6, sz_7, sz_8, sz_9, sz_10, sz_11, sz_12, sz_13, sz_14, er, e3]) ?_
  refine wS_loop ?_
  rw [q_for (l := ds.map iT) (h1 := h2) (by
    generalize ((k : Nat) : Int) = KK at *
    simp [q_bok, q_bxn, q_ofok, q_ofxn, q_vo, q_var, q_k, q_c1, q_c2, q_nil, q_cons, q_c, q_call, q_callK, pick, q_b, q_tru, q_not, q_and, q_or, q_ifE, q_andV, q_orV, q_notV, q_chain, q_seq, q_tnx, q_trt, q_txn, q_tbk, q_tct, q_skip, q_drop, q_ret, q_retN, q_bk, q_ct, q_set, q_par, q_par3, q_if, q_raise, q_mt, q_mt0, q_end0, q_endr, q_endx, q_lt, q_le, q_gt, q_ge, q_sub, q_add, q_neg, q_inti, q_intb, q_max, q_min, q_lenT, q_lenF, q_truT, q_truF, q_truB, q_truI, q_ixT, q_ixF, at_0, at_1, er_int, er_bl, er_str, er_non, er_tup, er_flst, er_ref, er_obj, er_ty, er_gl, q_lst, q_tup, q_cutT, q_pn, q_ps, q_slT, q_itS, seqL_t, sz_0, sz_1, sz_2, sz_3, sz_4, sz_5, sz_6, sz_7, sz_8, sz_9, sz_10, sz_11, sz_12, sz_13, sz_14, er, fd])]
  refine for_inv (fun l ρ h3 => ∃ (rest : List (List Int)) (m : Nat) (acc : Int) (x4 : Option D), l = rest.map iT ∧ DayV m rest ∧ m ≤ k ∧ acc + rankP m rest = rankP k ds ∧ ρ = [some CC, some (.int (m : Nat)), some (.int acc), some (.ref w), x4, none] ∧ Ap h2 h3) ?_ ?_ _ _ _ ⟨ds, k, 0, none, rfl, v, Nat.le_refl _, by omega, rfl, .refl⟩
  · rintro ρ h3 ⟨rest, m, acc, x4, e, dv, mk, en, rfl, ap3⟩
    cases rest with
    | cons q rest => cases e
    | nil =>
      have en : acc + 0 = rankP k ds := en
      refine wS_ret (d := .int acc) (h' := h3) (by simp [q_bok, q_bxn, q_ofok, q_ofxn, q_vo, q_var, q_k, q_c1, q_c2, q_nil, q_cons, q_c, q_call, q_callK, pick, q_b, q_tru, q_not, q_and, q_or, q_ifE, q_andV, q_orV, q_notV, q_chain, q_seq, q_tnx, q_trt, q_txn, q_tbk, q_tct, q_skip, q_drop, q_ret, q_retN, q_bk, q_ct, q_set, q_par, q_par3, q_if, q_raise, q_mt, q_mt0, q_end0, q_endr, q_endx, q_lt, q_le, q_gt, q_ge, q_sub, q_add, q_neg, q_inti, q_intb, q_max, q_min, q_lenT, q_lenF, q_truT, q_truF, q_truB, q_truI, q_ixT, q_ixF, at_0, at_1, er_int, er_bl, er_str, er_non, er_tup, er_flst, er_ref, er_obj, er_ty, er_gl, q_lst, q_tup, q_cutT, q_pn, q_ps, q_slT, q_itS, seqL_t, sz_0, sz_1, sz_2, sz_3, sz_4, sz_5, sz_6, sz_7, sz_8, sz_9, sz_10, sz_11, sz_12, sz_13, sz_14]) ⟨by rw [← en, Int.add_zero], ap0.trans ap3⟩
  · rintro dd r ρ h3 ⟨rest, m, acc, x4, e, dv, mk, en, rfl, ap3⟩
    cases rest with
    | nil => cases e
    | cons q rest =>
      rw [List.map_cons] at e
      cases e
      refine ⟨_, asg_nm, ?_⟩
      obtain ⟨qm2, dv⟩ := dv
      have g3 := ap3.get gw
      obtain ⟨h4, e4, ap4⟩ := patterns_p (k := m) (h := h3) (by omega)
      have fw := pats_few m (by omega)
      obtain ⟨h5, e5, ap5⟩ := comp_apV43 (t := .nm 5) (tt := cB (Sx.c2 gLtW (cVar 5) (cVar 4))) (e := Sx.c2 gIx (cVar 3) (Sx.c2 gSub (cVar 1) (cCall m_less (cCons (cVar 5) cNil)))) (ρ := wipeD [some CC, some (.int (m : Nat)), some (.int acc), some (.ref w), some (iT q), none] [5]) (h0 := h4) iT (fun p => .int (cN (m - lsN p))) (fun p => decide (p < q)) (pats m) h4 .refl fun p hp => ⟨_, asg_nm, fun h6 a6 => by
        have lt := q_ltRow (p := p) (q := q) (h := h6)
        have er5 : (iT p).isErr = false := rfl
        have er6 : (iT q).isErr = false := rfl
        obtain ⟨h7, e7, a7⟩ := less_pat (h := h6) (by omega) hp
        have ix := ix_tab (n := k - 1) (k := m) (by omega) (by omega) (by omega) hp ((ap4.trans (a6.trans a7)).get g3)
        refine ⟨?_, fun _ => ⟨h7, ?_, a7⟩⟩
        · generalize decide (p < q) = B at *
          generalize iT p = PP at *
          generalize iT q = QQ at *
          generalize ((m : Nat) : Int) = MM at *
          simp [q_bok, q_bxn, q_ofok, q_ofxn, q_vo, q_var, q_k, q_c1, q_c2, q_nil, q_cons, q_c, q_call, q_callK, pick, q_b, q_tru, q_not, q_and, q_or, q_ifE, q_andV, q_orV, q_notV, q_chain, q_seq, q_tnx, q_trt, q_txn, q_tbk, q_tct, q_skip, q_drop, q_ret, q_retN, q_bk, q_ct, q_set, q_par, q_par3, q_if, q_raise, q_mt, q_mt0, q_end0, q_endr, q_endx, q_lt, q_le, q_gt, q_ge, q_sub, q_add, q_neg, q_inti, q_intb, q_max, q_min, q_lenT, q_lenF, q_truT, q_truF, q_truB, q_truI, q_ixT, q_ixF, at_0, at_1, er_int, er_bl, er_str, er_non, er_tup, er_flst, er_ref, er_obj, er_ty, er_gl, q_lst, q_tup, q_cutT, q_pn, q_ps, q_slT, q_itS, seqL_t, sz_0, sz_1, sz_2, sz_3, sz_4, sz_5, sz_6, sz_7, sz_8, sz_9, sz_10, sz_11, sz_12, sz_13, sz_14, wipeD, er5, er6, lt]
        · generalize iT p = PP at *
          generalize iT q = QQ at *
          generalize ((m : Nat) : Int) = MM at *
          simp [q_bok, q_bxn, q_ofok, q_ofxn, q_vo, q_var, q_k, q_c1, q_c2, q_nil, q_cons, q_c, q_call, q_callK, pick, q_b, q_tru, q_not, q_and, q_or, q_ifE, q_andV, q_orV, q_notV, q_chain, q_seq, q_tnx, q_trt, q_txn, q_tbk, q_tct, q_skip, q_drop, q_ret, q_retN, q_bk, q_ct, q_set, q_par, q_par3, q_if, q_raise, q_mt, q_mt0, q_end0, q_endr, q_endx, q_lt, q_le, q_gt, q_ge, q_sub, q_add, q_neg, q_inti, q_intb, q_max, q_min, q_lenT, q_lenF, q_truT, q_truF, q_truB, q_truI, q_ixT, q_ixF, at_0, at_1, er_int, er_bl, er_str, er_non, er_tup, er_flst, er_ref, er_obj, er_ty, er_gl, q_lst, q_tup, q_cutT, q_pn, q_ps, q_slT, q_itS, seqL_t, sz_0, sz_1, sz_2, sz_3, sz_4, sz_5, sz_6, sz_7, sz_8, sz_9, sz_10, sz_11, sz_12, sz_13, sz_14, wipeD, er5, er6, e7, ix]⟩
      have d1 := q_comp (vs := [5]) (ci := cItS (cCall m_patterns (cCons (cVar 1) cNil))) (l := (pats m).map iT) (h := h3) (ρ := [some CC, some (.int (m : Nat)), some (.int acc), some (.ref w), some (iT q), none]) (by
        generalize iT q = QQ at *
        generalize ((m : Nat) : Int) = MM at *
        simp [q_bok, q_bxn, q_ofok, q_ofxn, q_vo, q_var, q_k, q_c1, q_c2, q_nil, q_cons, q_c, q_call, q_callK, pick, q_b, q_tru, q_not, q_and, q_or, q_ifE, q_andV, q_orV, q_notV, q_chain, q_seq, q_tnx, q_trt, q_txn, q_tbk, q_tct, q_skip, q_drop, q_ret, q_retN, q_bk, q_ct, q_set, q_par, q_par3, q_if, q_raise, q_mt, q_mt0, q_end0, q_endr, q_endx, q_lt, q_le, q_gt, q_ge, q_sub, q_add, q_neg, q_inti, q_intb, q_max, q_min, q_lenT, q_lenF, q_truT, q_truF, q_truB, q_truI, q_ixT, q_ixF, at_0, at_1, er_int, er_bl, er_str, er_non, er_tup, er_flst, er_ref, er_obj, er_ty, er_gl, q_lst, q_tup, q_cutT, q_pn, q_ps, q_slT, q_itS, seqL_t, sz_0, sz_1, sz_2, sz_3, sz_4, sz_5, sz_6, sz_7, sz_8, sz_9, sz_10, sz_11, sz_12, sz_13, sz_14, e4]) (by rw [List.length_map]; omega) e5
      have em : (((pats m).filter fun p => decide (p < q)).map fun p => D.int (cN (m - lsN p))) = iL (((pats m).filter fun p => decide (p < q)).map fun p => cN (m - lsN p)) := by
        rw [iL, List.map_map]; rfl
      rw [em] at d1
      have er : rankP m (q :: rest) = (((pats m).filter fun p => decide (p < q)).map fun p => cN (m - lsN p)).sum + rankP (m - lsN q) rest := rfl
      rw [er] at en
      generalize (((pats m).filter fun p => decide (p < q)).map fun p => cN (m - lsN p)) = LL at *
      have sm := q_sumR (get_new (h := h5) (p := (false, O.lst (iL LL))))
      have ap6 : Ap h3 (h5 ++ [(false, O.lst (iL LL))]) := (ap4.trans ap5).app _
      generalize h5 ++ [(false, O.lst (iL LL))] = h6 at *
      obtain ⟨h7, e7, ap7⟩ := less_pat (h := h6) (by omega) qm2
      obtain ⟨l1, l2, l3, l4⟩ := fw.2 q qm2
      have er6 : (iT q).isErr = false := rfl
      refine wS_step (ρ' := [some CC, some (.int (m : Nat)), some (.int (acc + LL.sum)), some (.ref w), some (iT q), none]) (h' := h6) ?_ ?_
      · refine q_aug43 (x := .int acc) (y := .int LL.sum) (z := .int (acc + LL.sum)) (h1 := h6) (h2 := h6) rfl rfl ?_ (id rfl)
        generalize iT q = QQ at *
        generalize ((m : Nat) : Int) = MM at *
        simp only [List.set_cons_succ, List.set_cons_zero]
        simp [q_bok, q_bxn, q_ofok, q_ofxn, q_vo, q_var, q_k, q_c1, q_c2, q_nil, q_cons, q_c, q_call, q_callK, pick, q_b, q_tru, q_not, q_and, q_or, q_ifE, q_andV, q_orV, q_notV, q_chain, q_seq, q_tnx, q_trt, q_txn, q_tbk, q_tct, q_skip, q_drop, q_ret, q_retN, q_bk, q_ct, q_set, q_par, q_par3, q_if, q_raise, q_mt, q_mt0, q_end0, q_endr, q_endx, q_lt, q_le, q_gt, q_ge, q_sub, q_add, q_neg, q_inti, q_intb, q_max, q_min, q_lenT, q_lenF, q_truT, q_truF, q_truB, q_truI, q_ixT, q_ixF, at_0, at_1, er_int, er_bl, er_str, er_non, er_tup, er_flst, er_ref, er_obj, er_ty, er_gl, q_lst, q_tup, q_cutT, q_pn, q_ps, q_slT, q_itS, seqL_t, sz_0, sz_1, sz_2, sz_3, sz_4, sz_5, sz_6, sz_7, sz_8, sz_9, sz_10, sz_11, sz_12, sz_13, sz_14, d1, sm]
      · have ec : ((m - lsN q : Nat) : Int) = ((m : Nat) : Int) - (lsN q : Nat) := by omega
        refine wS.of (f := .nx) (ρ := [some CC, some (.int ((m - lsN q : Nat) : Int)), some (.int (acc + LL.sum)), some (.ref w), some (iT q), none]) (h := h7) ?_ ⟨rest, m - lsN q, acc + LL.sum, _, rfl, dv, by omega, by omega, rfl, ap3.trans (ap6.trans ap7)⟩
        rw [ec]
        refine q_aug43 (x := .int (m : Nat)) (y := .int (lsN q : Nat)) (z := .int (((m : Nat) : Int) - (lsN q : Nat))) (h1 := h7) (h2 := h7) rfl rfl ?_ q_sub
        generalize iT q = QQ at *
        generalize ((m : Nat) : Int) = MM at *
        simp [q_bok, q_bxn, q_ofok, q_ofxn, q_vo, q_var, q_k, q_c1, q_c2, q_nil, q_cons, q_c, q_call, q_callK, pick, q_b, q_tru, q_not, q_and, q_or, q_ifE, q_andV, q_orV, q_notV, q_chain, q_seq, q_tnx, q_trt, q_txn, q_tbk, q_tct, q_skip, q_drop, q_ret, q_retN, q_bk, q_ct, q_set, q_par, q_par3, q_if, q_raise, q_mt, q_mt0, q_end0, q_endr, q_endx, q_lt, q_le, q_gt, q_ge, q_sub, q_add, q_neg, q_inti, q_intb, q_max, q_min, q_lenT, q_lenF, q_truT, q_truF, q_truB, q_truI, q_ixT, q_ixF, at_0, at_1, er_int, er_bl, er_str, er_non, er_tup, er_flst, er_ref, er_obj, er_ty, er_gl, q_lst, q_tup, q_cutT, q_pn, q_ps, q_slT, q_itS, seqL_t, sz_0, sz_1, sz_2, sz_3, sz_4, sz_5, sz_6, sz_7, sz_8, sz_9, sz_10, sz_11, sz_12, sz_13, sz_14, er6, e7]

end Gk

set_option Elab.async false
set_option linter.all false
set_option maxRecDepth 100000
namespace Gk
open PySem Sx
section
variable {h h' : Hc}
theorem w_cc : gEq (.str "count") (.str "count") h = some (.bl true, h) := q_eqS (by rw [pu_str]; decide +kernel)
theorem w_nc : gEq (.str "nth") (.str "count") h = some (.bl false, h) := q_eqN (by rw [pu_str]; decide +kernel) (by rw [pu_str]; decide +kernel) (by intro z; simp only [D.str.injEq] at z; exact absurd z (by decide))
theorem w_rc : gEq (.str "rank") (.str "count") h = some (.bl false, h) := q_eqN (by rw [pu_str]; decide +kernel) (by rw [pu_str]; decide +kernel) (by intro z; simp only [D.str.injEq] at z; exact absurd z (by decide))
theorem w_nn : gEq (.str "nth") (.str "nth") h = some (.bl true, h) := q_eqS (by rw [pu_str]; decide +kernel)
theorem w_rn : gEq (.str "rank") (.str "nth") h = some (.bl false, h) := q_eqN (by rw [pu_str]; decide +kernel) (by rw [pu_str]; decide +kernel) (by intro z; simp only [D.str.injEq] at z; exact absurd z (by decide))
noncomputable abbrev told43B : CS := cIf (cB (Sx.c2 gEq (cVar 0) (cK (.str "count")))) (cSet 4 (cCallK m_calendars_count [0] (cCons (cVar 1) (cNil)))) (cIf (cB (Sx.c2 gEq (cVar 0) (cK (.str "nth")))) (cSet 4 (cCallK m_nth_calendar [1, 0] (cCons (cVar 2) (cCons (cVar 1) (cNil))))) (cSet 4 (cCallK m_calendar_rank [0] (cCons (cVar 1) (cNil)))))
theorem told_c {k i r : Int} (e : m_calendars_count [.int k] h = .ok (.int r) h') : m__law_told [.str "count", .int k, .int i] h = .ok (.int r) h' := by
  unfold m__law_told runD b__law_told
  simp [cTry, q_bok, q_bxn, q_ofok, q_ofxn, q_vo, q_var, q_k, q_c1, q_c2, q_nil, q_cons, q_c, q_call, q_callK, pick, q_b, q_tru, q_not, q_and, q_or, q_ifE, q_andV, q_orV, q_notV, q_chain, q_seq, q_tnx, q_trt, q_txn, q_tbk, q_tct, q_skip, q_drop, q_ret, q_retN, q_bk, q_ct, q_set, q_par, q_par3, q_if, q_raise, q_mt, q_mt0, q_end0, q_endr, q_endx, q_lt, q_le, q_gt, q_ge, q_sub, q_add, q_neg, q_inti, q_intb, q_max, q_min, q_lenT, q_lenF, q_truT, q_truF, q_truB, q_truI, q_ixT, q_ixF, at_0, at_1, er_int, er_bl, er_str, er_non, er_tup, er_flst, er_ref, er_obj, er_ty, er_gl, q_lst, q_tup, q_cutT, q_pn, q_ps, q_slT, q_itS, seqL_t, sz_0, sz_1, sz_2, sz_3, sz_4, sz_5, sz_6, sz_7, sz_8, sz_9, sz_10, sz_11, sz_12, sz_13, sz_14, q_callK, Sx.pick, e, w_cc]
theorem told_n {k i : Int} {C : D} (er : C.isErr = false) (e : m_nth_calendar [.int k, .int i] h = .ok C h') : m__law_told [.str "nth", .int k, .int i] h = .ok C h' := by
  unfold m__law_told runD b__law_told
  simp [cTry, q_bok, q_bxn, q_ofok, q_ofxn, q_vo, q_var, q_k, q_c1, q_c2, q_nil, q_cons, q_c, q_call, q_callK, pick, q_b, q_tru, q_not, q_and, q_or, q_ifE, q_andV, q_orV, q_notV, q_chain, q_seq, q_tnx, q_trt, q_txn, q_tbk, q_tct, q_skip, q_drop, q_ret, q_retN, q_bk, q_ct, q_set, q_par, q_par3, q_if, q_raise, q_mt, q_mt0, q_end0, q_endr, q_endx, q_lt, q_le, q_gt, q_ge, q_sub, q_add, q_neg, q_inti, q_intb, q_max, q_min, q_lenT, q_lenF, q_truT, q_truF, q_truB, q_truI, q_ixT, q_ixF, at_0, at_1, er_int, er_bl, er_str, er_non, er_tup, er_flst, er_ref, er_obj, er_ty, er_gl, q_lst, q_tup, q_cutT, q_pn, q_ps, q_slT, q_itS, seqL_t, sz_0, sz_1, sz_2, sz_3, sz_4, sz_5, sz_6, sz_7, sz_8, sz_9, sz_10, sz_11, sz_12, sz_13, sz_14, q_callK, Sx.pick, e, w_nc, w_nn, er]
theorem told_r {i r : Int} {C : D} (er : C.isErr = false) (e : m_calendar_rank [C] h = .ok (.int r) h') : m__law_told [.str "rank", C, .int i] h = .ok (.int r) h' := by
  unfold m__law_told runD b__law_told
  simp [cTry, q_bok, q_bxn, q_ofok, q_ofxn, q_vo, q_var, q_k, q_c1, q_c2, q_nil, q_cons, q_c, q_call, q_callK, pick, q_b, q_tru, q_not, q_and, q_or, q_ifE, q_andV, q_orV, q_notV, q_chain, q_seq, q_tnx, q_trt, q_txn, q_tbk, q_tct, q_skip, q_drop, q_ret, q_retN, q_bk, q_ct, q_set, q_par, q_par3, q_if, q_raise, q_mt, q_mt0, q_end0, q_endr, q_endx, q_lt, q_le, q_gt, q_ge, q_sub, q_add, q_neg, q_inti, q_intb, q_max, q_min, q_lenT, q_lenF, q_truT, q_truF, q_truB, q_truI, q_ixT, q_ixF, at_0, at_1, er_int, er_bl, er_str, er_non, er_tup, er_flst, er_ref, er_obj, er_ty, er_gl, q_lst, q_tup, q_cutT, q_pn, q_ps, q_slT, q_itS, seqL_t, sz_0, sz_1, sz_2, sz_3, sz_4, sz_5, sz_6, sz_7, sz_8, sz_9, sz_10, sz_11, sz_12, sz_13, sz_14, q_callK, Sx.pick, e, w_rc, w_rn, er]
theorem noErr_d43 {d : D} {ρ : Rho} (h : d.isErr = false) : noErr (some d :: ρ) = noErr ρ := by cases d <;> first | rfl | cases h
theorem told_x {s w c : Str} {C : D} {i y : Int} (er : C.isErr = false) (hc : (c = "BadSize" ∧ w = "size") ∨ (c = "BadCount" ∧ w = "count") ∨ (c = "Unlike" ∧ w = "unlike")) (body : told43B [some (.str s), some C, some (.int i), none, none] h = .ok (.exn c (.int y)) [some (.str s), some C, some (.int i), none, none] h') :
    m__law_told [.str s, C, .int i] h = .ok (.tup [.str w, .int y]) h' := by
  have nw : noErr [some (.str s), some C, some (.int i), none, none] = true := by rw [noErr_d43 rfl, noErr_d43 er]; rfl
  unfold m__law_told runD
  rw [if_pos (show [D.str s, C, D.int i].length = 3 from rfl)]
  unfold b__law_told
  simp only [List.map_cons, List.map_nil, List.cons_append, List.nil_append, List.replicate, List.length_cons, List.length_nil]
  unfold told43B at body
  rw [q_seq]
  unfold cTry
  rw [body]
  have e2 : ∀ c s2 : Str, cRet (cC gTupD (cCons (cK (.str s2)) (cCons (cWhat 3) cNil))) [some (.str s), some C, some (.int i), some (.err c (.int y)), none] h' = .ok (.ret (.tup [.str s2, .int y])) [some (.str s), some C, some (.int i), some (.err c (.int y)), none] h' := fun c s2 => by
    have w5 : cWhat 3 [some (.str s), some C, some (.int i), some (.err c (.int y)), none] h' = .ok (.int y) h' := id rfl
    have tp : gTupD [.str s2, .int y] h' = some (.tup [.str s2, .int y], h') := id rfl
    simp only [q_bok, q_bxn, q_ofok, q_ofxn, q_vo, q_var, q_k, q_c1, q_c2, q_nil, q_cons, q_c, q_call, q_callK, pick, q_b, q_tru, q_not, q_and, q_or, q_ifE, q_andV, q_orV, q_notV, q_chain, q_seq, q_tnx, q_trt, q_txn, q_tbk, q_tct, q_skip, q_drop, q_ret, q_retN, q_bk, q_ct, q_set, q_par, q_par3, q_if, q_raise, q_mt, q_mt0, q_end0, q_endr, q_endx, q_lt, q_le, q_gt, q_ge, q_sub, q_add, q_neg, q_inti, q_intb, q_max, q_min, q_lenT, q_lenF, q_truT, q_truF, q_truB, q_truI, q_ixT, q_ixF, at_0, at_1, er_int, er_bl, er_str, er_non, er_tup, er_flst, er_ref, er_obj, er_ty, er_gl, q_tup, q_cutT, q_pn, q_ps, q_slT, q_itS, seqL_t, sz_0, sz_1, sz_2, sz_3, sz_4, sz_5, sz_6, sz_7, sz_8, sz_9, sz_10, sz_11, sz_12, sz_13, sz_14, w5, tp]
  rcases hc with ⟨rfl, rfl⟩ | ⟨rfl, rfl⟩ | ⟨rfl, rfl⟩
  · have e1 : (errs.contains "BadSize") = true := by decide +kernel
    simp only [e1, if_true, cHds]
    rw [if_pos (by decide)]
    simp only [setN, List.set_cons_succ, List.set_cons_zero]
    rw [e2]
    simp only [offS, unN, List.set_cons_succ, List.set_cons_zero, nw, if_true]
    rfl
  · have e1 : (errs.contains "BadCount") = true := by decide +kernel
    simp only [e1, if_true, cHds]
    rw [if_neg (by decide), if_pos (by decide)]
    simp only [setN, List.set_cons_succ, List.set_cons_zero]
    rw [e2]
    simp only [offS, unN, List.set_cons_succ, List.set_cons_zero, nw, if_true]
    rfl
  · have e1 : (errs.contains "Unlike") = true := by decide +kernel
    simp only [e1, if_true, cHds]
    rw [if_neg (by decide), if_neg (by decide), if_pos (by decide)]
    simp only [setN, List.set_cons_succ, List.set_cons_zero]
    rw [e2]
    simp only [offS, unN, List.set_cons_succ, List.set_cons_zero, nw, if_true]
    rfl
theorem told_cx {k i : Int} (b : ¬ (1 ≤ k ∧ k ≤ 12)) : m__law_told [.str "count", .int k, .int i] h = .ok (.tup [.str "size", .int k]) h := by
  refine told_x rfl (.inl ⟨rfl, rfl⟩) ?_
  have e := count_bad (h := h) b
  unfold told43B
  simp [q_bok, q_bxn, q_ofok, q_ofxn, q_vo, q_var, q_k, q_c1, q_c2, q_nil, q_cons, q_c, q_call, q_callK, pick, q_b, q_tru, q_not, q_and, q_or, q_ifE, q_andV, q_orV, q_notV, q_chain, q_seq, q_tnx, q_trt, q_txn, q_tbk, q_tct, q_skip, q_drop, q_ret, q_retN, q_bk, q_ct, q_set, q_par, q_par3, q_if, q_raise, q_mt, q_mt0, q_end0, q_endr, q_endx, q_lt, q_le, q_gt, q_ge, q_sub, q_add, q_neg, q_inti, q_intb, q_max, q_min, q_lenT, q_lenF, q_truT, q_truF, q_truB, q_truI, q_ixT, q_ixF, at_0, at_1, er_int, er_bl, er_str, er_non, er_tup, er_flst, er_ref, er_obj, er_ty, er_gl, q_lst, q_tup, q_cutT, q_pn, q_ps, q_slT, q_itS, seqL_t, sz_0, sz_1, sz_2, sz_3, sz_4, sz_5, sz_6, sz_7, sz_8, sz_9, sz_10, sz_11, sz_12, sz_13, sz_14, q_callK, Sx.pick, e, w_cc]
theorem told_nx {k i : Int} (b : ¬ (1 ≤ k ∧ k ≤ 12)) : m__law_told [.str "nth", .int k, .int i] h = .ok (.tup [.str "size", .int k]) h := by
  refine told_x rfl (.inl ⟨rfl, rfl⟩) ?_
  have e := nth_bad (i := i) (h := h) b
  unfold told43B
  simp [q_bok, q_bxn, q_ofok, q_ofxn, q_vo, q_var, q_k, q_c1, q_c2, q_nil, q_cons, q_c, q_call, q_callK, pick, q_b, q_tru, q_not, q_and, q_or, q_ifE, q_andV, q_orV, q_notV, q_chain, q_seq, q_tnx, q_trt, q_txn, q_tbk, q_tct, q_skip, q_drop, q_ret, q_retN, q_bk, q_ct, q_set, q_par, q_par3, q_if, q_raise, q_mt, q_mt0, q_end0, q_endr, q_endx, q_lt, q_le, q_gt, q_ge, q_sub, q_add, q_neg, q_inti, q_intb, q_max, q_min, q_lenT, q_lenF, q_truT, q_truF, q_truB, q_truI, q_ixT, q_ixF, at_0, at_1, er_int, er_bl, er_str, er_non, er_tup, er_flst, er_ref, er_obj, er_ty, er_gl, q_lst, q_tup, q_cutT, q_pn, q_ps, q_slT, q_itS, seqL_t, sz_0, sz_1, sz_2, sz_3, sz_4, sz_5, sz_6, sz_7, sz_8, sz_9, sz_10, sz_11, sz_12, sz_13, sz_14, q_callK, Sx.pick, e, w_nc, w_nn]
theorem told_no {k : Nat} {i : Int} (k1 : 1 ≤ k) (k12 : k ≤ 12) (b : ¬ (0 ≤ i ∧ i < cN k)) : ∃ h', m__law_told [.str "nth", .int (k : Nat), .int i] h = .ok (.tup [.str "count", .int i]) h' ∧ Ap h h' := by
  obtain ⟨h', e, ap⟩ := nth_out (h := h) k1 k12 b
  refine ⟨h', told_x rfl (.inr (.inl ⟨rfl, rfl⟩)) ?_, ap⟩
  unfold told43B
  simp [q_bok, q_bxn, q_ofok, q_ofxn, q_vo, q_var, q_k, q_c1, q_c2, q_nil, q_cons, q_c, q_call, q_callK, pick, q_b, q_tru, q_not, q_and, q_or, q_ifE, q_andV, q_orV, q_notV, q_chain, q_seq, q_tnx, q_trt, q_txn, q_tbk, q_tct, q_skip, q_drop, q_ret, q_retN, q_bk, q_ct, q_set, q_par, q_par3, q_if, q_raise, q_mt, q_mt0, q_end0, q_endr, q_endx, q_lt, q_le, q_gt, q_ge, q_sub, q_add, q_neg, q_inti, q_intb, q_max, q_min, q_lenT, q_lenF, q_truT, q_truF, q_truB, q_truI, q_ixT, q_ixF, at_0, at_1, er_int, er_bl, er_str, er_non, er_tup, er_flst, er_ref, er_obj, er_ty, er_gl, q_lst, q_tup, q_cutT, q_pn, q_ps, q_slT, q_itS, seqL_t, sz_0, sz_1, sz_2, sz_3, sz_4, sz_5, sz_6, sz_7, sz_8, sz_9, sz_10, sz_11, sz_12, sz_13, sz_14, q_callK, Sx.pick, e, w_nc, w_nn]
theorem told_rx {b : List Int} {ds : List (List Int)} {n : Int} {i : Int} (hd : ds.length ≤ 100) (nb : b ≠ []) (e : (cnt b ds 0 0)[ds.length]? = some n) (bad : 0 < maxL b ∨ n ≠ 1) : ∃ h', m__law_told [.str "rank", calD b ds, .int i] h = .ok (.tup [.str "unlike", .int 0]) h' ∧ Ap h h' := by
  obtain ⟨h', e, ap⟩ := rank_out (h := h) hd nb e bad
  have er : (calD b ds).isErr = false := rfl
  refine ⟨h', told_x er (.inr (.inr ⟨rfl, rfl⟩)) ?_, ap⟩
  unfold told43B
  generalize calD b ds = C at *
  simp [q_bok, q_bxn, q_ofok, q_ofxn, q_vo, q_var, q_k, q_c1, q_c2, q_nil, q_cons, q_c, q_call, q_callK, pick, q_b, q_tru, q_not, q_and, q_or, q_ifE, q_andV, q_orV, q_notV, q_chain, q_seq, q_tnx, q_trt, q_txn, q_tbk, q_tct, q_skip, q_drop, q_ret, q_retN, q_bk, q_ct, q_set, q_par, q_par3, q_if, q_raise, q_mt, q_mt0, q_end0, q_endr, q_endx, q_lt, q_le, q_gt, q_ge, q_sub, q_add, q_neg, q_inti, q_intb, q_max, q_min, q_lenT, q_lenF, q_truT, q_truF, q_truB, q_truI, q_ixT, q_ixF, at_0, at_1, er_int, er_bl, er_str, er_non, er_tup, er_flst, er_ref, er_obj, er_ty, er_gl, q_lst, q_tup, q_cutT, q_pn, q_ps, q_slT, q_itS, seqL_t, sz_0, sz_1, sz_2, sz_3, sz_4, sz_5, sz_6, sz_7, sz_8, sz_9, sz_10, sz_11, sz_12, sz_13, sz_14, q_callK, Sx.pick, e, w_rc, w_rn, er]
theorem told_cw {k : Nat} {i : Int} (k1 : 1 ≤ k) (k12 : k ≤ 12) : ∃ h', m__law_told [.str "count", .int (k : Nat), .int i] h = .ok (.int (cN k)) h' ∧ Ap h h' := by
  obtain ⟨h', e, ap⟩ := count_ok (h := h) k1 k12
  exact ⟨h', told_c e, ap⟩
theorem told_nw {k : Nat} {i : Int} (k1 : 1 ≤ k) (k12 : k ≤ 12) (i0 : 0 ≤ i) (i1 : i < cN k) : ∃ h', m__law_told [.str "nth", .int (k : Nat), .int i] h = .ok (calD (List.replicate k 0) (nthP 12 k i)) h' ∧ Ap h h' := by
  obtain ⟨h', e, ap⟩ := nth_w (h := h) k1 k12 i0 i1
  exact ⟨h', told_n rfl e, ap⟩
theorem told_rw {k : Nat} {i j : Int} (k1 : 1 ≤ k) (k12 : k ≤ 12) (i0 : 0 ≤ i) (i1 : i < cN k) : ∃ h', m__law_told [.str "rank", calD (List.replicate k 0) (nthP 12 k i), .int j] h = .ok (.int i) h' ∧ Ap h h' := by
  obtain ⟨v, rk, _⟩ := nth_main 12 k i k12 k1 (by omega) i0 i1
  obtain ⟨h', e, ap⟩ := rank_w (h := h) k1 k12 v
  rw [rk] at e
  exact ⟨h', told_r rfl e, ap⟩
theorem isnum43 {a b : Int} : m__law_is_number [.int a, .int b] h = .ok (.bl (decide (a = b))) h := by
  have e1 : gIsi [.int a, .ty "int"] h = some (.bl true, h) := id rfl
  have e2 : gIsi [.int a, .ty "bool"] h = some (.bl false, h) := id rfl
  unfold m__law_is_number runD b__law_is_number
  simp [q_bok, q_bxn, q_ofok, q_ofxn, q_vo, q_var, q_k, q_c1, q_c2, q_nil, q_cons, q_c, q_call, q_callK, pick, q_b, q_tru, q_not, q_and, q_or, q_ifE, q_andV, q_orV, q_notV, q_chain, q_seq, q_tnx, q_trt, q_txn, q_tbk, q_tct, q_skip, q_drop, q_ret, q_retN, q_bk, q_ct, q_set, q_par, q_par3, q_if, q_raise, q_mt, q_mt0, q_end0, q_endr, q_endx, q_lt, q_le, q_gt, q_ge, q_sub, q_add, q_neg, q_inti, q_intb, q_max, q_min, q_lenT, q_lenF, q_truT, q_truF, q_truB, q_truI, q_ixT, q_ixF, at_0, at_1, er_int, er_bl, er_str, er_non, er_tup, er_flst, er_ref, er_obj, er_ty, er_gl, q_lst, q_tup, q_cutT, q_pn, q_ps, q_slT, q_itS, seqL_t, sz_0, sz_1, sz_2, sz_3, sz_4, sz_5, sz_6, sz_7, sz_8, sz_9, sz_10, sz_11, sz_12, sz_13, sz_14, e1, e2, q_eqI]
end

end Gk

set_option Elab.async false
set_option linter.all false
set_option maxRecDepth 100000
namespace Gk
open PySem Sx
theorem q_compR2 {t : TGT} {tt : CT} {e : CE} {ρ : Rho} {vs : List Nat} {ci : CI} {h0 h : Hc} {l xs : List D} {w : Nat} {p : Bool × O} (hw : h[w]? = some p) (e1 : ci ρ h0 = .ok (l, [w]) h) (z : l.length < sizeLine) (e2 : cCompB t tt e (wipeD ρ vs) l (lckL [w] h) = .ok xs (lckL [w] h)) :
    cComp vs ci t tt e ρ h0 = .ok (.ref h.length) (h ++ [(false, .lst xs)]) := by
  unfold cComp
  rw [e1]
  show (if decide (l.length < sizeLine) = true then _ else _) = _
  rw [if_pos (by simpa using z)]
  show (Res.bind (ulkR h [w] (noX (cCompB t tt e (wipeD ρ vs) l (lckL [w] h)))) _) = _
  rw [e2]
  show Res.ok (D.ref (ulkL h [w] (lckL [w] h)).length) (ulkL h [w] (lckL [w] h) ++ _) = _
  rw [ulk_lck hw]
theorem q_extL {h : Hc} {n m : Nat} {f : Bool} {xs es : List D} (g : h[n]? = some (false, .lst xs)) (g2 : h[m]? = some (f, .lst es)) (z : xs.length + es.length ≤ sizeLine) : gExt (.ref n) [.ref m] h = some (.non, h.set n (false, .lst (xs ++ es))) := by
  have e : gExtend (.ref n) [.ref m] h = some (.non, h.set n (false, .lst (xs ++ es))) := by
    unfold gExtend
    simp only [wrL, g, g2, if_pos z]
  unfold gExt
  simp only [e]
structure Kd (n : Nat) (h h' : Hc) : Prop where
  len : h.length ≤ h'.length
  keep : ∀ i, i < h.length → i ≠ n → h'[i]? = h[i]?
theorem Kd.refl {n : Nat} {h : Hc} : Kd n h h := ⟨Nat.le_refl _, fun _ _ _ => rfl⟩
theorem Kd.trans {n : Nat} {h h1 h2 : Hc} (a : Kd n h h1) (b : Kd n h1 h2) : Kd n h h2 :=
  ⟨Nat.le_trans a.len b.len, fun i hi hn => by rw [b.keep i (Nat.lt_of_lt_of_le hi a.len) hn, a.keep i hi hn]⟩
theorem Kd.ap {n : Nat} {h h1 h2 : Hc} (a : Kd n h h1) (b : Ap h1 h2) : Kd n h h2 := by
  obtain ⟨t, rfl⟩ := b
  refine a.trans ⟨by simp, fun i hi _ => List.getElem?_append_left hi⟩
theorem Kd.of {n : Nat} {h h2 : Hc} (b : Ap h h2) : Kd n h h2 := Kd.refl.ap b
theorem Kd.put {n : Nat} {h h1 : Hc} (a : Kd n h h1) (p : Bool × O) : Kd n h (h1.set n p) :=
  ⟨by rw [List.length_set]; exact a.len, fun i hi hn => by rw [List.getElem?_set_ne (Ne.symm hn)]; exact a.keep i hi hn⟩
theorem Kd.unlock {n m : Nat} {h h' : Hc} {p : Bool × O} (g : h[m]? = some p) (a : Kd n (lckL [m] h) h') : Kd n h (h'.set m p) := by
  have l : (lckL [m] h).length = h.length := by rw [lck1 g, List.length_set]
  refine ⟨by rw [List.length_set, ← l]; exact a.len, fun i hi hn => ?_⟩
  by_cases c : i = m
  · subst c
    rw [List.getElem?_set_self (by have := a.len; omega), g]
  · rw [List.getElem?_set_ne (Ne.symm c), a.keep i (by omega) hn, lck1_ne g c]
theorem Kd.isAp {n : Nat} {h h' : Hc} (a : Kd n h h') (hn : h.length ≤ n) : Ap h h' := by
  refine ⟨h'.drop h.length, ?_⟩
  refine List.ext_getElem? fun i => ?_
  by_cases c : i < h.length
  · rw [List.getElem?_append_left c]
    exact a.keep i c (by omega)
  · rw [List.getElem?_append_right (by omega), List.getElem?_drop]
    congr 1
    omega
theorem q_addT' {a b : List Int} {h : Hc} (z : a.length + b.length ≤ 200) : gAdd (iT a) (iT b) h = some (iT (a ++ b), h) := by
  have sz : (200 : Nat) < sizeLine := by decide
  rw [q_addT (by simp; omega)]; simp
theorem flat_takeC {α β : Type} (f : α → List β) (l : List α) (i : Nat) : (((l.take i).map f).flatten).length ≤ ((l.map f).flatten).length := by
  conv => rhs; rw [← List.take_append_drop i l]
  rw [List.map_append, List.flatten_append, List.length_append]; omega
theorem flat_stepC {α β : Type} (f : α → List β) (l : List α) {i : Nat} {a : α} (h : l[i]? = some a) : ((l.take (i + 1)).map f).flatten = ((l.take i).map f).flatten ++ f a := by
  rw [List.take_add_one, h]; simp
theorem ne_nil {h : Hc} {r : List Int} : gNe (iT r) (.tup []) h = some (.bl (!decide (r = [])), h) := q_neT (a := r) (b := [])

def patK : Nat → Nat → Nat → List (List Int)
  | 0, _, _ => []
  | n + 1, k, m => [] :: ((List.range (min k m - 1)).map fun i => (patK n (k - (i + 2)) (i + 2)).map fun r => ((i + 2 : Nat) : Int) :: r).flatten
def nxK (k : Nat) (p : List Int) : Nat := ((k : Int) - p.sum + p.length).toNat
theorem pat_fact : ∀ n, n < 41 → ∀ k, k < 13 → ∀ m, m < 13 → (patK n k m).length ≤ 100 := by decide +kernel
theorem pat_len : ∀ n, n < 41 → ∀ k, k < 13 → ∀ m, m < 13 → ∀ r ∈ patK n k m, r.length ≤ 100 := by decide +kernel
def patF (n k : Nat) (i : Nat) : List (List Int) := (patK n (k - (i + 2)) (i + 2)).map fun r => ((i + 2 : Nat) : Int) :: r
theorem lpatt_w : ∀ (n k m : Nat) (h : Hc), n < 41 → k < n → k ≤ 12 → m ≤ 12 → ∃ h' w, m__law_patterns n [.int (k : Nat), .int (m : Nat)] h = .ok (.ref w) h' ∧ Ap h h' ∧ h.length ≤ w ∧ h'[w]? = some (false, .lst (rL (patK n k m)))
  | 0, _, _, _, _, kn, _, _ => absurd kn (Nat.not_lt_zero _)
  | n + 1, k, m, h, n41, kn, k5, m5 => by
    have sz : (2000 : Nat) < sizeLine := by decide
    suffices w : wE (m__law_patterns (n + 1) [.int (k : Nat), .int (m : Nat)] h) fun x h' => ∃ w, x = .ref w ∧ Ap h h' ∧ h.length ≤ w ∧ h'[w]? = some (false, .lst (rL (patK (n + 1) k m))) by
      obtain ⟨_, h', e, w, rfl, q⟩ := w.eq
      exact ⟨h', w, e, q⟩
    show wE (runD 2 5 (b__law_patterns (m__law_patterns n)) [.int (k : Nat), .int (m : Nat)] h) _
    refine wE_run rfl ?_
    unfold b__law_patterns
    have gt0 : ∀ h : Hc, gTupD [] h = some (.tup [], h) := fun h => id rfl
    have l0 : gLstD [.tup []] h = some (.ref h.length, h ++ [(false, .lst (rL [[]]))]) := q_lst (show (1 : Nat) ≤ sizeLine by decide)
    have g0 : (h ++ [(false, O.lst (rL [[]]))])[h.length]? = some (false, .lst (rL [[]])) := get_new
    have ap0 : Ap h (h ++ [(false, O.lst (rL [[]]))]) := .new _
    have hm : h.length ≤ h.length := Nat.le_refl _
    generalize hw0 : h.length = w0 at l0 g0 hm
    generalize h ++ [(false, O.lst (rL [[]]))] = h0 at *
    refine wS_step (ρ' := [some (.int (k : Nat)), some (.int (m : Nat)), some (.ref w0), none, none]) (h' := h0) (by simp [q_bok, q_bxn, q_ofok, q_ofxn, q_vo, q_var, q_k, q_c1, q_c2, q_nil, q_cons, q_c, q_call, q_callK, pick, q_b, q_tru, q_not, q_and, q_or, q_ifE, q_andV, q_orV, q_notV, q_chain, q_seq, q_tnx, q_trt, q_txn, q_tbk, q_tct, q_skip, q_drop, q_ret, q_retN, q_bk, q_ct, q_set, q_par, q_par3, q_if, q_raise, q_mt, q_mt0, q_end0, q_endr, q_endx, q_lt, q_le, q_gt, q_ge, q_sub, q_add, q_neg, q_inti, q_intb, q_max, q_min, q_lenT, q_lenF, q_truT, q_truF, q_truB, q_truI, q_ixT, q_ixF, at_0, at_1, er_int, er_bl, er_str, er_non, er_tup, er_flst, er_ref, er_obj, er_ty, er_gl, q_tup, q_cutT, q_pn, q_ps, q_slT, q_itS, seqL_t, sz_0, sz_1, sz_2, sz_3, sz_4, sz_5, sz_6, sz_7, sz_8, sz_9, sz_10, sz_11, sz_12, sz_13, sz_14, gt0, l0]) ?_
    have mn : (if ((m : Nat) : Int) < (k : Nat) then ((m : Nat) : Int) else (k : Nat)) = ((min k m : Nat) : Int) := by
      split <;> omega
    have it := q_itR2 (a := cK (.int 2)) (b := Sx.c2 gAdd (cC gMin (cCons (cVar 0) (cCons (cVar 1) (cNil)))) (cK (.int 1))) (ρ := [some (.int (k : Nat)), some (.int (m : Nat)), some (.ref w0), none, none]) (h := h0) (h1 := h0) (h2 := h0) (i := 2) (j := ((min k m : Nat) : Int) + 1) rfl (by
      have qm : gMin [.int (k : Nat), .int (m : Nat)] h0 = some (.int ((min k m : Nat) : Int), h0) := by rw [q_min, mn]
      generalize ((min k m : Nat) : Int) = MM at *
      generalize ((k : Nat) : Int) = K at *
      generalize ((m : Nat) : Int) = M at *
      simp only [q_c2, q_c, q_cons, q_nil, q_var, q_k, List.getElem?_cons_succ, List.getElem?_cons_zero, er_int, Bool.false_eq_true, if_false, q_bok, qm, q_vo, q_add]) (by omega) (by omega) (by omega) (by omega)
    rw [show (((min k m : Nat) : Int) + 1 - 2 : Int).toNat = min k m - 1 by omega] at it
    refine wS_loop ?_
    rw [q_for it]
    have tot := pat_fact (n + 1) n41 k (by omega) m (by omega)
    refine for_ix (fun (i : Nat) => D.int (2 + (i : Int))) (List.range (min k m - 1)) (fun j ρ h1 => (∃ x3, ρ = [some (.int (k : Nat)), some (.int (m : Nat)), some (.ref w0), x3, none]) ∧ Ap h h1 ∧ h1[w0]? = some (false, .lst (rL ([] :: (((List.range (min k m - 1)).take j).map (patF n k)).flatten)))) ?_ ?_ ⟨⟨_, rfl⟩, ap0, g0⟩
    · rintro j0 j ρ h1 hi ⟨⟨x3, rfl⟩, ap1, g1⟩
      obtain ⟨rfl, hj⟩ := range_at hi
      refine ⟨_, asg_nm, ?_⟩
      have e2 : (2 + (j : Int)) = ((j + 2 : Nat) : Int) := by omega
      rw [e2]
      have ek : ((k : Nat) : Int) - ((j + 2 : Nat) : Int) = ((k - (j + 2) : Nat) : Int) := by omega
      obtain ⟨h2, w2, e3, ap2, lw, g2⟩ := lpatt_w n (k - (j + 2)) (j + 2) h1 (by omega) (by omega) (by omega) (by omega)
      have few2 := pat_fact n (by omega) (k - (j + 2)) (by omega) (j + 2) (by omega)
      have len2 := pat_len n (by omega) (k - (j + 2)) (by omega) (j + 2) (by omega)
      show wS (cDrop _ [some (.int (k : Nat)), some (.int (m : Nat)), some (.ref w0), some (.int ((j + 2 : Nat) : Int)), none] h1) _
      have cc := q_compR2 (vs := [4]) (ci := cItS (cCall (m__law_patterns n) (cCons (Sx.c2 gSub (cVar 0) (cVar 3)) (cCons (cVar 3) (cNil))))) (t := .nm 4) (tt := cYes) (e := Sx.c2 gAdd (cC gTupD (cCons (cVar 3) (cNil))) (cVar 4)) (ρ := [some (.int (k : Nat)), some (.int (m : Nat)), some (.ref w0), some (.int ((j + 2 : Nat) : Int)), none]) (h0 := h1) (l := rL (patK n (k - (j + 2)) (j + 2))) (xs := (patK n (k - (j + 2)) (j + 2)).map fun r => iT (((j + 2 : Nat) : Int) :: r)) g2 (by
        have s := seqL_r g2
        generalize rL (patK n (k - (j + 2)) (j + 2)) = LL at *
        generalize ((k - (j + 2) : Nat) : Int) = KJ at *
        generalize ((j + 2 : Nat) : Int) = J2 at *
        generalize ((k : Nat) : Int) = K at *
        generalize m__law_patterns n = MP at *
        simp only [q_itS, q_call, q_cons, q_nil, q_c2, q_var, List.getElem?_cons_succ, List.getElem?_cons_zero, er_int, Bool.false_eq_true, if_false, q_bok, q_sub, ek, q_vo, e3, s]) (by simp only [rL, List.length_map]; omega) (by
        refine comp_all iT (fun r => iT (((j + 2 : Nat) : Int) :: r)) _ fun r hr => ⟨_, asg_nm, ?_⟩
        have ga : gAdd (.tup [.int ((j + 2 : Nat) : Int)]) (iT r) (lckL [w2] h2) = some (iT (((j + 2 : Nat) : Int) :: r), lckL [w2] h2) := q_addT' (a := [((j + 2 : Nat) : Int)]) (b := r) (by have := len2 r hr; simp; omega)
        have er : (iT r).isErr = false := rfl
        show Sx.c2 gAdd _ _ [some (.int (k : Nat)), some (.int (m : Nat)), some (.ref w0), some (.int ((j + 2 : Nat) : Int)), some (iT r)] _ = _
        generalize iT (((j + 2 : Nat) : Int) :: r) = RI at *
        generalize iT r = RR at *
        generalize ((j + 2 : Nat) : Int) = J2 at *
        simp [q_bok, q_bxn, q_ofok, q_ofxn, q_vo, q_var, q_k, q_c1, q_c2, q_nil, q_cons, q_c, q_call, q_callK, pick, q_b, q_tru, q_not, q_and, q_or, q_ifE, q_andV, q_orV, q_notV, q_chain, q_seq, q_tnx, q_trt, q_txn, q_tbk, q_tct, q_skip, q_drop, q_ret, q_retN, q_bk, q_ct, q_set, q_par, q_par3, q_if, q_raise, q_mt, q_mt0, q_end0, q_endr, q_endx, q_lt, q_le, q_gt, q_ge, q_sub, q_add, q_neg, q_inti, q_intb, q_max, q_min, q_lenT, q_lenF, q_truT, q_truF, q_truB, q_truI, q_ixT, q_ixF, at_0, at_1, er_int, er_bl, er_str, er_non, er_tup, er_flst, er_ref, er_obj, er_ty, er_gl, q_tup, q_cutT, q_pn, q_ps, q_slT, q_itS, seqL_t, sz_0, sz_1, sz_2, sz_3, sz_4, sz_5, sz_6, sz_7, sz_8, sz_9, sz_10, sz_11, sz_12, sz_13, sz_14, er, ga])
      have eX : ((patK n (k - (j + 2)) (j + 2)).map fun r => iT (((j + 2 : Nat) : Int) :: r)) = rL (patF n k j) := by
        unfold patF
        simp only [rL, List.map_map]
        rfl
      rw [eX] at cc
      have g3 : (h2 ++ [(false, O.lst (rL (patF n k j)))])[h2.length]? = some (false, .lst (rL (patF n k j))) := get_new
      have ap3 : Ap h2 (h2 ++ [(false, O.lst (rL (patF n k j)))]) := .new _
      generalize h2.length = w3 at *
      generalize h2 ++ [(false, O.lst (rL (patF n k j)))] = h3 at *
      have g13 := ap3.get (ap2.get g1)
      have few1 : ([] :: (((List.range (min k m - 1)).take j).map (patF n k)).flatten).length ≤ 200 := by
        have h1 := flat_takeC (patF n k) (List.range (min k m - 1)) j
        have h2 : (patK (n + 1) k m).length = (((List.range (min k m - 1)).map (patF n k)).flatten).length + 1 := rfl
        rw [List.length_cons]
        omega
      have lF : (patF n k j).length ≤ 100 := by unfold patF; rw [List.length_map]; exact few2
      have okF : isLst (.ref w0) h1 = true := ok_lst g1
      have qx := q_extL g13 g3 (by simp only [rL, List.length_map]; omega)
      have ev : rL ([] :: (((List.range (min k m - 1)).take j).map (patF n k)).flatten) ++ rL (patF n k j) = rL ([] :: (((List.range (min k m - 1)).take (j + 1)).map (patF n k)).flatten) := by
        rw [flat_stepC (patF n k) _ hi]
        simp only [rL, ← List.map_append, List.cons_append]
      rw [ev] at qx
      refine wS.of (f := .nx) (ρ := [some (.int (k : Nat)), some (.int (m : Nat)), some (.ref w0), some (.int ((j + 2 : Nat) : Int)), none]) (h := h3.set w0 (false, .lst (rL ([] :: (((List.range (min k m - 1)).take (j + 1)).map (patF n k)).flatten)))) ?_ ⟨⟨_, rfl⟩, ((ap1.trans ap2).trans ap3).put (by omega) _, get_set g13⟩
      have cc : cComp [4] _ (.nm 4) cYes _ [some (.int (k : Nat)), some (.int (m : Nat)), some (.ref w0), some (.int ((j + 2 : Nat) : Int)), none] h1 = _ := cc
      generalize rL ([] :: (((List.range (min k m - 1)).take (j + 1)).map (patF n k)).flatten) = LX at *
      simp only [q_drop, q_mt, q_cons, q_nil, q_var, List.getElem?_cons_succ, List.getElem?_cons_zero, er_ref, Bool.false_eq_true, if_false, if_true, q_bok, okF, cc, qx, q_vo, q_ofok]
    · rintro ρ h1 ⟨⟨x3, rfl⟩, ap1, g1⟩
      rw [List.length_range] at g1
      have : (List.range (min k m - 1)).take (min k m - 1) = List.range (min k m - 1) := List.take_of_length_le (by simp)
      rw [this] at g1
      dsimp only
      exact wS_ret (d := .ref w0) (h' := h1) (by simp [q_bok, q_bxn, q_ofok, q_ofxn, q_vo, q_var, q_k, q_c1, q_c2, q_nil, q_cons, q_c, q_call, q_callK, pick, q_b, q_tru, q_not, q_and, q_or, q_ifE, q_andV, q_orV, q_notV, q_chain, q_seq, q_tnx, q_trt, q_txn, q_tbk, q_tct, q_skip, q_drop, q_ret, q_retN, q_bk, q_ct, q_set, q_par, q_par3, q_if, q_raise, q_mt, q_mt0, q_end0, q_endr, q_endx, q_lt, q_le, q_gt, q_ge, q_sub, q_add, q_neg, q_inti, q_intb, q_max, q_min, q_lenT, q_lenF, q_truT, q_truF, q_truB, q_truI, q_ixT, q_ixF, at_0, at_1, er_int, er_bl, er_str, er_non, er_tup, er_flst, er_ref, er_obj, er_ty, er_gl, q_lst, q_tup, q_cutT, q_pn, q_ps, q_slT, q_itS, seqL_t, sz_0, sz_1, sz_2, sz_3, sz_4, sz_5, sz_6, sz_7, sz_8, sz_9, sz_10, sz_11, sz_12, sz_13, sz_14]) ⟨w0, rfl, ap1, hm, g1⟩

end Gk

set_option Elab.async false
set_option linter.all false
set_option maxRecDepth 100000
namespace Gk
open PySem Sx
def leK (p q : List (List Int)) : Bool := !PySem.W.dataLt (pR q) (pR p)
theorem leK_iff {p q : List (List Int)} : leK p q = true ↔ tokR p ≤ tokR q := by
  unfold leK
  rw [dataLt_rows]
  simp only [Bool.not_eq_true', decide_eq_false_iff_not]
  exact List.not_lt
def srtRR (L : List (List (List Int))) : List (List (List Int)) := L.mergeSort leK
theorem srtRR_perm (L : List (List (List Int))) : (srtRR L).Perm L := List.mergeSort_perm _ _
theorem srtRR_srt (L : List (List (List Int))) : (srtRR L).Pairwise fun a b => tokR a ≤ tokR b := by
  have := List.pairwise_mergeSort (le := leK) (fun a b c h1 h2 => leK_iff.mpr (Std.le_trans (leK_iff.mp h1) (leK_iff.mp h2))) (fun a b => by
    rcases Std.le_total (a := tokR a) (b := tokR b) with h | h
    · simp [leK_iff.mpr h]
    · simp [leK_iff.mpr h]) L
  exact this.imp fun h => leK_iff.mp h
theorem q_srtRX {L : List (List (List Int))} {h : Hc} {n : Nat} {f : Bool} (k : ∀ r ∈ L, r ≠ []) (g : h[n]? = some (f, .lst (L.map rowD))) :
    gSrt [.ref n] h = some (.ref h.length, h ++ [(false, .lst ((srtRR L).map rowD))]) := by
  cases L with
  | nil =>
    have e0 : srtRR [] = [] := by simp [srtRR]
    rw [e0]
    have e : gSorted [.ref n] h = some (.ref h.length, h ++ [(false, .lst ([].map D.int))]) := by
      unfold gSorted
      simp only [g]
      rfl
    unfold gSrt
    rw [e]
    rfl
  | cons a L =>
    obtain ⟨x, r, ea⟩ := List.exists_cons_of_ne_nil (k a (by simp))
    have i0 : intsOf ((a :: L).map rowD) = none := by rw [List.map_cons]; rfl
    have e : gSorted [.ref n] h = none := by
      unfold gSorted
      simp only [g, i0]
    have r0 : rowsOf ((a :: L).map rowD) = none := by
      rw [List.map_cons, ea]
      rfl
    have m : mapO (toP h 8) ((a :: L).map rowD) = some ((a :: L).map pR) := by
      have := mapO_map (f := fun r => toP h 8 (rowD r)) (g := pR) (a :: L) fun r _ => toP_row r
      rw [← this]
      generalize (a :: L) = M
      clear this
      induction M with
      | nil => rfl
      | cons b M ih => simp only [List.map_cons, mapO]; rw [ih]
    unfold gSrt srtD
    rw [e]
    simp only [g, i0, r0]
    unfold srtX
    rw [m]
    simp only
    rw [if_pos (dataB_rows k), zip_maps, ← List.map_mergeSort (f := fun r => (rowD r, pR r)) (r := leK) (fun _ _ _ _ => rfl), List.map_map]
    rfl
theorem tokG_inj : ∀ (a b u v : List Int), tokG a ++ u = tokG b ++ v → a = b ∧ u = v
  | [], [], u, v, h => ⟨rfl, by simpa [tokG] using h⟩
  | [], y :: b, u, v, h => by simp [tokG] at h
  | x :: a, [], u, v, h => by simp [tokG] at h
  | x :: a, y :: b, u, v, h => by
    simp only [tokG, List.cons_append, List.cons.injEq, true_and] at h
    obtain ⟨rfl, h⟩ := h
    obtain ⟨rfl, rfl⟩ := tokG_inj a b u v h
    exact ⟨rfl, rfl⟩
theorem tokR_inj : ∀ (a b : List (List Int)), tokR a = tokR b → a = b
  | [], [], _ => rfl
  | [], y :: b, h => by simp [tokR] at h
  | x :: a, [], h => by simp [tokR] at h
  | x :: a, y :: b, h => by
    simp only [tokR, List.cons.injEq, true_and] at h
    obtain ⟨e1, e2⟩ := tokG_inj _ _ _ _ h
    rw [e1, tokR_inj a b e2]
def dayT (k : Nat) : List (List (List Int)) := (List.range (cN k).toNat).map fun (i : Nat) => nthP 12 k (i : Int)
abbrev dsT (ds : List (List Int)) : D := .tup (dsD ds)
def dayF (k : Nat) (p : List Int) : List (List (List Int)) := if p = [] then [] else (dayT (nxK k p)).map fun r => p :: r
def flatT (k : Nat) : List (List (List Int)) := ((patK 40 k k).map (dayF k)).flatten
theorem dayT_1 : dayT 1 = [[]] := by decide +kernel
theorem day_fact : ∀ k, k < 7 → (dayT k).length ≤ 100 := by decide +kernel
theorem flat_few : ∀ k, k < 7 → (flatT k).length ≤ 100 := by decide +kernel
theorem day_len : ∀ k, k < 7 → ∀ r ∈ dayT k, r.length ≤ 100 := by decide +kernel
theorem day_perm : ∀ k, k < 7 → 2 ≤ k → (flatT k).Perm (dayT k) := by decide +kernel
theorem day_srt : ∀ k, k < 7 → (dayT k).Pairwise fun a b => tokR a ≤ tokR b := by decide +kernel
theorem flat_ne : ∀ k, k < 7 → 2 ≤ k → ∀ r ∈ flatT k, r ≠ [] := by decide +kernel
theorem nxK_fact : ∀ k, k < 7 → 2 ≤ k → ∀ p ∈ patK 40 k k, p ≠ [] → 1 ≤ nxK k p ∧ nxK k p < k ∧ (k : Int) - p.sum + p.length = nxK k p := by decide +kernel
theorem srt_eq {k : Nat} (k7 : k < 7) (k2 : 2 ≤ k) : srtRR (flatT k) = dayT k :=
  List.Perm.eq_of_pairwise (le := fun a b => tokR a ≤ tokR b) (fun a b _ _ h1 h2 => tokR_inj _ _ (Std.le_antisymm h1 h2)) (srtRR_srt _) (day_srt k k7) ((srtRR_perm _).trans (day_perm k k7 k2))
theorem days_w : ∀ (n k : Nat) (h : Hc), n < 41 → k ≤ n → k ≤ 6 → 1 ≤ k → ∃ h' w, m__law_days n [.int (k : Nat)] h = .ok (.ref w) h' ∧ Ap h h' ∧ h.length ≤ w ∧ h'[w]? = some (false, .lst ((dayT k).map dsT))
  | 0, _, _, _, kn, _, k1 => absurd kn (by omega)
  | n + 1, k, h, n41, kn, k5, k1 => by
    have sz : (2000 : Nat) < sizeLine := by decide
    suffices w : wE (m__law_days (n + 1) [.int (k : Nat)] h) fun x h' => ∃ w, x = .ref w ∧ Ap h h' ∧ h.length ≤ w ∧ h'[w]? = some (false, .lst ((dayT k).map dsT)) by
      obtain ⟨_, h', e, w, rfl, q⟩ := w.eq
      exact ⟨h', w, e, q⟩
    show wE (runD 1 4 (b__law_days (m__law_days n)) [.int (k : Nat)] h) _
    refine wE_run rfl ?_
    unfold b__law_days
    have gt0 : ∀ h : Hc, gTupD [] h = some (.tup [], h) := fun h => id rfl
    have q1 := q_eqI (i := ((k : Nat) : Int)) (j := 1) (h := h)
    by_cases c : k = 1
    · subst c
      rw [dayT_1]
      have l0 : gLstD [.tup []] h = some (.ref h.length, h ++ [(false, .lst [.tup []])]) := q_lst (show (1 : Nat) ≤ sizeLine by decide)
      rw [wS_seq]
      refine wS.of (f := .ret (.ref h.length)) (ρ := [some (.int ((1 : Nat) : Int)), none, none, none]) (h := h ++ [(false, .lst [.tup []])]) ?_ ⟨_, rfl, .new _, Nat.le_refl _, get_new⟩
      have q1 : gEq (.int ((1 : Nat) : Int)) (.int 1) h = some (.bl true, h) := q1
      generalize ((1 : Nat) : Int) = ONE at *
      simp [q_bok, q_bxn, q_ofok, q_ofxn, q_vo, q_var, q_k, q_c1, q_c2, q_nil, q_cons, q_c, q_call, q_callK, pick, q_b, q_tru, q_not, q_and, q_or, q_ifE, q_andV, q_orV, q_notV, q_chain, q_seq, q_tnx, q_trt, q_txn, q_tbk, q_tct, q_skip, q_drop, q_ret, q_retN, q_bk, q_ct, q_set, q_par, q_par3, q_if, q_raise, q_mt, q_mt0, q_end0, q_endr, q_endx, q_lt, q_le, q_gt, q_ge, q_sub, q_add, q_neg, q_inti, q_intb, q_max, q_min, q_lenT, q_lenF, q_truT, q_truF, q_truB, q_truI, q_ixT, q_ixF, at_0, at_1, er_int, er_bl, er_str, er_non, er_tup, er_flst, er_ref, er_obj, er_ty, er_gl, q_tup, q_cutT, q_pn, q_ps, q_slT, q_itS, seqL_t, sz_0, sz_1, sz_2, sz_3, sz_4, sz_5, sz_6, sz_7, sz_8, sz_9, sz_10, sz_11, sz_12, sz_13, sz_14, q1, gt0, l0]
    · have ck : ¬ ((k : Nat) : Int) = 1 := by omega
      rw [decide_eq_false ck] at q1
      refine wS_step (ρ' := [some (.int (k : Nat)), none, none, none]) (h' := h) (by
        generalize ((k : Nat) : Int) = K at *
        simp [q_bok, q_bxn, q_ofok, q_ofxn, q_vo, q_var, q_k, q_c1, q_c2, q_nil, q_cons, q_c, q_call, q_callK, pick, q_b, q_tru, q_not, q_and, q_or, q_ifE, q_andV, q_orV, q_notV, q_chain, q_seq, q_tnx, q_trt, q_txn, q_tbk, q_tct, q_skip, q_drop, q_ret, q_retN, q_bk, q_ct, q_set, q_par, q_par3, q_if, q_raise, q_mt, q_mt0, q_end0, q_endr, q_endx, q_lt, q_le, q_gt, q_ge, q_sub, q_add, q_neg, q_inti, q_intb, q_max, q_min, q_lenT, q_lenF, q_truT, q_truF, q_truB, q_truI, q_ixT, q_ixF, at_0, at_1, er_int, er_bl, er_str, er_non, er_tup, er_flst, er_ref, er_obj, er_ty, er_gl, q_lst, q_tup, q_cutT, q_pn, q_ps, q_slT, q_itS, seqL_t, sz_0, sz_1, sz_2, sz_3, sz_4, sz_5, sz_6, sz_7, sz_8, sz_9, sz_10, sz_11, sz_12, sz_13, sz_14, q1]) ?_
      have el : gLstD [] h = some (.ref h.length, h ++ [(false, .lst (([] : List (List (List Int))).map dsT))]) := q_lst (by decide)
      have g0 : (h ++ [(false, O.lst (([] : List (List (List Int))).map dsT))])[h.length]? = some (false, .lst (([] : List (List (List Int))).map dsT)) := get_new
      have ap0 : Ap h (h ++ [(false, O.lst (([] : List (List (List Int))).map dsT))]) := .new _
      have hm : h.length ≤ h.length := Nat.le_refl _
      generalize hw1 : h.length = w1 at el g0 hm
      generalize h ++ [(false, O.lst (([] : List (List (List Int))).map dsT))] = h0 at *
      refine wS_step (ρ' := [some (.int (k : Nat)), some (.ref w1), none, none]) (h' := h0) (by simp [q_bok, q_bxn, q_ofok, q_ofxn, q_vo, q_var, q_k, q_c1, q_c2, q_nil, q_cons, q_c, q_call, q_callK, pick, q_b, q_tru, q_not, q_and, q_or, q_ifE, q_andV, q_orV, q_notV, q_chain, q_seq, q_tnx, q_trt, q_txn, q_tbk, q_tct, q_skip, q_drop, q_ret, q_retN, q_bk, q_ct, q_set, q_par, q_par3, q_if, q_raise, q_mt, q_mt0, q_end0, q_endr, q_endx, q_lt, q_le, q_gt, q_ge, q_sub, q_add, q_neg, q_inti, q_intb, q_max, q_min, q_lenT, q_lenF, q_truT, q_truF, q_truB, q_truI, q_ixT, q_ixF, at_0, at_1, er_int, er_bl, er_str, er_non, er_tup, er_flst, er_ref, er_obj, er_ty, er_gl, q_tup, q_cutT, q_pn, q_ps, q_slT, q_itS, seqL_t, sz_0, sz_1, sz_2, sz_3, sz_4, sz_5, sz_6, sz_7, sz_8, sz_9, sz_10, sz_11, sz_12, sz_13, sz_14, el]) ?_
      obtain ⟨h2, w2, e2, ap2, lw2, g2⟩ := lpatt_w 40 k k h0 (by omega) (by omega) (by omega) (by omega)
      have g02 := ap2.get g0
      have lt0 := (List.getElem?_eq_some_iff.mp g0).1
      have nx := nxK_fact k (by omega) (by omega)
      refine wS_loop ?_
      refine wS_forR (l := rL (patK 40 k k)) (w := w2) (h1 := h2) (p := (false, .lst (rL (patK 40 k k)))) (by
        have s := seqL_r g2
        generalize rL (patK 40 k k) = LL at *
        generalize m__law_patterns 40 = MP at *
        generalize ((k : Nat) : Int) = K at *
        simp [q_bok, q_bxn, q_ofok, q_ofxn, q_vo, q_var, q_k, q_c1, q_c2, q_nil, q_cons, q_c, q_call, q_callK, pick, q_b, q_tru, q_not, q_and, q_or, q_ifE, q_andV, q_orV, q_notV, q_chain, q_seq, q_tnx, q_trt, q_txn, q_tbk, q_tct, q_skip, q_drop, q_ret, q_retN, q_bk, q_ct, q_set, q_par, q_par3, q_if, q_raise, q_mt, q_mt0, q_end0, q_endr, q_endx, q_lt, q_le, q_gt, q_ge, q_sub, q_add, q_neg, q_inti, q_intb, q_max, q_min, q_lenT, q_lenF, q_truT, q_truF, q_truB, q_truI, q_ixT, q_ixF, at_0, at_1, er_int, er_bl, er_str, er_non, er_tup, er_flst, er_ref, er_obj, er_ty, er_gl, q_lst, q_tup, q_cutT, q_pn, q_ps, q_slT, q_itS, seqL_t, sz_0, sz_1, sz_2, sz_3, sz_4, sz_5, sz_6, sz_7, sz_8, sz_9, sz_10, sz_11, sz_12, sz_13, sz_14, e2, s]) g2 ?_
      have tot := flat_few k (by omega)
      unfold flatT at tot
      refine for_ix iT (patK 40 k k) (fun j ρ h3 => (∃ x2, ρ = [some (.int (k : Nat)), some (.ref w1), x2, none]) ∧ Kd w1 (lckL [w2] h2) h3 ∧ h3[w1]? = some (false, .lst ((((patK 40 k k).take j).map (dayF k)).flatten.map dsT))) ?_ ?_ ⟨⟨_, rfl⟩, .refl, by rw [lck1_ne g2 (by omega)]; exact g02⟩
      · rintro j p ρ h3 hj ⟨⟨x2, rfl⟩, kd, g3⟩
        refine ⟨_, asg_nm, ?_⟩
        have hp := List.mem_of_getElem? hj
        have er : (iT p).isErr = false := rfl
        have qn := ne_nil (h := h3) (r := p)
        show wS (cIf _ _ cSkip [some (.int (k : Nat)), some (.ref w1), some (iT p), none] h3) _
        by_cases cp : p = []
        · have eF : dayF k p = [] := by unfold dayF; rw [if_pos cp]
          rw [decide_eq_true cp] at qn
          refine wS.of (f := .nx) (ρ := [some (.int (k : Nat)), some (.ref w1), some (iT p), none]) (h := h3) (by
            generalize iT p = PP at *
            simp [q_bok, q_bxn, q_ofok, q_ofxn, q_vo, q_var, q_k, q_c1, q_c2, q_nil, q_cons, q_c, q_call, q_callK, pick, q_b, q_tru, q_not, q_and, q_or, q_ifE, q_andV, q_orV, q_notV, q_chain, q_seq, q_tnx, q_trt, q_txn, q_tbk, q_tct, q_skip, q_drop, q_ret, q_retN, q_bk, q_ct, q_set, q_par, q_par3, q_if, q_raise, q_mt, q_mt0, q_end0, q_endr, q_endx, q_lt, q_le, q_gt, q_ge, q_sub, q_add, q_neg, q_inti, q_intb, q_max, q_min, q_lenT, q_lenF, q_truT, q_truF, q_truB, q_truI, q_ixT, q_ixF, at_0, at_1, er_int, er_bl, er_str, er_non, er_tup, er_flst, er_ref, er_obj, er_ty, er_gl, q_lst, q_tup, q_cutT, q_pn, q_ps, q_slT, q_itS, seqL_t, sz_0, sz_1, sz_2, sz_3, sz_4, sz_5, sz_6, sz_7, sz_8, sz_9, sz_10, sz_11, sz_12, sz_13, sz_14, er, qn]) ⟨⟨_, rfl⟩, kd, by rw [flat_stepC (dayF k) _ hj, eF, List.append_nil]; exact g3⟩
        · have eF : dayF k p = (dayT (nxK k p)).map fun r => p :: r := by unfold dayF; rw [if_neg cp]
          rw [decide_eq_false cp] at qn
          obtain ⟨n1, n2, n3⟩ := nx p hp cp
          have few2 := day_fact (nxK k p) (by omega)
          have len2 := day_len (nxK k p) (by omega)
          obtain ⟨h4, w4, e4, ap4, lw4, g4⟩ := days_w n (nxK k p) h3 (by omega) (by omega) (by omega) n1
          have sm := q_sumT (a := p) (h := h3)
          have ql : gLen [iT p] h3 = some (.int (p.length : Nat), h3) := by rw [q_lenT]; simp
          have cc := q_compR2 (vs := [3]) (ci := cItS (cCall (m__law_days n) (cCons (Sx.c2 gAdd (Sx.c2 gSub (cVar 0) (cC gSum (cCons (cVar 2) (cNil)))) (cC gLen (cCons (cVar 2) (cNil)))) (cNil)))) (t := .nm 3) (tt := cYes) (e := Sx.c2 gAdd (cC gTupD (cCons (cVar 2) (cNil))) (cVar 3)) (ρ := [some (.int (k : Nat)), some (.ref w1), some (iT p), none]) (h0 := h3) (l := (dayT (nxK k p)).map dsT) (xs := (dayT (nxK k p)).map fun r => dsT (p :: r)) g4 (by
            have s := seqL_r g4
            generalize (dayT (nxK k p)).map dsT = LL at *
            generalize ((nxK k p : Nat) : Int) = NX at *
            generalize ((k : Nat) : Int) = K at *
            generalize ((p.length : Nat) : Int) = PL at *
            generalize p.sum = PS at *
            generalize iT p = PP at *
            generalize m__law_days n = MD at *
            simp only [q_itS, q_call, q_cons, q_nil, q_c, q_c2, q_var, List.getElem?_cons_succ, List.getElem?_cons_zero, er_int, er, Bool.false_eq_true, if_false, q_bok, sm, ql, q_sub, q_add, n3, q_vo, e4, s]) (by rw [List.length_map]; omega) (by
            refine comp_all dsT (fun r => dsT (p :: r)) _ fun r hr => ⟨_, asg_nm, ?_⟩
            have ga : gAdd (.tup [iT p]) (dsT r) (lckL [w4] h4) = some (dsT (p :: r), lckL [w4] h4) := q_addT (ds := [iT p]) (es := dsD r) (by have := len2 r hr; simp only [List.length_cons, List.length_nil, List.length_map]; omega)
            have er3 : (dsT r).isErr = false := rfl
            show Sx.c2 gAdd _ _ [some (.int (k : Nat)), some (.ref w1), some (iT p), some (dsT r)] _ = _
            generalize dsT (p :: r) = RI at *
            generalize dsT r = RR at *
            generalize iT p = PP at *
            simp [q_bok, q_bxn, q_ofok, q_ofxn, q_vo, q_var, q_k, q_c1, q_c2, q_nil, q_cons, q_c, q_call, q_callK, pick, q_b, q_tru, q_not, q_and, q_or, q_ifE, q_andV, q_orV, q_notV, q_chain, q_seq, q_tnx, q_trt, q_txn, q_tbk, q_tct, q_skip, q_drop, q_ret, q_retN, q_bk, q_ct, q_set, q_par, q_par3, q_if, q_raise, q_mt, q_mt0, q_end0, q_endr, q_endx, q_lt, q_le, q_gt, q_ge, q_sub, q_add, q_neg, q_inti, q_intb, q_max, q_min, q_lenT, q_lenF, q_truT, q_truF, q_truB, q_truI, q_ixT, q_ixF, at_0, at_1, er_int, er_bl, er_str, er_non, er_tup, er_flst, er_ref, er_obj, er_ty, er_gl, q_tup, q_cutT, q_pn, q_ps, q_slT, q_itS, seqL_t, sz_0, sz_1, sz_2, sz_3, sz_4, sz_5, sz_6, sz_7, sz_8, sz_9, sz_10, sz_11, sz_12, sz_13, sz_14, er, er3, ga])
          have eX : ((dayT (nxK k p)).map fun r => dsT (p :: r)) = (dayF k p).map dsT := by
            rw [eF, List.map_map]
            rfl
          rw [eX] at cc
          have g5 : (h4 ++ [(false, O.lst ((dayF k p).map dsT))])[h4.length]? = some (false, .lst ((dayF k p).map dsT)) := get_new
          have ap5 : Ap h4 (h4 ++ [(false, O.lst ((dayF k p).map dsT))]) := .new _
          generalize h4.length = w5 at *
          generalize h4 ++ [(false, O.lst ((dayF k p).map dsT))] = h5 at *
          have g35 := ap5.get (ap4.get g3)
          have few1 : ((((patK 40 k k).take j).map (dayF k)).flatten).length ≤ 100 := by
            have h1 := flat_takeC (dayF k) (patK 40 k k) j
            omega
          have lF : (dayF k p).length ≤ 100 := by rw [eF, List.length_map]; exact few2
          have okF : isLst (.ref w1) h3 = true := ok_lst g3
          have qx := q_extL g35 g5 (by rw [List.length_map, List.length_map]; omega)
          have ev : (((patK 40 k k).take j).map (dayF k)).flatten.map dsT ++ (dayF k p).map dsT = (((patK 40 k k).take (j + 1)).map (dayF k)).flatten.map dsT := by
            rw [flat_stepC (dayF k) _ hj, List.map_append]
          rw [ev] at qx
          refine wS.of (f := .nx) (ρ := [some (.int (k : Nat)), some (.ref w1), some (iT p), none]) (h := h5.set w1 (false, .lst ((((patK 40 k k).take (j + 1)).map (dayF k)).flatten.map dsT))) ?_ ⟨⟨_, rfl⟩, ((kd.ap ap4).ap ap5).put _, get_set g35⟩
          have cc : cComp [3] _ (.nm 3) cYes _ [some (.int (k : Nat)), some (.ref w1), some (iT p), none] h3 = _ := cc
          generalize (((patK 40 k k).take (j + 1)).map (dayF k)).flatten.map dsT = LX at *
          generalize iT p = PP at *
          have gt0 := gt0 h3
          simp only [q_if, q_b, q_c2, q_c, gt0, er, qn, Bool.not_false, q_drop, q_mt, q_cons, q_nil, q_var, List.getElem?_cons_succ, List.getElem?_cons_zero, er_ref, Bool.false_eq_true, if_false, if_true, q_bok, okF, cc, qx, q_vo, q_ofok]
      · rintro ρ h3 ⟨⟨x2, rfl⟩, kd, g3⟩
        rw [List.take_length] at g3
        have kd3 := kd.unlock g2
        have g5 : (h3.set w2 (false, .lst (rL (patK 40 k k))))[w1]? = some (false, .lst ((flatT k).map dsT)) := by rw [List.getElem?_set_ne (by omega)]; exact g3
        dsimp only
        have apx : Ap h (h3.set w2 (false, .lst (rL (patK 40 k k)))) := ((Kd.of (n := w1) (ap0.trans ap2)).trans kd3).isAp (by omega)
        generalize h3.set w2 (false, O.lst (rL (patK 40 k k))) = h9 at *
        have qs := q_srtRX (L := flatT k) (flat_ne k (by omega) (by omega)) g5
        rw [srt_eq (by omega) (by omega)] at qs
        have qs : gSrt [.ref w1] h9 = some (.ref h9.length, h9 ++ [(false, .lst ((dayT k).map dsT))]) := qs
        refine wS_ret (d := .ref h9.length) (h' := h9 ++ [(false, .lst ((dayT k).map dsT))]) ?_ ⟨_, rfl, apx.app _, by have := apx.len; omega, get_new⟩
        generalize (dayT k).map dsT = TT at *
        simp [q_bok, q_bxn, q_ofok, q_ofxn, q_vo, q_var, q_k, q_c1, q_c2, q_nil, q_cons, q_c, q_call, q_callK, pick, q_b, q_tru, q_not, q_and, q_or, q_ifE, q_andV, q_orV, q_notV, q_chain, q_seq, q_tnx, q_trt, q_txn, q_tbk, q_tct, q_skip, q_drop, q_ret, q_retN, q_bk, q_ct, q_set, q_par, q_par3, q_if, q_raise, q_mt, q_mt0, q_end0, q_endr, q_endx, q_lt, q_le, q_gt, q_ge, q_sub, q_add, q_neg, q_inti, q_intb, q_max, q_min, q_lenT, q_lenF, q_truT, q_truF, q_truB, q_truI, q_ixT, q_ixF, at_0, at_1, er_int, er_bl, er_str, er_non, er_tup, er_flst, er_ref, er_obj, er_ty, er_gl, q_lst, q_tup, q_cutT, q_pn, q_ps, q_slT, q_itS, seqL_t, sz_0, sz_1, sz_2, sz_3, sz_4, sz_5, sz_6, sz_7, sz_8, sz_9, sz_10, sz_11, sz_12, sz_13, sz_14, qs]

end Gk

set_option Elab.async false
set_option linter.all false
set_option maxRecDepth 100000
namespace Gk
open PySem Sx
theorem nums_fact : ∀ k, k < 13 → 2 ≤ k → (((patK 40 k k).filter fun p => decide (p ≠ [])).map fun p => cN (nxK k p)).sum = cN k := by decide +kernel
theorem nxK_12 : ∀ k, k < 13 → 2 ≤ k → ∀ p ∈ patK 40 k k, p ≠ [] → 1 ≤ nxK k p ∧ nxK k p < k ∧ (k : Int) - p.sum + p.length = nxK k p := by decide +kernel
theorem tab_nextN : ∀ z : Nat, z < 11 → tab (z + 1) = tab z ++ [cN (z + 2)] := by decide +kernel
theorem nums_w {h : Hc} : ∃ h' w, m__law_numbers [] h = .ok (.ref w) h' ∧ Ap h h' ∧ h.length ≤ w ∧ h'[w]? = some (false, .lst (iL (tab 11))) := by
  have sz : (3000 : Nat) < sizeLine := by decide
  suffices w : wE (m__law_numbers [] h) fun r h' => ∃ w, r = .ref w ∧ Ap h h' ∧ h.length ≤ w ∧ h'[w]? = some (false, .lst (iL (tab 11))) by
    obtain ⟨_, h', e, w, rfl, q⟩ := w.eq
    exact ⟨h', w, e, q⟩
  unfold m__law_numbers
  refine wE_run rfl ?_
  unfold b__law_numbers
  refine wS_step (ρ' := [some (.ref h.length), none, none, none]) (h' := h ++ [(false, .lst (iL (tab 0)))]) (by simp [q_bok, q_bxn, q_ofok, q_ofxn, q_vo, q_var, q_k, q_c1, q_c2, q_nil, q_cons, q_c, q_call, q_callK, pick, q_b, q_tru, q_not, q_and, q_or, q_ifE, q_andV, q_orV, q_notV, q_chain, q_seq, q_tnx, q_trt, q_txn, q_tbk, q_tct, q_skip, q_drop, q_ret, q_retN, q_bk, q_ct, q_set, q_par, q_par3, q_if, q_raise, q_mt, q_mt0, q_end0, q_endr, q_endx, q_lt, q_le, q_gt, q_ge, q_sub, q_add, q_neg, q_inti, q_intb, q_max, q_min, q_lenT, q_lenF, q_truT, q_truF, q_truB, q_truI, q_ixT, q_ixF, at_0, at_1, er_int, er_bl, er_str, er_non, er_tup, er_flst, er_ref, er_obj, er_ty, er_gl, q_lst, q_tup, q_cutT, q_pn, q_ps, q_slT, q_itS, seqL_t, sz_0, sz_1, sz_2, sz_3, sz_4, sz_5, sz_6, sz_7, sz_8, sz_9, sz_10, sz_11, sz_12, sz_13, sz_14, tab]) ?_
  have gf : (h ++ [(false, O.lst (iL (tab 0)))])[h.length]? = some (false, .lst (iL (tab 0))) := get_new
  have ap0 : Ap h (h ++ [(false, O.lst (iL (tab 0)))]) := .new _
  have hm : h.length ≤ h.length := Nat.le_refl _
  generalize hw : h.length = w0 at gf hm
  generalize h ++ [(false, O.lst (iL (tab 0)))] = h0 at *
  refine wS_loop ?_
  rw [q_for (l := (List.range ((13 : Int) - 2).toNat).map fun (z : Nat) => .int (2 + (z : Int))) (h1 := h0) (q_itR2 (i := 2) (j := 13) (h1 := h0) rfl rfl (by omega) (by omega) (by omega) (by omega))]
  refine for_ix (fun (z : Nat) => D.int (2 + (z : Int))) (List.range ((13 : Int) - 2).toNat) (fun z ρ h1 => (∃ x1 x2, ρ = [some (.ref w0), x1, x2, none]) ∧ Ap h h1 ∧ h1[w0]? = some (false, .lst (iL (tab z)))) ?_ ?_ ⟨⟨none, none, rfl⟩, ap0, gf⟩
  · rintro z0 z ρ h1 hz ⟨⟨x1, x2, rfl⟩, ap1, gf⟩
    obtain ⟨rfl, lz⟩ := range_at hz
    have lz : z < 11 := lz
    refine ⟨_, asg_nm, ?_⟩
    have ez : (2 + (z : Int)) = ((z + 2 : Nat) : Int) := by omega
    show wS (cSeq _ _ [some (.ref w0), some (.int (2 + (z : Int))), x2, none] h1) _
    rw [ez]
    have w0l := (List.getElem?_eq_some_iff.mp gf).1
    obtain ⟨h2, w2, e2, ap2, lw2, g2⟩ := lpatt_w 40 (z + 2) (z + 2) h1 (by omega) (by omega) (by omega) (by omega)
    have few2 := pat_fact 40 (by omega) (z + 2) (by omega) (z + 2) (by omega)
    have nf := nums_fact (z + 2) (by omega) (by omega)
    have nx := nxK_12 (z + 2) (by omega) (by omega)
    have cc := q_compR2 (vs := [3]) (ci := cItS (cCall (m__law_patterns 40) (cCons (cVar 1) (cCons (cVar 1) (cNil))))) (t := .nm 3) (tt := cB (Sx.c2 gNe (cVar 3) (cC gTupD (cNil)))) (e := cVar 3) (ρ := [some (.ref w0), some (.int ((z + 2 : Nat) : Int)), x2, none]) (h0 := h1) (l := (patK 40 (z + 2) (z + 2)).map iT) (xs := ((patK 40 (z + 2) (z + 2)).filter fun p => decide (p ≠ [])).map iT) g2 (by
      have s := seqL_r g2
      have s : seqL (.ref w2) h2 = some ((patK 40 (z + 2) (z + 2)).map iT, [w2]) := s
      generalize (patK 40 (z + 2) (z + 2)).map iT = LL at *
      generalize m__law_patterns 40 = MP at *
      generalize ((z + 2 : Nat) : Int) = K at *
      simp [q_bok, q_bxn, q_ofok, q_ofxn, q_vo, q_var, q_k, q_c1, q_c2, q_nil, q_cons, q_c, q_call, q_callK, pick, q_b, q_tru, q_not, q_and, q_or, q_ifE, q_andV, q_orV, q_notV, q_chain, q_seq, q_tnx, q_trt, q_txn, q_tbk, q_tct, q_skip, q_drop, q_ret, q_retN, q_bk, q_ct, q_set, q_par, q_par3, q_if, q_raise, q_mt, q_mt0, q_end0, q_endr, q_endx, q_lt, q_le, q_gt, q_ge, q_sub, q_add, q_neg, q_inti, q_intb, q_max, q_min, q_lenT, q_lenF, q_truT, q_truF, q_truB, q_truI, q_ixT, q_ixF, at_0, at_1, er_int, er_bl, er_str, er_non, er_tup, er_flst, er_ref, er_obj, er_ty, er_gl, q_lst, q_tup, q_cutT, q_pn, q_ps, q_slT, q_itS, seqL_t, sz_0, sz_1, sz_2, sz_3, sz_4, sz_5, sz_6, sz_7, sz_8, sz_9, sz_10, sz_11, sz_12, sz_13, sz_14, e2, s]) (by rw [List.length_map]; omega) (by
      refine comp_some iT iT (fun p => decide (p ≠ [])) _ fun p hp => ⟨_, asg_nm, ?_, ?_⟩
      · have qn := ne_nil (h := lckL [w2] h2) (r := p)
        have er : (iT p).isErr = false := rfl
        have gt0 : gTupD [] (lckL [w2] h2) = some (.tup [], lckL [w2] h2) := id rfl
        have ed : (!decide (p = [])) = decide (p ≠ []) := by simp
        rw [ed] at qn
        show cB _ [some (.ref w0), some (.int ((z + 2 : Nat) : Int)), x2, some (iT p)] _ = _
        generalize decide (p ≠ []) = B at *
        generalize iT p = PP at *
        generalize ((z + 2 : Nat) : Int) = K at *
        simp [q_bok, q_bxn, q_ofok, q_ofxn, q_vo, q_var, q_k, q_c1, q_c2, q_nil, q_cons, q_c, q_call, q_callK, pick, q_b, q_tru, q_not, q_and, q_or, q_ifE, q_andV, q_orV, q_notV, q_chain, q_seq, q_tnx, q_trt, q_txn, q_tbk, q_tct, q_skip, q_drop, q_ret, q_retN, q_bk, q_ct, q_set, q_par, q_par3, q_if, q_raise, q_mt, q_mt0, q_end0, q_endr, q_endx, q_lt, q_le, q_gt, q_ge, q_sub, q_add, q_neg, q_inti, q_intb, q_max, q_min, q_lenT, q_lenF, q_truT, q_truF, q_truB, q_truI, q_ixT, q_ixF, at_0, at_1, er_int, er_bl, er_str, er_non, er_tup, er_flst, er_ref, er_obj, er_ty, er_gl, q_lst, q_tup, q_cutT, q_pn, q_ps, q_slT, q_itS, seqL_t, sz_0, sz_1, sz_2, sz_3, sz_4, sz_5, sz_6, sz_7, sz_8, sz_9, sz_10, sz_11, sz_12, sz_13, sz_14, er, qn, gt0]
      · have er : (iT p).isErr = false := rfl
        show cVar 3 [some (.ref w0), some (.int ((z + 2 : Nat) : Int)), x2, some (iT p)] _ = _
        generalize iT p = PP at *
        simp [q_bok, q_bxn, q_ofok, q_ofxn, q_vo, q_var, q_k, q_c1, q_c2, q_nil, q_cons, q_c, q_call, q_callK, pick, q_b, q_tru, q_not, q_and, q_or, q_ifE, q_andV, q_orV, q_notV, q_chain, q_seq, q_tnx, q_trt, q_txn, q_tbk, q_tct, q_skip, q_drop, q_ret, q_retN, q_bk, q_ct, q_set, q_par, q_par3, q_if, q_raise, q_mt, q_mt0, q_end0, q_endr, q_endx, q_lt, q_le, q_gt, q_ge, q_sub, q_add, q_neg, q_inti, q_intb, q_max, q_min, q_lenT, q_lenF, q_truT, q_truF, q_truB, q_truI, q_ixT, q_ixF, at_0, at_1, er_int, er_bl, er_str, er_non, er_tup, er_flst, er_ref, er_obj, er_ty, er_gl, q_lst, q_tup, q_cutT, q_pn, q_ps, q_slT, q_itS, seqL_t, sz_0, sz_1, sz_2, sz_3, sz_4, sz_5, sz_6, sz_7, sz_8, sz_9, sz_10, sz_11, sz_12, sz_13, sz_14, er])
    have few3 : ((patK 40 (z + 2) (z + 2)).filter fun p => decide (p ≠ [])).length ≤ 100 := Nat.le_trans (List.length_filter_le _ _) few2
    have mem3 : ∀ p ∈ (patK 40 (z + 2) (z + 2)).filter fun p => decide (p ≠ []), 1 ≤ nxK (z + 2) p ∧ nxK (z + 2) p < z + 2 ∧ ((z + 2 : Nat) : Int) - p.sum + p.length = nxK (z + 2) p := fun p hp => by
      obtain ⟨a, b⟩ := List.mem_filter.mp hp
      exact nx p a (of_decide_eq_true b)
    generalize ((patK 40 (z + 2) (z + 2)).filter fun p => decide (p ≠ [])) = FF at *
    have g3 : (h2 ++ [(false, O.lst (FF.map iT))])[h2.length]? = some (false, .lst (FF.map iT)) := get_new
    have ap3 : Ap h2 (h2 ++ [(false, O.lst (FF.map iT))]) := .new _
    have w3l : h1.length ≤ h2.length := ap2.len
    generalize h2.length = w3 at *
    generalize h2 ++ [(false, O.lst (FF.map iT))] = h3 at *
    refine wS_step (ρ' := [some (.ref w0), some (.int ((z + 2 : Nat) : Int)), some (.ref w3), none]) (h' := h3) (by
      generalize ((z + 2 : Nat) : Int) = K at *
      simp [q_bok, q_bxn, q_ofok, q_ofxn, q_vo, q_var, q_k, q_c1, q_c2, q_nil, q_cons, q_c, q_call, q_callK, pick, q_b, q_tru, q_not, q_and, q_or, q_ifE, q_andV, q_orV, q_notV, q_chain, q_seq, q_tnx, q_trt, q_txn, q_tbk, q_tct, q_skip, q_drop, q_ret, q_retN, q_bk, q_ct, q_set, q_par, q_par3, q_if, q_raise, q_mt, q_mt0, q_end0, q_endr, q_endx, q_lt, q_le, q_gt, q_ge, q_sub, q_add, q_neg, q_inti, q_intb, q_max, q_min, q_lenT, q_lenF, q_truT, q_truF, q_truB, q_truI, q_ixT, q_ixF, at_0, at_1, er_int, er_bl, er_str, er_non, er_tup, er_flst, er_ref, er_obj, er_ty, er_gl, q_tup, q_cutT, q_pn, q_ps, q_slT, q_itS, seqL_t, sz_0, sz_1, sz_2, sz_3, sz_4, sz_5, sz_6, sz_7, sz_8, sz_9, sz_10, sz_11, sz_12, sz_13, sz_14, cc]) ?_
    have gf3 := ap3.get (ap2.get gf)
    have gfl : (lckL [w3] h3)[w0]? = some (false, .lst (iL (tab z))) := by rw [lck1_ne g3 (by omega)]; exact gf3
    have c2 := q_compR2 (vs := [3]) (ci := cItS (cVar 2)) (t := .nm 3) (tt := cYes) (e := Sx.c2 gIx (cVar 0) (Sx.c2 gAdd (Sx.c2 gSub (cVar 1) (cC gSum (cCons (cVar 3) (cNil)))) (cC gLen (cCons (cVar 3) (cNil))))) (ρ := [some (.ref w0), some (.int ((z + 2 : Nat) : Int)), some (.ref w3), none]) (h0 := h3) (l := FF.map iT) (xs := FF.map fun p => .int (cN (nxK (z + 2) p))) g3 (by
      have s := seqL_r g3
      generalize FF.map iT = LL at *
      simp [q_bok, q_bxn, q_ofok, q_ofxn, q_vo, q_var, q_k, q_c1, q_c2, q_nil, q_cons, q_c, q_call, q_callK, pick, q_b, q_tru, q_not, q_and, q_or, q_ifE, q_andV, q_orV, q_notV, q_chain, q_seq, q_tnx, q_trt, q_txn, q_tbk, q_tct, q_skip, q_drop, q_ret, q_retN, q_bk, q_ct, q_set, q_par, q_par3, q_if, q_raise, q_mt, q_mt0, q_end0, q_endr, q_endx, q_lt, q_le, q_gt, q_ge, q_sub, q_add, q_neg, q_inti, q_intb, q_max, q_min, q_lenT, q_lenF, q_truT, q_truF, q_truB, q_truI, q_ixT, q_ixF, at_0, at_1, er_int, er_bl, er_str, er_non, er_tup, er_flst, er_ref, er_obj, er_ty, er_gl, q_lst, q_tup, q_cutT, q_pn, q_ps, q_slT, q_itS, seqL_t, sz_0, sz_1, sz_2, sz_3, sz_4, sz_5, sz_6, sz_7, sz_8, sz_9, sz_10, sz_11, sz_12, sz_13, sz_14, s]) (by rw [List.length_map]; omega) (by
      refine comp_all iT (fun p => .int (cN (nxK (z + 2) p))) _ fun p hp => ⟨_, asg_nm, ?_⟩
      obtain ⟨n1, n2, n3⟩ := mem3 p hp
      have er : (iT p).isErr = false := rfl
      have sm := q_sumT (a := p) (h := lckL [w3] h3)
      have ql : gLen [iT p] (lckL [w3] h3) = some (.int (p.length : Nat), lckL [w3] h3) := by rw [q_lenT]; simp
      have ix : gIx (.ref w0) (.int ((nxK (z + 2) p : Nat) : Int)) (lckL [w3] h3) = some (.int (cN (nxK (z + 2) p)), lckL [w3] h3) := by
        rw [q_ixR gfl, at_nat (tab_at (n := z) (i := nxK (z + 2) p) (by omega) n2)]
      show Sx.c2 gIx _ _ [some (.ref w0), some (.int ((z + 2 : Nat) : Int)), some (.ref w3), some (iT p)] _ = _
      generalize cN (nxK (z + 2) p) = CC at *
      generalize ((nxK (z + 2) p : Nat) : Int) = NX at *
      generalize ((z + 2 : Nat) : Int) = K at *
      generalize ((p.length : Nat) : Int) = PL at *
      generalize p.sum = PS at *
      generalize iT p = PP at *
      simp only [q_c, q_c2, q_cons, q_nil, q_var, List.getElem?_cons_succ, List.getElem?_cons_zero, er_int, er_ref, er, Bool.false_eq_true, if_false, q_bok, sm, ql, q_sub, q_add, n3, ix, q_vo])
    have em : (FF.map fun p => D.int (cN (nxK (z + 2) p))) = iL (FF.map fun p => cN (nxK (z + 2) p)) := by
      rw [iL, List.map_map]; rfl
    rw [em] at c2
    have sm := q_sumR (get_new (h := h3) (p := (false, O.lst (iL (FF.map fun p => cN (nxK (z + 2) p))))))
    rw [nf] at sm
    have ap4 : Ap h3 (h3 ++ [(false, O.lst (iL (FF.map fun p => cN (nxK (z + 2) p))))]) := .new _
    have g4 := ap4.get gf3
    generalize h3 ++ [(false, O.lst (iL (FF.map fun p => cN (nxK (z + 2) p))))] = h4 at *
    have qa := q_app (d := .int (cN (z + 2))) g4 (by rw [iL, List.length_map, tab_len]; omega)
    have en : iL (tab z) ++ [D.int (cN (z + 2))] = iL (tab (z + 1)) := by
      rw [tab_nextN z lz]
      simp only [iL, List.map_append, List.map_cons, List.map_nil]
    rw [en] at qa
    have okf := ok_lst gf3
    refine wS.of (f := .nx) (ρ := [some (.ref w0), some (.int ((z + 2 : Nat) : Int)), some (.ref w3), none]) (h := h4.set w0 (false, .lst (iL (tab (z + 1))))) ?_ ⟨⟨_, _, rfl⟩, (((ap1.trans ap2).trans ap3).trans ap4).put (by omega) _, get_set g4⟩
    generalize cN (z + 2) = CC at *
    generalize iL (tab (z + 1)) = TT at *
    generalize ((z + 2 : Nat) : Int) = K at *
    simp [q_bok, q_bxn, q_ofok, q_ofxn, q_vo, q_var, q_k, q_c1, q_c2, q_nil, q_cons, q_c, q_call, q_callK, pick, q_b, q_tru, q_not, q_and, q_or, q_ifE, q_andV, q_orV, q_notV, q_chain, q_seq, q_tnx, q_trt, q_txn, q_tbk, q_tct, q_skip, q_drop, q_ret, q_retN, q_bk, q_ct, q_set, q_par, q_par3, q_if, q_raise, q_mt, q_mt0, q_end0, q_endr, q_endx, q_lt, q_le, q_gt, q_ge, q_sub, q_add, q_neg, q_inti, q_intb, q_max, q_min, q_lenT, q_lenF, q_truT, q_truF, q_truB, q_truI, q_ixT, q_ixF, at_0, at_1, er_int, er_bl, er_str, er_non, er_tup, er_flst, er_ref, er_obj, er_ty, er_gl, q_tup, q_cutT, q_pn, q_ps, q_slT, q_itS, seqL_t, sz_0, sz_1, sz_2, sz_3, sz_4, sz_5, sz_6, sz_7, sz_8, sz_9, sz_10, sz_11, sz_12, sz_13, sz_14, okf, c2, sm, qa]
  · rintro ρ h1 ⟨⟨x1, x2, rfl⟩, ap1, gf⟩
    have gf : h1[w0]? = some (false, .lst (iL (tab 11))) := gf
    generalize iL (tab 11) = TT at *
    exact wS_ret (d := .ref w0) (h' := h1) (by simp [q_bok, q_bxn, q_ofok, q_ofxn, q_vo, q_var, q_k, q_c1, q_c2, q_nil, q_cons, q_c, q_call, q_callK, pick, q_b, q_tru, q_not, q_and, q_or, q_ifE, q_andV, q_orV, q_notV, q_chain, q_seq, q_tnx, q_trt, q_txn, q_tbk, q_tct, q_skip, q_drop, q_ret, q_retN, q_bk, q_ct, q_set, q_par, q_par3, q_if, q_raise, q_mt, q_mt0, q_end0, q_endr, q_endx, q_lt, q_le, q_gt, q_ge, q_sub, q_add, q_neg, q_inti, q_intb, q_max, q_min, q_lenT, q_lenF, q_truT, q_truF, q_truB, q_truI, q_ixT, q_ixF, at_0, at_1, er_int, er_bl, er_str, er_non, er_tup, er_flst, er_ref, er_obj, er_ty, er_gl, q_lst, q_tup, q_cutT, q_pn, q_ps, q_slT, q_itS, seqL_t, sz_0, sz_1, sz_2, sz_3, sz_4, sz_5, sz_6, sz_7, sz_8, sz_9, sz_10, sz_11, sz_12, sz_13, sz_14]) ⟨_, rfl, ap1, hm, gf⟩

end Gk

set_option Elab.async false
set_option linter.all false
set_option maxRecDepth 100000
namespace Gk
open PySem Sx
theorem pu_dsD43 (n : Nat) (ds : List (List Int)) : pu (n + 2) (.tup (dsD ds)) = true := by
  show ((dsD ds).all (pu (n + 1))) = true
  rw [List.all_map, List.all_eq_true]
  intro x _
  exact pu_iT _ x
theorem pu_cnt43 (s : Str) (i : Int) (hs : PyData.strOk s = true) : pu 9 (.tup [.str s, .int i]) = true := by
  show ([D.str s, .int i].all (pu 8)) = true
  rw [List.all_cons, List.all_cons, pu_str, pu_int, hs]; rfl
theorem dayT_len {k : Nat} : (dayT k).length = (cN k).toNat := by simp [dayT]
theorem dayT_get {k j : Nat} (hj : j < (cN k).toNat) : (dayT k)[j]? = some (nthP 12 k (j : Int)) := by
  unfold dayT
  rw [List.getElem?_map, List.getElem?_range hj]; rfl
noncomputable abbrev chk43 : CS := cSeq (cSet 3 (cCall m__law_told (cCons (cK (.str "nth")) (cCons (cVar 0) (cCons (cVar 2) (cNil)))))) (cIf (cOr (cB (Sx.c2 gNe (cC gTupD (cCons (Sx.c1 (gFld cal "born") (cVar 3)) (cCons (Sx.c1 (gFld cal "days") (cVar 3)) (cNil)))) (cC gTupD (cCons (Sx.c2 gMul (cC gTupD (cCons (cK (.int 0)) (cNil))) (cVar 0)) (cCons (Sx.c2 gIx (cVar 1) (cVar 2)) (cNil)))))) (cNot (cTru (cCall m__law_is_number (cCons (cCall m__law_told (cCons (cK (.str "rank")) (cCons (cVar 3) (cCons (cK (.int 0)) (cNil))))) (cCons (cVar 2) (cNil))))))) (cRet (cK (.bl false))) (cSkip))
theorem chk43_w {k j w : Nat} {x3 : Option D} {h : Hc} (k1 : 1 ≤ k) (k12 : k ≤ 6) (hj : j < (cN k).toNat) (gw : h[w]? = some (false, .lst ((dayT k).map dsT))) :
    ∃ h', chk43 [some (.int (k : Nat)), some (.ref w), some (.int (j : Nat)), x3] h = .ok .nx [some (.int (k : Nat)), some (.ref w), some (.int (j : Nat)), some (calD (List.replicate k 0) (nthP 12 k (j : Int)))] h' ∧ Ap h h' := by
  have j1 : ((j : Nat) : Int) < cN k := by omega
  obtain ⟨h1, e1, ap1⟩ := told_nw (i := (j : Int)) (h := h) k1 (by omega) (by omega) j1
  obtain ⟨h2, e2, ap2⟩ := told_rw (i := (j : Int)) (j := 0) (h := h1) k1 (by omega) (by omega) j1
  refine ⟨h2, ?_, ap1.trans ap2⟩
  have z := zeros43 (k := k) (h := h1) (by omega)
  have ix : gIx (.ref w) (.int (j : Nat)) h1 = some (dsT (nthP 12 k (j : Int)), h1) := by
    rw [q_ixR (ap1.get gw), at_nat (d := dsT (nthP 12 k (j : Int))) (by rw [List.getElem?_map, dayT_get hj]; rfl)]
  have fb : gFld cal "born" (calD (List.replicate k 0) (nthP 12 k (j : Int))) h1 = some (iT (List.replicate k 0), h1) := fld_b
  have fd : gFld cal "days" (calD (List.replicate k 0) (nthP 12 k (j : Int))) h1 = some (dsT (nthP 12 k (j : Int)), h1) := fld_d
  have gt2 : gTupD [iT (List.replicate k 0), dsT (nthP 12 k (j : Int))] h1 = some (.tup [iT (List.replicate k 0), dsT (nthP 12 k (j : Int))], h1) := id rfl
  have gt1 : gTupD [.int 0] h1 = some (.tup [.int 0], h1) := id rfl
  have p : pu 9 (.tup [iT (List.replicate k 0), dsT (nthP 12 k (j : Int))]) = true := by
    show ([iT (List.replicate k 0), dsT (nthP 12 k (j : Int))].all (pu 8)) = true
    rw [List.all_cons, List.all_cons, pu_iT, pu_dsD43]; rfl
  have qn := q_neS (h := h1) p
  have isn := isnum43 (a := (j : Int)) (b := (j : Int)) (h := h2)
  rw [decide_eq_true rfl] at isn
  have er : (calD (List.replicate k 0) (nthP 12 k (j : Int))).isErr = false := rfl
  have er1 : (iT (List.replicate k 0)).isErr = false := rfl
  have er2 : (dsT (nthP 12 k (j : Int))).isErr = false := rfl
  unfold chk43
  generalize D.tup [iT (List.replicate k 0), dsT (nthP 12 k (j : Int))] = TT at *
  generalize calD (List.replicate k 0) (nthP 12 k (j : Int)) = CC at *
  generalize iT (List.replicate k 0) = ZZ at *
  generalize dsT (nthP 12 k (j : Int)) = DD at *
  generalize ((k : Nat) : Int) = K at *
  generalize ((j : Nat) : Int) = J at *
  simp only [q_bok, q_bxn, q_ofok, q_ofxn, q_vo, q_var, q_k, q_c1, q_c2, q_nil, q_cons, q_c, q_call, q_callK, pick, q_b, q_tru, q_not, q_and, q_or, q_ifE, q_andV, q_orV, q_notV, q_chain, q_seq, q_tnx, q_trt, q_txn, q_tbk, q_tct, q_skip, q_drop, q_ret, q_retN, q_bk, q_ct, q_set, q_par, q_par3, q_if, q_raise, q_mt, q_mt0, q_end0, q_endr, q_endx, q_lt, q_le, q_gt, q_ge, q_sub, q_add, q_neg, q_inti, q_intb, q_max, q_min, q_lenT, q_lenF, q_truT, q_truF, q_truB, q_truI, q_ixT, q_ixF, at_0, at_1, er_int, er_bl, er_str, er_non, er_tup, er_flst, er_ref, er_obj, er_ty, er_gl, q_tup, q_cutT, q_pn, q_ps, q_slT, q_itS, seqL_t, sz_0, sz_1, sz_2, sz_3, sz_4, sz_5, sz_6, sz_7, sz_8, sz_9, sz_10, sz_11, sz_12, sz_13, sz_14, List.getElem?_cons_succ, List.getElem?_cons_zero, List.set_cons_succ, List.set_cons_zero, e1, er, er1, er2, fb, fd, gt2, gt1, z, ix, qn, e2, isn, Bool.false_eq_true, if_false, if_true]
  try simp [q_bok, q_bxn, q_ofok, q_ofxn, q_vo, q_var, q_k, q_c1, q_c2, q_nil, q_cons, q_c, q_call, q_callK, pick, q_b, q_tru, q_not, q_and, q_or, q_ifE, q_andV, q_orV, q_notV, q_chain, q_seq, q_tnx, q_trt, q_txn, q_tbk, q_tct, q_skip, q_drop, q_ret, q_retN, q_bk, q_ct, q_set, q_par, q_par3, q_if, q_raise, q_mt, q_mt0, q_end0, q_endr, q_endx, q_lt, q_le, q_gt, q_ge, q_sub, q_add, q_neg, q_inti, q_intb, q_max, q_min, q_lenT, q_lenF, q_truT, q_truF, q_truB, q_truI, q_ixT, q_ixF, at_0, at_1, er_int, er_bl, er_str, er_non, er_tup, er_flst, er_ref, er_obj, er_ty, er_gl, q_lst, q_tup, q_cutT, q_pn, q_ps, q_slT, q_itS, seqL_t, sz_0, sz_1, sz_2, sz_3, sz_4, sz_5, sz_6, sz_7, sz_8, sz_9, sz_10, sz_11, sz_12, sz_13, sz_14, e1, er, er1, er2, fb, fd, gt2, gt1, z, ix, qn, e2, isn]
theorem listed_ok {k : Nat} {h : Hc} (k1 : 1 ≤ k) (k6 : k ≤ 6) : ∃ h', m__law_listed_right [.int (k : Nat)] h = .ok (.bl true) h' ∧ Ap h h' := by
  suffices w : wE (m__law_listed_right [.int (k : Nat)] h) fun r h' => r = .bl true ∧ Ap h h' by
    obtain ⟨_, h', e, rfl, q⟩ := w.eq
    exact ⟨h', e, q⟩
  have cp := cN_pos k (by omega) k1
  have few := day_fact k (by omega)
  obtain ⟨h1, w, e1, ap1, wl, gw⟩ := days_w 40 k h (by omega) (by omega) k6 k1
  obtain ⟨h2, e2, ap2⟩ := told_cw (i := 0) (h := h1) k1 (by omega : k ≤ 12)
  have gw2 := ap2.get gw
  have ql : ∀ {h9 : Hc}, h9[w]? = some (false, .lst ((dayT k).map dsT)) → gLen [.ref w] h9 = some (.int (cN k), h9) := fun {h9} g => by
    have := q_lenR g
    rw [List.length_map, dayT_len] at this
    rw [this]
    congr 3
    omega
  have isn := isnum43 (a := cN k) (b := cN k) (h := h2)
  rw [decide_eq_true rfl] at isn
  have ql2 := ql gw2
  unfold m__law_listed_right
  refine wE_run rfl ?_
  unfold b__law_listed_right
  refine wS_step (ρ' := [some (.int (k : Nat)), some (.ref w), none, none]) (h' := h1) (by
    generalize m__law_days 40 = MD at *
    generalize ((k : Nat) : Int) = K at *
    simp [q_bok, q_bxn, q_ofok, q_ofxn, q_vo, q_var, q_k, q_c1, q_c2, q_nil, q_cons, q_c, q_call, q_callK, pick, q_b, q_tru, q_not, q_and, q_or, q_ifE, q_andV, q_orV, q_notV, q_chain, q_seq, q_tnx, q_trt, q_txn, q_tbk, q_tct, q_skip, q_drop, q_ret, q_retN, q_bk, q_ct, q_set, q_par, q_par3, q_if, q_raise, q_mt, q_mt0, q_end0, q_endr, q_endx, q_lt, q_le, q_gt, q_ge, q_sub, q_add, q_neg, q_inti, q_intb, q_max, q_min, q_lenT, q_lenF, q_truT, q_truF, q_truB, q_truI, q_ixT, q_ixF, at_0, at_1, er_int, er_bl, er_str, er_non, er_tup, er_flst, er_ref, er_obj, er_ty, er_gl, q_lst, q_tup, q_cutT, q_pn, q_ps, q_slT, q_itS, seqL_t, sz_0, sz_1, sz_2, sz_3, sz_4, sz_5, sz_6, sz_7, sz_8, sz_9, sz_10, sz_11, sz_12, sz_13, sz_14, e1]) ?_
  refine wS_step (ρ' := [some (.int (k : Nat)), some (.ref w), none, none]) (h' := h2) (by
    generalize ((k : Nat) : Int) = K at *
    simp [q_bok, q_bxn, q_ofok, q_ofxn, q_vo, q_var, q_k, q_c1, q_c2, q_nil, q_cons, q_c, q_call, q_callK, pick, q_b, q_tru, q_not, q_and, q_or, q_ifE, q_andV, q_orV, q_notV, q_chain, q_seq, q_tnx, q_trt, q_txn, q_tbk, q_tct, q_skip, q_drop, q_ret, q_retN, q_bk, q_ct, q_set, q_par, q_par3, q_if, q_raise, q_mt, q_mt0, q_end0, q_endr, q_endx, q_lt, q_le, q_gt, q_ge, q_sub, q_add, q_neg, q_inti, q_intb, q_max, q_min, q_lenT, q_lenF, q_truT, q_truF, q_truB, q_truI, q_ixT, q_ixF, at_0, at_1, er_int, er_bl, er_str, er_non, er_tup, er_flst, er_ref, er_obj, er_ty, er_gl, q_lst, q_tup, q_cutT, q_pn, q_ps, q_slT, q_itS, seqL_t, sz_0, sz_1, sz_2, sz_3, sz_4, sz_5, sz_6, sz_7, sz_8, sz_9, sz_10, sz_11, sz_12, sz_13, sz_14, e2, ql2, isn]) ?_
  have dl : cN k = (((cN k).toNat : Nat) : Int) := by omega
  refine wS_loop ?_
  rw [q_for (l := (List.range (cN k).toNat).map fun (i : Nat) => .int (i : Int)) (h1 := h2) (q_itR1 (h1 := h2) (by
    simp only [q_bok, q_bxn, q_ofok, q_ofxn, q_vo, q_var, q_k, q_c1, q_c2, q_nil, q_cons, q_c, q_call, q_callK, pick, q_b, q_tru, q_not, q_and, q_or, q_ifE, q_andV, q_orV, q_notV, q_chain, q_seq, q_tnx, q_trt, q_txn, q_tbk, q_tct, q_skip, q_drop, q_ret, q_retN, q_bk, q_ct, q_set, q_par, q_par3, q_if, q_raise, q_mt, q_mt0, q_end0, q_endr, q_endx, q_lt, q_le, q_gt, q_ge, q_sub, q_add, q_neg, q_inti, q_intb, q_max, q_min, q_lenT, q_lenF, q_truT, q_truF, q_truB, q_truI, q_ixT, q_ixF, at_0, at_1, er_int, er_bl, er_str, er_non, er_tup, er_flst, er_ref, er_obj, er_ty, er_gl, q_tup, q_cutT, q_pn, q_ps, q_slT, q_itS, seqL_t, sz_0, sz_1, sz_2, sz_3, sz_4, sz_5, sz_6, sz_7, sz_8, sz_9, sz_10, sz_11, sz_12, sz_13, sz_14, List.getElem?_cons_succ, List.getElem?_cons_zero, Bool.false_eq_true, if_false, ql2]
    try rw [← dl]) (by rw [dayT_len] at few; omega))]
  refine for_ix (fun (i : Nat) => D.int (i : Int)) (List.range (cN k).toNat) (fun z ρ h3 => (∃ x2 x3, ρ = [some (.int (k : Nat)), some (.ref w), x2, x3]) ∧ Ap h2 h3) ?_ ?_ ⟨⟨none, none, rfl⟩, .refl⟩
  · rintro z0 z ρ h3 hz ⟨⟨x2, x3, rfl⟩, ap3⟩
    obtain ⟨rfl, lz⟩ := range_at hz
    refine ⟨_, asg_nm, ?_⟩
    obtain ⟨h4, e4, ap4⟩ := chk43_w (k := k) (j := z) (w := w) (x3 := x3) (h := h3) k1 k6 lz (ap3.get gw2)
    exact wS.of (f := .nx) e4 ⟨⟨_, _, rfl⟩, ap3.trans ap4⟩
  · rintro ρ h3 ⟨⟨x2, x3, rfl⟩, ap3⟩
    have g3 := ap3.get gw2
    have ql3 := ql g3
    obtain ⟨h4, e4, ap4⟩ := told_no (i := cN k) (h := h3) k1 (by omega : k ≤ 12) (by omega)
    have ql4 := ql (ap4.get g3)
    obtain ⟨h5, e5, ap5⟩ := told_no (i := -1) (h := h4) k1 (by omega : k ≤ 12) (by omega)
    have qe1 : gEq (.tup [.str "count", .int (cN k)]) (.tup [.str "count", .int (cN k)]) h4 = some (.bl true, h4) := q_eqS (pu_cnt43 _ _ (by decide +kernel))
    have qe2 : gEq (.tup [.str "count", .int (-1)]) (.tup [.str "count", .int (-1)]) h5 = some (.bl true, h5) := q_eqS (pu_cnt43 _ _ (by decide +kernel))
    have gt2 : ∀ (d e : D) (h : Hc), gTupD [d, e] h = some (.tup [d, e], h) := fun d e h => id rfl
    refine wS_ret (d := .bl true) (h' := h5) ?_ ⟨rfl, (ap1.trans ap2).trans (ap3.trans (ap4.trans ap5))⟩
    generalize cN k = C at *
    generalize ((k : Nat) : Int) = K at *
    simp [q_bok, q_bxn, q_ofok, q_ofxn, q_vo, q_var, q_k, q_c1, q_c2, q_nil, q_cons, q_c, q_call, q_callK, pick, q_b, q_tru, q_not, q_and, q_or, q_ifE, q_andV, q_orV, q_notV, q_chain, q_seq, q_tnx, q_trt, q_txn, q_tbk, q_tct, q_skip, q_drop, q_ret, q_retN, q_bk, q_ct, q_set, q_par, q_par3, q_if, q_raise, q_mt, q_mt0, q_end0, q_endr, q_endx, q_lt, q_le, q_gt, q_ge, q_sub, q_add, q_neg, q_inti, q_intb, q_max, q_min, q_lenT, q_lenF, q_truT, q_truF, q_truB, q_truI, q_ixT, q_ixF, at_0, at_1, er_int, er_bl, er_str, er_non, er_tup, er_flst, er_ref, er_obj, er_ty, er_gl, q_lst, q_tup, q_cutT, q_pn, q_ps, q_slT, q_itS, seqL_t, sz_0, sz_1, sz_2, sz_3, sz_4, sz_5, sz_6, sz_7, sz_8, sz_9, sz_10, sz_11, sz_12, sz_13, sz_14, ql3, e4, ql4, gt2, qe1, e5, qe2]

end Gk

set_option Elab.async false
set_option linter.all false
set_option maxRecDepth 100000
namespace Gk
open PySem Sx
theorem cN_top : ∀ k, k < 13 → 7 ≤ k → 2 < cN k ∧ cN k < 1073741824 := by decide +kernel
structure StN (n w : Nat) (h : Hc) : Prop where
  src : IsSrc h n
  tab_ : h[w]? = some (false, .lst (iL (tab 11)))
  lt : w < n
theorem StN.ap {n w : Nat} {h h' : Hc} (s : StN n w h) (a : Ap h h') : StN n w h' := by
  obtain ⟨t, rfl⟩ := a
  exact ⟨((Go.refl s.src).app t).src, (Ap.new t).get s.tab_, s.lt⟩
theorem StN.go {n w : Nat} {h h' : Hc} (s : StN n w h) (g : Go n h h') : StN n w h' := by
  have lt := s.lt
  have l := s.src.lt
  exact ⟨g.src, by rw [g.keep w (by omega) (by omega)]; exact s.tab_, s.lt⟩
theorem one_lst43 {h : Hc} {n : Nat} {L : List Int} (s : IsSrc h n) (h0 : 0 < L.length) (h1 : L.length ≤ 100) : ∃ (z : Int) (h' : Hc), gLstD (iL L) h = some (.ref h.length, h ++ [(false, .lst (iL L))]) ∧ m__law_one [.ref n, .ref h.length] (h ++ [(false, .lst (iL L))]) = .ok (.int z) h' ∧ z ∈ L ∧ Go n h h' := by
  have sz : (1000 : Nat) < sizeLine := by decide
  have lt := s.lt
  have ga : Go n h (h ++ [(false, .lst (iL L))]) := (Go.refl s).app _
  obtain ⟨d, h', e, q, g⟩ := one_go (x := .ref h.length) (ds := iL L) ga.src (by simp only [asSeq, get_new]) (by simp; omega) rfl (by simpa using h0) (by simp only [iL, List.length_map]; omega)
  obtain ⟨z, hz, rfl⟩ := List.mem_map.mp q
  exact ⟨z, h', q_lst (by simp only [iL, List.length_map]; omega), e, hz, ga.trans g⟩
theorem bad4 (b : List Int) (ds : List (List Int)) (h : Hc) (hm : (b, ds) ∈ [([0, 0, 1], [[2], [2]]), ([0, 0, 0], [[2]]), ([0, 0], []), ([1, 0, 0], [[2]])]) : ∃ h', (m_made_calendar [iT b, .tup (dsD ds)] h = .ok (calD b ds) h' ∧ Ap h h') ∧ ∃ h2, m__law_told [.str "rank", calD b ds, .int 0] h' = .ok (.tup [.str "unlike", .int 0]) h2 ∧ Ap h' h2 := by
  have pv : PatV [2] := ⟨by simp, fun i hi => by simp at hi⟩
  have key : CalV b ds ∧ ds.length ≤ 100 ∧ b ≠ [] ∧ ∃ n, (cnt b ds 0 0)[ds.length]? = some n ∧ (0 < maxL b ∨ n ≠ 1) := by
    simp only [List.mem_cons, Prod.mk.injEq, List.not_mem_nil, or_false] at hm
    rcases hm with ⟨rfl, rfl⟩ | ⟨rfl, rfl⟩ | ⟨rfl, rfl⟩ | ⟨rfl, rfl⟩
    · refine ⟨⟨by decide, by decide, by decide, fun p hp => ?_, by decide, fun d p n e1 e2 => ?_⟩, by decide, by decide, _, rfl, by decide⟩
      · simp at hp; subst hp; exact ⟨pv, by decide, by decide⟩
      · match d with
        | 0 => cases e1; cases e2; decide
        | 1 => cases e1; cases e2; decide
        | d + 2 => simp at e1
    · refine ⟨⟨by decide, by decide, by decide, fun p hp => ?_, by decide, fun d p n e1 e2 => ?_⟩, by decide, by decide, _, rfl, by decide⟩
      · simp at hp; subst hp; exact ⟨pv, by decide, by decide⟩
      · match d with
        | 0 => cases e1; cases e2; decide
        | d + 1 => simp at e1
    · refine ⟨⟨by decide, by decide, by decide, fun p hp => ?_, by decide, fun d p n e1 e2 => ?_⟩, by decide, by decide, _, rfl, by decide⟩
      · simp at hp
      · simp at e1
    · refine ⟨⟨by decide, by decide, by decide, fun p hp => ?_, by decide, fun d p n e1 e2 => ?_⟩, by decide, by decide, _, rfl, by decide⟩
      · simp at hp; subst hp; exact ⟨pv, by decide, by decide⟩
      · match d with
        | 0 => cases e1; cases e2; decide
        | d + 1 => simp at e1
  obtain ⟨v, hd, nb, n, e, bad⟩ := key
  obtain ⟨r, h', e1, rfl, l, rfl⟩ := (made_ok (h := h) v).eq
  obtain ⟨h2, e2, ap2⟩ := told_rx (h := h ++ l) (i := 0) hd nb e bad
  exact ⟨h ++ l, ⟨e1, ⟨l, rfl⟩⟩, h2, e2, ap2⟩

end Gk

set_option Elab.async false
set_option linter.all false
set_option maxRecDepth 100000
namespace Gk
open PySem Sx
noncomputable abbrev four43 : CS := cIf (cB (Sx.c2 gNe (cCall m__law_told (cCons (cK (.str "rank")) (cCons (cCall m_made_calendar (cCons (cVar 9) (cCons (cVar 10) (cNil)))) (cCons (cK (.int 0)) (cNil))))) (cC gTupD (cCons (cK (.str "unlike")) (cCons (cK (.int 0)) (cNil)))))) (cRet (cK (.bl false))) (cSkip)
theorem four_w {ns : List Int} {w : Nat} {x2 x3 x4 x5 x6 x7 x8 : Option D} {b : List Int} {ds : List (List Int)} {h : Hc} (hm : (b, ds) ∈ [([0, 0, 1], [[2], [2]]), ([0, 0, 0], [[2]]), ([0, 0], []), ([1, 0, 0], [[2]])]) :
    ∃ h', four43 [some (.flst (ns.map Sx.D.int)), some (.ref w), x2, x3, x4, x5, x6, x7, x8, some (iT b), some (.tup (dsD ds))] h = .ok .nx [some (.flst (ns.map Sx.D.int)), some (.ref w), x2, x3, x4, x5, x6, x7, x8, some (iT b), some (.tup (dsD ds))] h' ∧ Ap h h' := by
  obtain ⟨h1, ⟨e1, ap1⟩, h2, e2, ap2⟩ := bad4 b ds h hm
  refine ⟨h2, ?_, ap1.trans ap2⟩
  have gt2 : gTupD [.str "unlike", .int 0] h2 = some (.tup [.str "unlike", .int 0], h2) := id rfl
  have qn : gNe (.tup [.str "unlike", .int 0]) (.tup [.str "unlike", .int 0]) h2 = some (.bl false, h2) := q_neS (pu_cnt43 _ _ (by decide +kernel))
  have er1 : (iT b).isErr = false := rfl
  have erC : (calD b ds).isErr = false := rfl
  unfold four43
  generalize calD b ds = CC at *
  generalize iT b = BB at *
  generalize dsD ds = DD at *
  simp [q_bok, q_bxn, q_ofok, q_ofxn, q_vo, q_var, q_k, q_c1, q_c2, q_nil, q_cons, q_c, q_call, q_callK, pick, q_b, q_tru, q_not, q_and, q_or, q_ifE, q_andV, q_orV, q_notV, q_chain, q_seq, q_tnx, q_trt, q_txn, q_tbk, q_tct, q_skip, q_drop, q_ret, q_retN, q_bk, q_ct, q_set, q_par, q_par3, q_if, q_raise, q_mt, q_mt0, q_end0, q_endr, q_endx, q_lt, q_le, q_gt, q_ge, q_sub, q_add, q_neg, q_inti, q_intb, q_max, q_min, q_lenT, q_lenF, q_truT, q_truF, q_truB, q_truI, q_ixT, q_ixF, at_0, at_1, er_int, er_bl, er_str, er_non, er_tup, er_flst, er_ref, er_obj, er_ty, er_gl, q_lst, q_tup, q_cutT, q_pn, q_ps, q_slT, q_itS, seqL_t, sz_0, sz_1, sz_2, sz_3, sz_4, sz_5, sz_6, sz_7, sz_8, sz_9, sz_10, sz_11, sz_12, sz_13, sz_14, er1, erC, e1, e2, gt2, qn]
noncomputable abbrev tail43 : CS := cFor (cItS (cC gLstD (cCons (cC gTupD (cCons (cC gTupD (cCons (cK (.int 0)) (cCons (cK (.int 0)) (cCons (cK (.int 1)) (cNil))))) (cCons (cC gTupD (cCons (cC gTupD (cCons (cK (.int 2)) (cNil))) (cCons (cC gTupD (cCons (cK (.int 2)) (cNil))) (cNil)))) (cNil)))) (cCons (cC gTupD (cCons (cC gTupD (cCons (cK (.int 0)) (cCons (cK (.int 0)) (cCons (cK (.int 0)) (cNil))))) (cCons (cC gTupD (cCons (cC gTupD (cCons (cK (.int 2)) (cNil))) (cNil))) (cNil)))) (cCons (cC gTupD (cCons (cC gTupD (cCons (cK (.int 0)) (cCons (cK (.int 0)) (cNil)))) (cCons (cC gTupD (cNil)) (cNil)))) (cCons (cC gTupD (cCons (cC gTupD (cCons (cK (.int 1)) (cCons (cK (.int 0)) (cCons (cK (.int 0)) (cNil))))) (cCons (cC gTupD (cCons (cC gTupD (cCons (cK (.int 2)) (cNil))) (cNil))) (cNil)))) (cNil))))))) (.tp [.nm 9, .nm 10]) four43
def mk43 (p : List Int × List (List Int)) : D := .tup [iT p.1, .tup (dsD p.2)]
def the4 : List (List Int × List (List Int)) := [([0, 0, 1], [[2], [2]]), ([0, 0, 0], [[2]]), ([0, 0], []), ([1, 0, 0], [[2]])]
theorem tail_w {ns : List Int} {n w : Nat} {x2 x3 x4 x5 x6 x7 x8 x9 x10 : Option D} {h : Hc} (st : StN n w h) :
    wS (tail43 [some (.flst (ns.map Sx.D.int)), some (.ref w), x2, x3, x4, x5, x6, x7, x8, x9, x10] h) fun f ρ h' => f = .nx ∧ StN n w h' ∧ ∃ x9 x10, ρ = [some (.flst (ns.map Sx.D.int)), some (.ref w), x2, x3, x4, x5, x6, x7, x8, x9, x10] := by
  have l4 : gLstD (the4.map mk43) h = some (.ref h.length, h ++ [(false, .lst (the4.map mk43))]) := q_lst (show (4 : Nat) ≤ sizeLine by decide)
  have g4 : (h ++ [(false, O.lst (the4.map mk43))])[h.length]? = some (false, .lst (the4.map mk43)) := get_new
  have hl := st.src.lt
  have wl := st.lt
  have st2 := st.ap (Ap.new [(false, O.lst (the4.map mk43))])
  have nl : n < h.length := hl
  generalize h.length = v at *
  generalize h ++ [(false, O.lst (the4.map mk43))] = h1 at *
  unfold tail43
  refine wS_forR (l := the4.map mk43) (w := v) (h1 := h1) (p := (false, .lst (the4.map mk43))) (by
    have s := seqL_r g4
    have ga : ∀ (d e f : D) (h : Hc), gTupD [d, e, f] h = some (.tup [d, e, f], h) := fun d e f h => id rfl
    have gb : ∀ (d e : D) (h : Hc), gTupD [d, e] h = some (.tup [d, e], h) := fun d e h => id rfl
    have gc : ∀ (d : D) (h : Hc), gTupD [d] h = some (.tup [d], h) := fun d h => id rfl
    have gd : ∀ (h : Hc), gTupD [] h = some (.tup [], h) := fun h => id rfl
    have l5 : gLstD [.tup [.tup [.int 0, .int 0, .int 1], .tup [.tup [.int 2], .tup [.int 2]]], .tup [.tup [.int 0, .int 0, .int 0], .tup [.tup [.int 2]]], .tup [.tup [.int 0, .int 0], .tup []], .tup [.tup [.int 1, .int 0, .int 0], .tup [.tup [.int 2]]]] h = some (.ref v, h1) := l4
    generalize the4.map mk43 = LL at *
    simp only [q_itS, q_c, q_cons, q_nil, q_k, er_int, er_tup, Bool.false_eq_true, if_false, q_bok, q_vo, ga, gb, gc, gd, l5, s]) g4 ?_
  refine for_ix mk43 the4 (fun i ρ h2 => Ap (lckL [v] h1) h2 ∧ ∃ x9 x10, ρ = [some (.flst (ns.map Sx.D.int)), some (.ref w), x2, x3, x4, x5, x6, x7, x8, x9, x10]) ?_ ?_ ⟨.refl, _, _, rfl⟩
  · rintro i p ρ h2 hp ⟨ap, x9, x10, rfl⟩
    have hm := List.mem_of_getElem? hp
    obtain ⟨b, ds⟩ := p
    refine ⟨[some (.flst (ns.map Sx.D.int)), some (.ref w), x2, x3, x4, x5, x6, x7, x8, some (iT b), some (.tup (dsD ds))], id rfl, ?_⟩
    obtain ⟨h3, e3, ap3⟩ := four_w (ns := ns) (w := w) (x2 := x2) (x3 := x3) (x4 := x4) (x5 := x5) (x6 := x6) (x7 := x7) (x8 := x8) (h := h2) hm
    exact wS.of (f := .nx) e3 ⟨ap.trans ap3, _, _, rfl⟩
  · rintro ρ h2 ⟨ap, x9, x10, rfl⟩
    have kd : Kd v h1 (h2.set v (false, .lst (the4.map mk43))) := (Kd.of (n := v) ap).unlock g4
    refine ⟨rfl, ?_, _, _, rfl⟩
    obtain ⟨b0, m0, gs, p0, p1⟩ := st2.src
    have a1 := kd.keep n (by have := st2.src.lt; omega) (by omega)
    have a2 := kd.keep w (by have := st2.src.lt; omega) (by omega)
    exact ⟨⟨b0, m0, by rw [a1]; exact gs, p0, p1⟩, by rw [a2]; exact st2.tab_, st2.lt⟩

end Gk

set_option Elab.async false
set_option linter.all false
set_option maxRecDepth 100000
namespace Gk
open PySem Sx
theorem law_true : ∀ ns : List Int, ns.length ≤ 63 → ∃ h', m_law [.flst (ns.map Sx.D.int)] [] = .ok (.bl true) h' := by
  intro ns hl
  suffices w : wE (m_law [.flst (ns.map Sx.D.int)] []) fun r _ => r = .bl true by
    obtain ⟨_, h', e, rfl⟩ := w.eq
    exact ⟨h', e⟩
  have sz : (2000 : Nat) < sizeLine := by decide
  unfold m_law
  refine wE_run rfl ?_
  unfold b_law
  obtain ⟨h0, w, e0, ap0, w0, g0⟩ := nums_w (h := [])
  have wl0 := (List.getElem?_eq_some_iff.mp g0).1
  refine wS_step (ρ' := [some (.flst (ns.map Sx.D.int)), some (.ref w), none, none, none, none, none, none, none, none, none]) (h' := h0) (by simp [q_bok, q_bxn, q_ofok, q_ofxn, q_vo, q_var, q_k, q_c1, q_c2, q_nil, q_cons, q_c, q_call, q_callK, pick, q_b, q_tru, q_not, q_and, q_or, q_ifE, q_andV, q_orV, q_notV, q_chain, q_seq, q_tnx, q_trt, q_txn, q_tbk, q_tct, q_skip, q_drop, q_ret, q_retN, q_bk, q_ct, q_set, q_par, q_par3, q_if, q_raise, q_mt, q_mt0, q_end0, q_endr, q_endx, q_lt, q_le, q_gt, q_ge, q_sub, q_add, q_neg, q_inti, q_intb, q_max, q_min, q_lenT, q_lenF, q_truT, q_truF, q_truB, q_truI, q_ixT, q_ixF, at_0, at_1, er_int, er_bl, er_str, er_non, er_tup, er_flst, er_ref, er_obj, er_ty, er_gl, q_lst, q_tup, q_cutT, q_pn, q_ps, q_slT, q_itS, seqL_t, sz_0, sz_1, sz_2, sz_3, sz_4, sz_5, sz_6, sz_7, sz_8, sz_9, sz_10, sz_11, sz_12, sz_13, sz_14, e0]) ?_
  obtain ⟨k, hk, ek⟩ : ∃ k : Nat, k ≤ 2 ∧ cC gMax (cCons (cK (.int 1)) (cCons (cC gMin (cCons (cC gLen (cCons (cVar 0) cNil)) (cCons (cK (.int 2)) cNil))) cNil)) [some (.flst (ns.map Sx.D.int)), some (.ref w), none, none, none, none, none, none, none, none, none] h0 = .ok (.int (k : Nat)) h0 := by
    refine ⟨max 1 (min ns.length 2), by omega, ?_⟩
    simp [q_bok, q_bxn, q_ofok, q_ofxn, q_vo, q_var, q_k, q_c1, q_c2, q_nil, q_cons, q_c, q_call, q_callK, pick, q_b, q_tru, q_not, q_and, q_or, q_ifE, q_andV, q_orV, q_notV, q_chain, q_seq, q_tnx, q_trt, q_txn, q_tbk, q_tct, q_skip, q_drop, q_ret, q_retN, q_bk, q_ct, q_set, q_par, q_par3, q_if, q_raise, q_mt, q_mt0, q_end0, q_endr, q_endx, q_lt, q_le, q_gt, q_ge, q_sub, q_add, q_neg, q_inti, q_intb, q_max, q_min, q_lenT, q_lenF, q_truT, q_truF, q_truB, q_truI, q_ixT, q_ixF, at_0, at_1, er_int, er_bl, er_str, er_non, er_tup, er_flst, er_ref, er_obj, er_ty, er_gl, q_lst, q_tup, q_cutT, q_pn, q_ps, q_slT, q_itS, seqL_t, sz_0, sz_1, sz_2, sz_3, sz_4, sz_5, sz_6, sz_7, sz_8, sz_9, sz_10, sz_11, sz_12, sz_13, sz_14]
    split <;> split <;> omega
  refine wS_loop ?_
  rw [q_for (l := (List.range k).map fun (i : Nat) => .int (i : Int)) (h1 := h0) (q_itR1 (n := k) ek (by omega))]
  refine for_ix (fun (i : Nat) => D.int (i : Int)) (List.range k) (fun i ρ h => (w < h.length ∧ h[w]? = some (false, .lst (iL (tab 11)))) ∧ ∃ x2 x3 x4 x5 x6 x7 x8 x9 x10, ρ = [some (.flst (ns.map Sx.D.int)), some (.ref w), x2, x3, x4, x5, x6, x7, x8, x9, x10]) ?_ ?_ ⟨⟨wl0, g0⟩, _, _, _, _, _, _, _, _, _, rfl⟩
  · rintro i0 i ρ h1 hi ⟨⟨wl, g1⟩, x2, x3, x4, x5, x6, x7, x8, x9, x10, rfl⟩
    obtain ⟨rfl, ik⟩ := range_at hi
    refine ⟨_, asg_nm, ?_⟩
    obtain ⟨b0, m0, e2, p0, p1⟩ := pool_new (ns := ns) (k := i) (h := h1) (by omega)
    have St2 : StN h1.length w (h1 ++ [(false, .lst [.int b0, .int m0])]) := ⟨⟨b0, m0, get_new, p0, p1⟩, (Ap.new _).get g1, wl⟩
    show wS (cSeq (cSet 3 _) _ [some (.flst (ns.map Sx.D.int)), some (.ref w), some (.int (i : Nat)), x3, x4, x5, x6, x7, x8, x9, x10] h1) _
    generalize h1.length = n at *
    generalize h1 ++ [(false, O.lst [.int b0, .int m0])] = h2 at *
    generalize ((i : Nat) : Int) = I at *
    refine wS_step (ρ' := [some (.flst (ns.map Sx.D.int)), some (.ref w), some (.int I), some (.ref n), x4, x5, x6, x7, x8, x9, x10]) (h' := h2) (by simp [q_bok, q_bxn, q_ofok, q_ofxn, q_vo, q_var, q_k, q_c1, q_c2, q_nil, q_cons, q_c, q_call, q_callK, pick, q_b, q_tru, q_not, q_and, q_or, q_ifE, q_andV, q_orV, q_notV, q_chain, q_seq, q_tnx, q_trt, q_txn, q_tbk, q_tct, q_skip, q_drop, q_ret, q_retN, q_bk, q_ct, q_set, q_par, q_par3, q_if, q_raise, q_mt, q_mt0, q_end0, q_endr, q_endx, q_lt, q_le, q_gt, q_ge, q_sub, q_add, q_neg, q_inti, q_intb, q_max, q_min, q_lenT, q_lenF, q_truT, q_truF, q_truB, q_truI, q_ixT, q_ixF, at_0, at_1, er_int, er_bl, er_str, er_non, er_tup, er_flst, er_ref, er_obj, er_ty, er_gl, q_lst, q_tup, q_cutT, q_pn, q_ps, q_slT, q_itS, seqL_t, sz_0, sz_1, sz_2, sz_3, sz_4, sz_5, sz_6, sz_7, sz_8, sz_9, sz_10, sz_11, sz_12, sz_13, sz_14, e2]) ?_
    obtain ⟨A, h3, l3, e3, hA, go3⟩ := one_lst43 (L := [4, 1, 2, 3, 5, 6, 5]) St2.src (by decide) (by decide)
    have l3 : gLstD [.int 4, .int 1, .int 2, .int 3, .int 5, .int 6, .int 5] h2 = _ := l3
    obtain ⟨a, rfl, a1, a6⟩ : ∃ a : Nat, A = (a : Int) ∧ 1 ≤ a ∧ a ≤ 6 := by
      simp only [List.mem_cons, List.not_mem_nil, or_false] at hA
      exact ⟨A.toNat, by omega, by omega, by omega⟩
    have St3 := St2.go go3
    obtain ⟨h4, e4, ap4⟩ := listed_ok (h := h3) a1 a6
    have St4 := St3.ap ap4
    generalize h2 ++ [(false, O.lst (iL [4, 1, 2, 3, 5, 6, 5]))] = h2' at *
    generalize h2.length = w2 at *
    refine wS_step (ρ' := [some (.flst (ns.map Sx.D.int)), some (.ref w), some (.int I), some (.ref n), x4, x5, x6, x7, x8, x9, x10]) (h' := h4) (by
      generalize ((a : Nat) : Int) = AA at *
      simp [q_bok, q_bxn, q_ofok, q_ofxn, q_vo, q_var, q_k, q_c1, q_c2, q_nil, q_cons, q_c, q_call, q_callK, pick, q_b, q_tru, q_not, q_and, q_or, q_ifE, q_andV, q_orV, q_notV, q_chain, q_seq, q_tnx, q_trt, q_txn, q_tbk, q_tct, q_skip, q_drop, q_ret, q_retN, q_bk, q_ct, q_set, q_par, q_par3, q_if, q_raise, q_mt, q_mt0, q_end0, q_endr, q_endx, q_lt, q_le, q_gt, q_ge, q_sub, q_add, q_neg, q_inti, q_intb, q_max, q_min, q_lenT, q_lenF, q_truT, q_truF, q_truB, q_truI, q_ixT, q_ixF, at_0, at_1, er_int, er_bl, er_str, er_non, er_tup, er_flst, er_ref, er_obj, er_ty, er_gl, q_tup, q_cutT, q_pn, q_ps, q_slT, q_itS, seqL_t, sz_0, sz_1, sz_2, sz_3, sz_4, sz_5, sz_6, sz_7, sz_8, sz_9, sz_10, sz_11, sz_12, sz_13, sz_14, l3, e3, e4]) ?_
    obtain ⟨NN, h5, l5, e5, hN, go5⟩ := one_lst43 (L := [7, 8, 9, 10, 11, 12, 12]) St4.src (by decide) (by decide)
    have l5 : gLstD [.int 7, .int 8, .int 9, .int 10, .int 11, .int 12, .int 12] h4 = _ := l5
    obtain ⟨N, rfl, N1, N12⟩ : ∃ a : Nat, NN = (a : Int) ∧ 7 ≤ a ∧ a ≤ 12 := by
      simp only [List.mem_cons, List.not_mem_nil, or_false] at hN
      exact ⟨NN.toNat, by omega, by omega, by omega⟩
    have St5 := St4.go go5
    generalize h4 ++ [(false, O.lst (iL [7, 8, 9, 10, 11, 12, 12]))] = h4' at *
    generalize h4.length = w4 at *
    refine wS_step (ρ' := [some (.flst (ns.map Sx.D.int)), some (.ref w), some (.int I), some (.ref n), some (.int (N : Nat)), x5, x6, x7, x8, x9, x10]) (h' := h5) (by
      generalize ((N : Nat) : Int) = AA at *
      simp [q_bok, q_bxn, q_ofok, q_ofxn, q_vo, q_var, q_k, q_c1, q_c2, q_nil, q_cons, q_c, q_call, q_callK, pick, q_b, q_tru, q_not, q_and, q_or, q_ifE, q_andV, q_orV, q_notV, q_chain, q_seq, q_tnx, q_trt, q_txn, q_tbk, q_tct, q_skip, q_drop, q_ret, q_retN, q_bk, q_ct, q_set, q_par, q_par3, q_if, q_raise, q_mt, q_mt0, q_end0, q_endr, q_endx, q_lt, q_le, q_gt, q_ge, q_sub, q_add, q_neg, q_inti, q_intb, q_max, q_min, q_lenT, q_lenF, q_truT, q_truF, q_truB, q_truI, q_ixT, q_ixF, at_0, at_1, er_int, er_bl, er_str, er_non, er_tup, er_flst, er_ref, er_obj, er_ty, er_gl, q_tup, q_cutT, q_pn, q_ps, q_slT, q_itS, seqL_t, sz_0, sz_1, sz_2, sz_3, sz_4, sz_5, sz_6, sz_7, sz_8, sz_9, sz_10, sz_11, sz_12, sz_13, sz_14, l5, e5]) ?_
    have ixN : ∀ {h : Hc}, h[w]? = some (false, .lst (iL (tab 11))) → gIx (.ref w) (.int (N : Nat)) h = some (.int (cN N), h) := fun {h} g => by
      rw [q_ixR g, at_nat (tab_at (n := 11) (i := N) (by omega) (by omega))]
    obtain ⟨t1, t2⟩ := cN_top N (by omega) N1
    obtain ⟨at_, h6, e6, at0, at1, go6⟩ := take_go (top := cN N - 1) St5.src (by omega) (by omega)
    have St6 := St5.go go6
    have ix5 := ixN St5.tab_
    refine wS_step (ρ' := [some (.flst (ns.map Sx.D.int)), some (.ref w), some (.int I), some (.ref n), some (.int (N : Nat)), some (.int at_), x6, x7, x8, x9, x10]) (h' := h6) (by
      generalize cN N = CN at *
      generalize ((N : Nat) : Int) = AA at *
      simp [q_bok, q_bxn, q_ofok, q_ofxn, q_vo, q_var, q_k, q_c1, q_c2, q_nil, q_cons, q_c, q_call, q_callK, pick, q_b, q_tru, q_not, q_and, q_or, q_ifE, q_andV, q_orV, q_notV, q_chain, q_seq, q_tnx, q_trt, q_txn, q_tbk, q_tct, q_skip, q_drop, q_ret, q_retN, q_bk, q_ct, q_set, q_par, q_par3, q_if, q_raise, q_mt, q_mt0, q_end0, q_endr, q_endx, q_lt, q_le, q_gt, q_ge, q_sub, q_add, q_neg, q_inti, q_intb, q_max, q_min, q_lenT, q_lenF, q_truT, q_truF, q_truB, q_truI, q_ixT, q_ixF, at_0, at_1, er_int, er_bl, er_str, er_non, er_tup, er_flst, er_ref, er_obj, er_ty, er_gl, q_lst, q_tup, q_cutT, q_pn, q_ps, q_slT, q_itS, seqL_t, sz_0, sz_1, sz_2, sz_3, sz_4, sz_5, sz_6, sz_7, sz_8, sz_9, sz_10, sz_11, sz_12, sz_13, sz_14, ix5, e6]) ?_
    obtain ⟨h7, e7, ap7⟩ := told_nw (k := N) (i := at_) (h := h6) (by omega) N12 at0 (by omega)
    obtain ⟨h8, e8, ap8⟩ := told_nw (k := N) (i := at_ + 1) (h := h7) (by omega) N12 (by omega) (by omega)
    obtain ⟨v1, _, lt1⟩ := nth_main 12 N at_ N12 (by omega) (by omega) at0 (by omega)
    have lt1 := lt1 (by omega)
    have St8 := (St6.ap ap7).ap ap8
    have c1 := dayv_cal (by omega) (by omega) v1
    obtain ⟨h9, e9, ap9⟩ := told_cw (k := N) (i := 0) (h := h8) (by omega) N12
    have St9 := St8.ap ap9
    have ix9 := ixN St9.tab_
    have isn := isnum43 (a := cN N) (b := cN N) (h := h9)
    rw [decide_eq_true rfl] at isn
    have ge := q_geRows (h := h9) lt1
    have zz := zeros43 (k := N) (h := h9) (by omega)
    have qz : gNe (iT (List.replicate N 0)) (iT (List.replicate N 0)) h9 = some (.bl false, h9) := q_neS (pu_iT _ _)
    have fb1 : ∀ h : Hc, gFld cal "born" (calD (List.replicate N 0) (nthP 12 N at_)) h = some (iT (List.replicate N 0), h) := fun h => fld_b
    have fd1 : ∀ h : Hc, gFld cal "days" (calD (List.replicate N 0) (nthP 12 N at_)) h = some (.tup (dsD (nthP 12 N at_)), h) := fun h => fld_d
    have fb2 : ∀ h : Hc, gFld cal "born" (calD (List.replicate N 0) (nthP 12 N (at_ + 1))) h = some (iT (List.replicate N 0), h) := fun h => fld_b
    have fd2 : ∀ h : Hc, gFld cal "days" (calD (List.replicate N 0) (nthP 12 N (at_ + 1))) h = some (.tup (dsD (nthP 12 N (at_ + 1))), h) := fun h => fld_d
    obtain ⟨r10, h10, e10, rfl, ap10⟩ := (made_ok (h := h9) c1).eq
    have ap10 : Ap h9 h10 := ap10
    obtain ⟨h11, e11, ap11⟩ := told_rw (k := N) (i := at_) (j := 0) (h := h10) (by omega) N12 at0 (by omega)
    obtain ⟨h12, e12, ap12⟩ := told_rw (k := N) (i := at_ + 1) (j := 0) (h := h11) (by omega) N12 (by omega) (by omega)
    have is11 := isnum43 (a := at_) (b := at_) (h := h11)
    rw [decide_eq_true rfl] at is11
    have is12 := isnum43 (a := at_ + 1) (b := at_ + 1) (h := h12)
    rw [decide_eq_true rfl] at is12
    have St12 := ((St9.ap ap10).ap ap11).ap ap12
    obtain ⟨z, h13, l13, e13, hz, go13⟩ := one_lst43 (L := [0, 13, -1 - at_]) St12.src (by simp) (by simp)
    have l13 : gLstD [.int 0, .int 13, .int (-1 - at_)] h12 = _ := l13
    have zb : ¬ (1 ≤ z ∧ z ≤ 12) := by
      simp only [List.mem_cons, List.not_mem_nil, or_false] at hz
      omega
    have St13 := St12.go go13
    have er1 : (calD (List.replicate N 0) (nthP 12 N at_)).isErr = false := rfl
    have er2 : (calD (List.replicate N 0) (nthP 12 N (at_ + 1))).isErr = false := rfl
    have er3 : (iT (List.replicate N 0)).isErr = false := rfl
    generalize h12 ++ [(false, O.lst (iL [0, 13, -1 - at_]))] = h12' at *
    generalize h12.length = w12 at *
    have tx1 := told_cx (i := 0) (h := h13) zb
    have tx2 := told_nx (i := -1) (h := h13) zb
    have gt2 : gTupD [.str "size", .int z] h13 = some (.tup [.str "size", .int z], h13) := id rfl
    have qn : gNe (.tup [.str "size", .int z]) (.tup [.str "size", .int z]) h13 = some (.bl false, h13) := q_neS (pu_cnt43 _ _ (by decide +kernel))
    generalize calD (List.replicate N 0) (nthP 12 N at_) = C1 at *
    generalize calD (List.replicate N 0) (nthP 12 N (at_ + 1)) = C2 at *
    generalize iT (List.replicate N 0) = ZZ at *
    generalize dsD (nthP 12 N at_) = D1 at *
    generalize dsD (nthP 12 N (at_ + 1)) = D2 at *
    generalize cN N = CN at *
    generalize ((N : Nat) : Int) = AA at *
    refine wS_step (ρ' := [some (.flst (ns.map Sx.D.int)), some (.ref w), some (.int I), some (.ref n), some (.int AA), some (.int at_), some C1, some C2, x8, x9, x10]) (h' := h8) (by
      simp [q_bok, q_bxn, q_ofok, q_ofxn, q_vo, q_var, q_k, q_c1, q_c2, q_nil, q_cons, q_c, q_call, q_callK, pick, q_b, q_tru, q_not, q_and, q_or, q_ifE, q_andV, q_orV, q_notV, q_chain, q_seq, q_tnx, q_trt, q_txn, q_tbk, q_tct, q_skip, q_drop, q_ret, q_retN, q_bk, q_ct, q_set, q_par, q_par3, q_if, q_raise, q_mt, q_mt0, q_end0, q_endr, q_endx, q_lt, q_le, q_gt, q_ge, q_sub, q_add, q_neg, q_inti, q_intb, q_max, q_min, q_lenT, q_lenF, q_truT, q_truF, q_truB, q_truI, q_ixT, q_ixF, at_0, at_1, er_int, er_bl, er_str, er_non, er_tup, er_flst, er_ref, er_obj, er_ty, er_gl, q_lst, q_tup, q_cutT, q_pn, q_ps, q_slT, q_itS, seqL_t, sz_0, sz_1, sz_2, sz_3, sz_4, sz_5, sz_6, sz_7, sz_8, sz_9, sz_10, sz_11, sz_12, sz_13, sz_14, e7, e8, er1, er2]) ?_
    refine wS_step (ρ' := [some (.flst (ns.map Sx.D.int)), some (.ref w), some (.int I), some (.ref n), some (.int AA), some (.int at_), some C1, some C2, x8, x9, x10]) (h' := h9) (by
      simp [q_bok, q_bxn, q_ofok, q_ofxn, q_vo, q_var, q_k, q_c1, q_c2, q_nil, q_cons, q_c, q_call, q_callK, pick, q_b, q_tru, q_not, q_and, q_or, q_ifE, q_andV, q_orV, q_notV, q_chain, q_seq, q_tnx, q_trt, q_txn, q_tbk, q_tct, q_skip, q_drop, q_ret, q_retN, q_bk, q_ct, q_set, q_par, q_par3, q_if, q_raise, q_mt, q_mt0, q_end0, q_endr, q_endx, q_lt, q_le, q_gt, q_ge, q_sub, q_add, q_neg, q_inti, q_intb, q_max, q_min, q_lenT, q_lenF, q_truT, q_truF, q_truB, q_truI, q_ixT, q_ixF, at_0, at_1, er_int, er_bl, er_str, er_non, er_tup, er_flst, er_ref, er_obj, er_ty, er_gl, q_lst, q_tup, q_cutT, q_pn, q_ps, q_slT, q_itS, seqL_t, sz_0, sz_1, sz_2, sz_3, sz_4, sz_5, sz_6, sz_7, sz_8, sz_9, sz_10, sz_11, sz_12, sz_13, sz_14, e9, ix9, isn, er1, er2, er3, fb2, fd1, fd2, ge, zz, qz]) ?_
    refine wS_step (ρ' := [some (.flst (ns.map Sx.D.int)), some (.ref w), some (.int I), some (.ref n), some (.int AA), some (.int at_), some C1, some C2, x8, x9, x10]) (h' := h11) (by
      simp [q_bok, q_bxn, q_ofok, q_ofxn, q_vo, q_var, q_k, q_c1, q_c2, q_nil, q_cons, q_c, q_call, q_callK, pick, q_b, q_tru, q_not, q_and, q_or, q_ifE, q_andV, q_orV, q_notV, q_chain, q_seq, q_tnx, q_trt, q_txn, q_tbk, q_tct, q_skip, q_drop, q_ret, q_retN, q_bk, q_ct, q_set, q_par, q_par3, q_if, q_raise, q_mt, q_mt0, q_end0, q_endr, q_endx, q_lt, q_le, q_gt, q_ge, q_sub, q_add, q_neg, q_inti, q_intb, q_max, q_min, q_lenT, q_lenF, q_truT, q_truF, q_truB, q_truI, q_ixT, q_ixF, at_0, at_1, er_int, er_bl, er_str, er_non, er_tup, er_flst, er_ref, er_obj, er_ty, er_gl, q_lst, q_tup, q_cutT, q_pn, q_ps, q_slT, q_itS, seqL_t, sz_0, sz_1, sz_2, sz_3, sz_4, sz_5, sz_6, sz_7, sz_8, sz_9, sz_10, sz_11, sz_12, sz_13, sz_14, er1, er2, er3, fb1, fd1, e10, e11, is11]) ?_
    refine wS_step (ρ' := [some (.flst (ns.map Sx.D.int)), some (.ref w), some (.int I), some (.ref n), some (.int AA), some (.int at_), some C1, some C2, x8, x9, x10]) (h' := h12) (by
      simp [q_bok, q_bxn, q_ofok, q_ofxn, q_vo, q_var, q_k, q_c1, q_c2, q_nil, q_cons, q_c, q_call, q_callK, pick, q_b, q_tru, q_not, q_and, q_or, q_ifE, q_andV, q_orV, q_notV, q_chain, q_seq, q_tnx, q_trt, q_txn, q_tbk, q_tct, q_skip, q_drop, q_ret, q_retN, q_bk, q_ct, q_set, q_par, q_par3, q_if, q_raise, q_mt, q_mt0, q_end0, q_endr, q_endx, q_lt, q_le, q_gt, q_ge, q_sub, q_add, q_neg, q_inti, q_intb, q_max, q_min, q_lenT, q_lenF, q_truT, q_truF, q_truB, q_truI, q_ixT, q_ixF, at_0, at_1, er_int, er_bl, er_str, er_non, er_tup, er_flst, er_ref, er_obj, er_ty, er_gl, q_lst, q_tup, q_cutT, q_pn, q_ps, q_slT, q_itS, seqL_t, sz_0, sz_1, sz_2, sz_3, sz_4, sz_5, sz_6, sz_7, sz_8, sz_9, sz_10, sz_11, sz_12, sz_13, sz_14, er1, er2, e12, is12]) ?_
    refine wS_step (ρ' := [some (.flst (ns.map Sx.D.int)), some (.ref w), some (.int I), some (.ref n), some (.int AA), some (.int at_), some C1, some C2, some (.int z), x9, x10]) (h' := h13) (by
      simp [q_bok, q_bxn, q_ofok, q_ofxn, q_vo, q_var, q_k, q_c1, q_c2, q_nil, q_cons, q_c, q_call, q_callK, pick, q_b, q_tru, q_not, q_and, q_or, q_ifE, q_andV, q_orV, q_notV, q_chain, q_seq, q_tnx, q_trt, q_txn, q_tbk, q_tct, q_skip, q_drop, q_ret, q_retN, q_bk, q_ct, q_set, q_par, q_par3, q_if, q_raise, q_mt, q_mt0, q_end0, q_endr, q_endx, q_lt, q_le, q_gt, q_ge, q_sub, q_add, q_neg, q_inti, q_intb, q_max, q_min, q_lenT, q_lenF, q_truT, q_truF, q_truB, q_truI, q_ixT, q_ixF, at_0, at_1, er_int, er_bl, er_str, er_non, er_tup, er_flst, er_ref, er_obj, er_ty, er_gl, q_tup, q_cutT, q_pn, q_ps, q_slT, q_itS, seqL_t, sz_0, sz_1, sz_2, sz_3, sz_4, sz_5, sz_6, sz_7, sz_8, sz_9, sz_10, sz_11, sz_12, sz_13, sz_14, l13, e13]) ?_
    refine wS_step (ρ' := [some (.flst (ns.map Sx.D.int)), some (.ref w), some (.int I), some (.ref n), some (.int AA), some (.int at_), some C1, some C2, some (.int z), x9, x10]) (h' := h13) (by
      simp [q_bok, q_bxn, q_ofok, q_ofxn, q_vo, q_var, q_k, q_c1, q_c2, q_nil, q_cons, q_c, q_call, q_callK, pick, q_b, q_tru, q_not, q_and, q_or, q_ifE, q_andV, q_orV, q_notV, q_chain, q_seq, q_tnx, q_trt, q_txn, q_tbk, q_tct, q_skip, q_drop, q_ret, q_retN, q_bk, q_ct, q_set, q_par, q_par3, q_if, q_raise, q_mt, q_mt0, q_end0, q_endr, q_endx, q_lt, q_le, q_gt, q_ge, q_sub, q_add, q_neg, q_inti, q_intb, q_max, q_min, q_lenT, q_lenF, q_truT, q_truF, q_truB, q_truI, q_ixT, q_ixF, at_0, at_1, er_int, er_bl, er_str, er_non, er_tup, er_flst, er_ref, er_obj, er_ty, er_gl, q_lst, q_tup, q_cutT, q_pn, q_ps, q_slT, q_itS, seqL_t, sz_0, sz_1, sz_2, sz_3, sz_4, sz_5, sz_6, sz_7, sz_8, sz_9, sz_10, sz_11, sz_12, sz_13, sz_14, tx1, tx2, gt2, qn]) ?_
    refine (tail_w (ns := ns) (x2 := some (.int I)) (x3 := some (.ref n)) (x4 := some (.int AA)) (x5 := some (.int at_)) (x6 := some C1) (x7 := some C2) (x8 := some (.int z)) (x9 := x9) (x10 := x10) St13).mono fun f ρ h q => ?_
    obtain ⟨rfl, St, y9, y10, rfl⟩ := q
    exact ⟨⟨(List.getElem?_eq_some_iff.mp St.tab_).1, St.tab_⟩, _, _, _, _, _, _, _, _, _, rfl⟩
  · rintro ρ h ⟨_, x2, x3, x4, x5, x6, x7, x8, x9, x10, rfl⟩
    exact wS_ret (d := .bl true) rfl rfl

end Gk

open PySem PySem.W PyProof.Rows in
set_option maxRecDepth 100000 in
set_option maxHeartbeats 0 in
theorem PySem.Challenge.cw_datedlines_k43_all_calendars_numbered_holds : PySem.Challenge.rw_datedlines_k43_all_calendars_numbered.Holds := by
  w_on; o_law; k_head; (case hw => w_witness2)
  k_fill
  refine Sx.walkW (l := PySem.Challenge.rw_datedlines_k43_all_calendars_numbered) (n := 63) (k := 84) (x := "_law_script") (m := Gk.m_law) rfl (by decide) rfl ⟨rfl, by decide, by decide⟩ ?hm ?F
  case F =>
    intro w mg fa h Y G hmg
    have KX := PySem.W.kIn_of Y
    refine' Gk.tx_fin KX G hmg (Sx.ft_mk KX G ?f0a ?f0l ?f0c ?f0k (fun _ _ _ _ _ _ us hl => match us, hl with | [_, _], _ => rfl))
      (Sx.ft_mk KX G ?f1a ?f1l ?f1c ?f1k (fun _ _ _ _ _ _ us hl => match us, hl with | [], _ => rfl))
      (Sx.ft_mk KX G ?f2a ?f2l ?f2c ?f2k (fun _ _ _ _ _ _ us hl => match us, hl with | [_, _], _ => rfl))
      (Sx.ft_mk KX G ?f3a ?f3l ?f3c ?f3k (fun _ _ _ _ _ _ us hl => match us, hl with | [_], _ => rfl))
      (Sx.ft_mk KX G ?f4a ?f4l ?f4c ?f4k (fun _ _ _ _ _ _ us hl => match us, hl with | [_, _], _ => rfl))
      (Sx.ft_mk KX G ?f5a ?f5l ?f5c ?f5k (fun _ _ _ _ _ _ us hl => match us, hl with | [_], _ => rfl))
      (Sx.ft_mk KX G ?f6a ?f6l ?f6c ?f6k (fun _ _ _ _ _ _ us hl => match us, hl with | [_], _ => rfl))
      (Sx.ft_mk KX G ?f7a ?f7l ?f7c ?f7k (fun _ _ _ _ _ _ us hl => match us, hl with | [_], _ => rfl))
      (Sx.ft_mk KX G ?f8a ?f8l ?f8c ?f8k (fun _ _ _ _ _ _ us hl => match us, hl with | [_], _ => rfl))
      (Sx.ft_mk KX G ?f9a ?f9l ?f9c ?f9k (fun _ _ _ _ _ _ us hl => match us, hl with | [_], _ => rfl))
      (Sx.ft_mk KX G ?f10a ?f10l ?f10c ?f10k (fun _ _ _ _ _ _ us hl => match us, hl with | [_], _ => rfl))
      (Sx.ft_mk KX G ?f11a ?f11l ?f11c ?f11k (fun _ _ _ _ _ _ us hl => match us, hl with | [_], _ => rfl))
      (Sx.ft_mk KX G ?f12a ?f12l ?f12c ?f12k (fun _ _ _ _ _ _ us hl => match us, hl with | [_], _ => rfl))
      (Sx.ft_mk KX G ?f13a ?f13l ?f13c ?f13k (fun _ _ _ _ _ _ us hl => match us, hl with | [_], _ => rfl))
      (Sx.ft_mk KX G ?f14a ?f14l ?f14c ?f14k (fun _ _ _ _ _ _ us hl => match us, hl with | [_, _], _ => rfl))
      (Sx.ft_mk KX G ?f15a ?f15l ?f15c ?f15k (fun _ _ _ _ _ _ us hl => match us, hl with | [_, _], _ => rfl))
      (Sx.ft_mk KX G ?f16a ?f16l ?f16c ?f16k (fun _ _ _ _ _ _ us hl => match us, hl with | [_, _], _ => rfl))
      (Sx.ft_mk KX G ?f17a ?f17l ?f17c ?f17k (fun _ _ _ _ _ _ us hl => match us, hl with | [_], _ => rfl))
      (Sx.ft_mk KX G ?f18a ?f18l ?f18c ?f18k (fun _ _ _ _ _ _ us hl => match us, hl with | [_], _ => rfl))
      (Sx.ft_mk KX G ?f19a ?f19l ?f19c ?f19k (fun _ _ _ _ _ _ us hl => match us, hl with | [_], _ => rfl))
      (Sx.ft_mk KX G ?f20a ?f20l ?f20c ?f20k (fun _ _ _ _ _ _ us hl => match us, hl with | [_, _, _], _ => rfl))
      (Sx.ft_mk KX G ?f21a ?f21l ?f21c ?f21k (fun _ _ _ _ _ _ us hl => match us, hl with | [_], _ => rfl))
      (Sx.ft_mk KX G ?f22a ?f22l ?f22c ?f22k (fun _ _ _ _ _ _ us hl => match us, hl with | [_, _], _ => rfl))
      (Sx.ft_mk KX G ?f23a ?f23l ?f23c ?f23k (fun _ _ _ _ _ _ us hl => match us, hl with | [_, _], _ => rfl))
      (Sx.ft_mk KX G ?f24a ?f24l ?f24c ?f24k (fun _ _ _ _ _ _ us hl => match us, hl with | [_, _], _ => rfl))
      (Sx.ft_mk KX G ?f25a ?f25l ?f25c ?f25k (fun _ _ _ _ _ _ us hl => match us, hl with | [_], _ => rfl))
      (PySem.W.mg_none_of KX G ?n0a)
      (PySem.W.mg_none_of KX G ?n1a)
      (PySem.W.mg_none_of KX G ?n2a)
      (PySem.W.mg_none_of KX G ?n3a)
      (PySem.W.mg_none_of KX G ?n4a)
      (PySem.W.mg_none_of KX G ?n5a)
      (PySem.W.mg_none_of KX G ?n6a)
      (PySem.W.mg_none_of KX G ?n7a)
      (PySem.W.mg_none_of KX G ?n8a)
      (PySem.W.mg_none_of KX G ?n9a)
      (PySem.W.mg_none_of KX G ?n10a)
      (PySem.W.mg_none_of KX G ?n11a)
      (Sx.con_mk KX G ?c0a)
      (Sx.con_mk KX G ?c1a)
      (Sx.con_mk KX G ?c2a)
      (Sx.con_mk KX G ?c3a)
      (Gk.er_fin KX G (Sx.refk_mk ⟨⟨4, 17, 4, 21⟩, ⟨4, 23, 4, 27⟩, ⟨5, 8, 5, 13⟩, ⟨5, 8, 5, 15⟩, ⟨5, 8, 5, 24⟩, ⟨5, 25, 5, 34⟩, ⟨5, 8, 5, 35⟩, ⟨5, 8, 5, 35⟩, ⟨6, 8, 6, 12⟩, ⟨6, 8, 6, 17⟩, ⟨6, 20, 6, 24⟩, ⟨6, 8, 6, 24⟩, 0, rfl⟩ ?r_a ?r_c ?r_i ?r_l ?r_co ?r_lc ?r_v ?r_fl ?r_ce ?r_s ?r_top ?r_op ?r_tf ?r_be ?r_hd ?r_ty) (Sx.errk_mk ?e0_a ?e0_cls ?e0_sa ?e0_ga ?e0_gg ?e0_noN ?e0_iC ?e0_kC ?e0_tyC) (Sx.errk_mk ?e1_a ?e1_cls ?e1_sa ?e1_ga ?e1_gg ?e1_noN ?e1_iC ?e1_kC ?e1_tyC) (Sx.errk_mk ?e2_a ?e2_cls ?e2_sa ?e2_ga ?e2_gg ?e2_noN ?e2_iC ?e2_kC ?e2_tyC) (Sx.errk_mk ?e3_a ?e3_cls ?e3_sa ?e3_ga ?e3_gg ?e3_noN ?e3_iC ?e3_kC ?e3_tyC) (Sx.errk_mk ?e4_a ?e4_cls ?e4_sa ?e4_ga ?e4_gg ?e4_noN ?e4_iC ?e4_kC ?e4_tyC) (Sx.errk_mk ?e5_a ?e5_cls ?e5_sa ?e5_ga ?e5_gg ?e5_noN ?e5_iC ?e5_kC ?e5_tyC) ?nd )
      (Sx.cal_mk KX G ?qa ?qi ?ql ?qc ?qk ?qmk ?qfn ?qkC ?qpg ?qhd ?qpo ?qsa ?qnb ?qnd (fun _ _ _ _ _ _ us hl => match us, hl with | [_, _, _], _ => rfl))
    (case f0a => k_is)
    (case f0l => k_is)
    (case f0c => k_is)
    (case f0k => k_is)
    (case f1a => k_is)
    (case f1l => k_is)
    (case f1c => k_is)
    (case f1k => k_is)
    (case f2a => k_is)
    (case f2l => k_is)
    (case f2c => k_is)
    (case f2k => k_is)
    (case f3a => k_is)
    (case f3l => k_is)
    (case f3c => k_is)
    (case f3k => k_is)
    (case f4a => k_is)
    (case f4l => k_is)
    (case f4c => k_is)
    (case f4k => k_is)
    (case f5a => k_is)
    (case f5l => k_is)
    (case f5c => k_is)
    (case f5k => k_is)
    (case f6a => k_is)
    (case f6l => k_is)
    (case f6c => k_is)
    (case f6k => k_is)
    (case f7a => k_is)
    (case f7l => k_is)
    (case f7c => k_is)
    (case f7k => k_is)
    (case f8a => k_is)
    (case f8l => k_is)
    (case f8c => k_is)
    (case f8k => k_is)
    (case f9a => k_is)
    (case f9l => k_is)
    (case f9c => k_is)
    (case f9k => k_is)
    (case f10a => k_is)
    (case f10l => k_is)
    (case f10c => k_is)
    (case f10k => k_is)
    (case f11a => k_is)
    (case f11l => k_is)
    (case f11c => k_is)
    (case f11k => k_is)
    (case f12a => k_is)
    (case f12l => k_is)
    (case f12c => k_is)
    (case f12k => k_is)
    (case f13a => k_is)
    (case f13l => k_is)
    (case f13c => k_is)
    (case f13k => k_is)
    (case f14a => k_is)
    (case f14l => k_is)
    (case f14c => k_is)
    (case f14k => k_is)
    (case f15a => k_is)
    (case f15l => k_is)
    (case f15c => k_is)
    (case f15k => k_is)
    (case f16a => k_is)
    (case f16l => k_is)
    (case f16c => k_is)
    (case f16k => k_is)
    (case f17a => k_is)
    (case f17l => k_is)
    (case f17c => k_is)
    (case f17k => k_is)
    (case f18a => k_is)
    (case f18l => k_is)
    (case f18c => k_is)
    (case f18k => k_is)
    (case f19a => k_is)
    (case f19l => k_is)
    (case f19c => k_is)
    (case f19k => k_is)
    (case f20a => k_is)
    (case f20l => k_is)
    (case f20c => k_is)
    (case f20k => k_is)
    (case f21a => k_is)
    (case f21l => k_is)
    (case f21c => k_is)
    (case f21k => k_is)
    (case f22a => k_is)
    (case f22l => k_is)
    (case f22c => k_is)
    (case f22k => k_is)
    (case f23a => k_is)
    (case f23l => k_is)
    (case f23c => k_is)
    (case f23k => k_is)
    (case f24a => k_is)
    (case f24l => k_is)
    (case f24c => k_is)
    (case f24k => k_is)
    (case f25a => k_is)
    (case f25l => k_is)
    (case f25c => k_is)
    (case f25k => k_is)
    (case n0a => k_is)
    (case n1a => k_is)
    (case n2a => k_is)
    (case n3a => k_is)
    (case n4a => k_is)
    (case n5a => k_is)
    (case n6a => k_is)
    (case n7a => k_is)
    (case n8a => k_is)
    (case n9a => k_is)
    (case n10a => k_is)
    (case n11a => k_is)
    (case c0a => k_is)
    (case c1a => k_is)
    (case c2a => k_is)
    (case c3a => k_is)
    (case r_a => k_is)
    (case r_c => k_is)
    (case r_i => k_is)
    (case r_l => k_is)
    (case r_co => k_is)
    (case r_lc => k_is)
    (case r_v => rfl)
    (case r_fl => first | rfl | decide)
    (case r_ce => k_is)
    (case r_s => k_is)
    (case r_top => first | rfl | decide)
    (case r_op => k_is)
    (case r_tf => k_is)
    (case r_be => k_is)
    (case r_hd => k_is)
    (case r_ty => k_is)
    (case e0_a => k_is)
    (case e0_cls => k_is)
    (case e0_sa => k_is)
    (case e0_ga => k_is)
    (case e0_gg => k_is)
    (case e0_noN => k_is)
    (case e0_iC => k_is)
    (case e0_kC => k_is)
    (case e0_tyC => k_is)
    (case e1_a => k_is)
    (case e1_cls => k_is)
    (case e1_sa => k_is)
    (case e1_ga => k_is)
    (case e1_gg => k_is)
    (case e1_noN => k_is)
    (case e1_iC => k_is)
    (case e1_kC => k_is)
    (case e1_tyC => k_is)
    (case e2_a => k_is)
    (case e2_cls => k_is)
    (case e2_sa => k_is)
    (case e2_ga => k_is)
    (case e2_gg => k_is)
    (case e2_noN => k_is)
    (case e2_iC => k_is)
    (case e2_kC => k_is)
    (case e2_tyC => k_is)
    (case e3_a => k_is)
    (case e3_cls => k_is)
    (case e3_sa => k_is)
    (case e3_ga => k_is)
    (case e3_gg => k_is)
    (case e3_noN => k_is)
    (case e3_iC => k_is)
    (case e3_kC => k_is)
    (case e3_tyC => k_is)
    (case e4_a => k_is)
    (case e4_cls => k_is)
    (case e4_sa => k_is)
    (case e4_ga => k_is)
    (case e4_gg => k_is)
    (case e4_noN => k_is)
    (case e4_iC => k_is)
    (case e4_kC => k_is)
    (case e4_tyC => k_is)
    (case e5_a => k_is)
    (case e5_cls => k_is)
    (case e5_sa => k_is)
    (case e5_ga => k_is)
    (case e5_gg => k_is)
    (case e5_noN => k_is)
    (case e5_iC => k_is)
    (case e5_kC => k_is)
    (case e5_tyC => k_is)
    (case nd => decide)
    (case qa => k_is)
    (case qi => k_is)
    (case ql => k_is)
    (case qc => k_is)
    (case qk => k_is)
    (case qmk => k_is)
    (case qfn => k_is)
    (case qkC => k_is)
    (case qpg => k_is)
    (case qhd => k_is)
    (case qpo => k_is)
    (case qsa => k_is)
    (case qnb => k_is)
    (case qnd => k_is)
  case hm => exact Gk.law_true

