import PyProof.Rows.All
import Wide.All
import OpenK.AllK
import Wide.FinOn
import HandS.ForMost
import HandS.ExcField
import HandS.Lambda
import HandS.Iter
import KE.KDictWalk
import KE.KDictKeyed
import KE.KeyNested
import HandS.Exc
import HandS.ExcOwn
import HandS.TryOnly
import HandS.WordsExc
import HandS.Wide
import HandS.TupAny
import HandS.TupMul
import HandS.IsInst
import HandS.SortInts
import HandS.Deep
import HandS.Walk
import HandS.Defaults
import KE.KExcSuper
import KE.KSuper
import HandS.TryMany
import KE.GoesMore
import KE.GoesEnum
import HandS.Zip
import PyProof.SeqIndex
import HandS.More
import HandS.Style
import HandS.HeadEnd
import HandS.ExcIs
import HandS.Gcd
import HandS.RaiseMore
import HandS.Dict
import KE.SortData
import KE.KRevSl
import HandS.FStrTup
import PyProof.ReprRoads
import PyProof.FitsInt
import HandS.EndTab
import KE.KNestM
import HandS.Small
import KE.KExcIs
import HandS.SetFor
import HandS.Strs
import HandS.DictComp
import KE.KUnpack
import KE.KMathGC
import HandS.Conv
import KE.KDictCopyH
import KE.KDictSum
import KE.SortCalls
import KE.KDictDisplayH
import HandS.Zip0
import PyProof.ZipIter
import HandS.OwnEq
import KE.KDictPairs
import HandS.TupLen
import KE.DataCmp
import HandS.TupSets
import PySem.Challenge.RW_datedlines_k04_told_lines_listed
set_option Elab.async false
set_option linter.all false
set_option maxRecDepth 100000
namespace Sx
open PySem PySem.Spec PyProof.Rows L2

inductive D where
  | non | bl (b : Bool) | int (i : Int) | str (x : Str) | tup (ds : List D) | ref (n : Nat)
  | flst (ds : List D) | obj (c : Str) (ns : List Str) (ds : List D) | ty (n : String) | gl (x : Str)
  /-- an own error that an except suite holds (only in a slot) -/
  | err (c : Str) (x : D)
  /-- a lambda without parameters: its function object, its code object of the name q, the values that it keeps -/
  | clo (f c : Addr) (q : Str) (vs : List V) (ds : List D)
mutual
def D.beq : D → D → Bool
  | .non, .non => true
  | .bl a, .bl b => a == b
  | .int a, .int b => decide (a = b)
  | .str a, .str b => decide (a = b)
  | .tup a, .tup b => D.beqs a b
  | .ref a, .ref b => Nat.beq a b
  | .flst a, .flst b => D.beqs a b
  | .obj c ns a, .obj d ms b => decide (c = d) && decide (ns = ms) && D.beqs a b
  | .ty a, .ty b => decide (a = b)
  | .gl a, .gl b => decide (a = b)
  | .err a x, .err b y => decide (a = b) && D.beq x y
  | .clo f c q vs a, .clo g e r ws b => decide (f = g) && decide (c = e) && decide (q = r) && decide (vs = ws) && D.beqs a b
  | _, _ => false
def D.beqs : List D → List D → Bool
  | [], [] => true
  | a :: r, b :: s => D.beq a b && D.beqs r s
  | _, _ => false
end
mutual
theorem D.beq_eq : ∀ (a b : D), D.beq a b = true → a = b
  | .non, b, h => by cases b <;> simp_all [D.beq]
  | .bl a, b, h => by cases b <;> simp_all [D.beq]
  | .int a, b, h => by cases b <;> simp_all [D.beq]
  | .str a, b, h => by cases b <;> simp_all [D.beq]
  | .tup a, b, h => by
      cases b <;> simp [D.beq] at h
      rw [D.beqs_eq a _ h]
  | .ref a, b, h => by cases b <;> simp_all [D.beq]
  | .flst a, b, h => by
      cases b <;> simp [D.beq] at h
      rw [D.beqs_eq a _ h]
  | .obj c ns a, b, h => by
      cases b <;> simp [D.beq] at h
      rw [D.beqs_eq a _ h.2, h.1.1, h.1.2]
  | .ty a, b, h => by cases b <;> simp_all [D.beq]
  | .gl a, b, h => by cases b <;> simp_all [D.beq]
  | .err a x, b, h => by
      cases b <;> simp [D.beq] at h
      rw [D.beq_eq x _ h.2, h.1]
  | .clo f c q vs a, b, h => by
      cases b <;> simp [D.beq] at h
      rw [D.beqs_eq a _ h.2, h.1.1.1.1, h.1.1.1.2, h.1.1.2, h.1.2]
theorem D.beqs_eq : ∀ (a b : List D), D.beqs a b = true → a = b
  | [], b, h => by cases b <;> simp_all [D.beqs]
  | x :: r, b, h => by
      cases b <;> simp [D.beqs] at h
      rw [D.beq_eq x _ h.1, D.beqs_eq r _ h.2]
end
mutual
theorem D.beq_refl : ∀ (a : D), D.beq a a = true
  | .non => rfl
  | .bl a => by simp [D.beq]
  | .int a => by simp [D.beq]
  | .str a => by simp [D.beq]
  | .tup a => by simp [D.beq, D.beqs_refl a]
  | .ref a => by simp [D.beq]
  | .flst a => by simp [D.beq, D.beqs_refl a]
  | .obj c ns a => by simp [D.beq, D.beqs_refl a]
  | .ty a => by simp [D.beq]
  | .gl a => by simp [D.beq]
  | .err a x => by simp [D.beq, D.beq_refl x]
  | .clo f c q vs a => by simp [D.beq, D.beqs_refl a]
theorem D.beqs_refl : ∀ (a : List D), D.beqs a a = true
  | [] => rfl
  | x :: r => by simp [D.beqs, D.beq_refl x, D.beqs_refl r]
end
instance : DecidableEq D := fun a b => if h : D.beq a b = true then isTrue (D.beq_eq a b h) else isFalse fun e => h (e ▸ D.beq_refl a)

def D.isErr : D → Bool
  | .err _ _ => true
  | _ => false
inductive O where
  | lst (ds : List D)
  | dic (kvs : List (L2.Key × D))
  /-- the table of code objects of the def y, all named q -/
  | tab (y q : Str)
  /-- a dict by tuples -/
  | dcd (kvs : List (D × D))
  /-- a dict that is never written again -/
  | dif (kvs : List (L2.Key × D))
abbrev Hc := List (Bool × O)

inductive Res (α : Type) where
  | ok (a : α) (h : Hc)
  | exn (c : Str) (x : D) (h : Hc)
  | stuck
inductive Fl where
  | nx | ret (d : D) | bk | ct | exn (c : Str) (x : D)
inductive ResS where
  | ok (f : Fl) (ρ : List (Option D)) (h : Hc)
  | stuck
abbrev Rho := List (Option D)
abbrev CE := Rho → Hc → Res D
abbrev CT := Rho → Hc → Res Bool
abbrev CA := Rho → Hc → Res (List D)
abbrev CS := Rho → Hc → ResS

def Res.bind {α β : Type} (r : Res α) (f : α → Hc → Res β) : Res β := match r with
  | .ok a h => f a h
  | .exn c x h => .exn c x h
  | .stuck => .stuck

structure Wb where
  K : PySem.W.Frag
  mg : Str → Option Value
structure Wd extends Wb where
  ex : Option (Addr × Addr × Addr)
instance : Coe Wd Wb := ⟨Wd.toWb⟩
abbrev wWhat : Str := "what"
def FzL (K : PySem.W.Frag) (H : Hp) (a : Addr) (xs : List V) : Prop :=
  (∃ o, H a = some (.frz o (.lst xs))) ∨
    ∃ (o : Obj) (its : Array Value) (n : Nat), K.lookup a = some o ∧ o.cls = .type "list" ∧ o.dict = none ∧ o.data = .seq its n ∧ its.size ≤ sizeLine ∧ Vals xs its.toList
theorem FzL.seq {K : PySem.W.Frag} {H : Hp} {a : Addr} {xs : List V} (h : FzL K H a xs) : SqL K H a xs := by
  rcases h with h | h
  · exact .inl (.inr h)
  · exact .inr h

def TpL (K : PySem.W.Frag) (H : Hp) (a : Addr) (xs : List V) : Prop :=
  (∃ o : Obj, H a = some (.frz o (.tup xs)) ∧ o.dict = none) ∨
    ∃ (o : Obj) (its : Array Value) (n : Nat), K.lookup a = some o ∧ o.cls = .type "tuple" ∧ o.dict = none ∧ o.data = .seq its n ∧ its.size ≤ sizeLine ∧ Vals xs its.toList
theorem TpL.seq {K : PySem.W.Frag} {H : Hp} {a : Addr} {xs : List V} (h : TpL K H a xs) : SqT K H a xs := by
  rcases h with ⟨o, h, _⟩ | ⟨o, its, n, h1, h2, _, h3⟩
  · exact .inl (.inr ⟨o, h⟩)
  · exact .inr ⟨o, its, n, h1, h2, h3⟩
mutual
def RD (W : Wb) (μ : List Addr) (H : Hp) : D → V → Prop
  | .non, v => v = .non
  | .bl b, v => v = .bl b
  | .int i, v => v = .int i
  | .str x, v => v = .str x
  | .tup ds, v => ∃ a vs, v = .ref a ∧ TpL W.K H a vs ∧ RDs W μ H ds vs
  | .ref n, v => ∃ a, μ[n]? = some a ∧ v = .ref a
  | .flst ds, v => ∃ a vs, v = .ref a ∧ FzL W.K H a vs ∧ RDs W μ H ds vs
  | .obj c ns ds, v => ∃ a C dx vs, v = .ref a ∧ W.mg c = some (.ref C) ∧ H a = some (.ins C dx (ns.zip vs)) ∧ ns.length = ds.length ∧ RDs W μ H ds vs
  | .ty n, v => v = .ty n
  | .gl x, v => ∃ C, W.mg x = some (.ref C) ∧ v = .ref C
  | .err _ _, _ => False
  | .clo f c q vs ds, v => v = .ref f ∧ H c = some (LamX.CodeO c q) ∧ RDs W μ H ds vs
def RDs (W : Wb) (μ : List Addr) (H : Hp) : List D → List V → Prop
  | [], vs => vs = []
  | d :: ds, vs => ∃ v r, vs = v :: r ∧ RD W μ H d v ∧ RDs W μ H ds r
end
mutual
def keyN : D → Option NestedKey
  | .non => some .none
  | .int i => some (.num i)
  | .tup ds => match keyNs ds with
    | some ks => some (.tup ks)
    | none => none
  | _ => none
def keyNs : List D → Option (List NestedKey)
  | [] => some []
  | d :: r => match keyN d with
    | some k => match keyNs r with
      | some ks => some (k :: ks)
      | none => none
    | none => none
end
def keyT : D → Option NestedKey
  | .tup ds => match keyNs ds with
    | some ks => if (NestedKey.tup ks).depth ≤ 8 then some (.tup ks) else none
    | none => none
  | _ => none
def EntR (W : Wb) (μ : List Addr) (H : Hp) (k d : D) (e : DictEntry) : Prop :=
  ∃ (b : Addr) (v : V) (nk : NestedKey), e.key = .ref b ∧ keyT k = some nk ∧ (∀ w : World, e.hash = nk.hash w) ∧ RD W μ H k (.ref b) ∧ RelV v e.val ∧ RD W μ H d v
def EntRs (W : Wb) (μ : List Addr) (H : Hp) : List (D × D) → List DictEntry → Prop
  | [], es => es = []
  | p :: r, es => ∃ e t, es = e :: t ∧ EntR W μ H p.1 p.2 e ∧ EntRs W μ H r t
def theTab (K : PySem.W.Frag) (f : Addr) : Addr := match K.lookup f with
  | some ⟨_, _, .func fd, _⟩ => (match fd.code with
    | .ref c => (match K.lookup c with
      | some ⟨_, _, .fields vs, _⟩ => (match (vs[11]? : Option Value) with
        | some (.ref P) => P
        | _ => 0)
      | _ => 0)
    | _ => 0)
  | _ => 0
def RO (W : Wb) (μ : List Addr) (H : Hp) (a : Addr) : Bool × O → Prop
  | (_, .lst ds) => ∃ vs, H a = some (.lst vs) ∧ RDs W μ H ds vs
  | (f, .dic kvs) => ∃ vs, (H a = some (.dK ((kvs.map (·.1)).zip vs)) ∨ (f = true ∧ ∃ o, H a = some (.frz o (.dK ((kvs.map (·.1)).zip vs))))) ∧ RDs W μ H (kvs.map (·.2)) vs
  | (f, .dif kvs) => f = true ∧ ∃ vs o, H a = some (.frz o (.dK ((kvs.map (·.1)).zip vs))) ∧ RDs W μ H (kvs.map (·.2)) vs
  | (_, .dcd kvs) => (a == sysModules) = false ∧ (kvs.map (·.1)).Nodup ∧ kvs.length ≤ sizeLine ∧ ∃ (es : Array DictEntry) (ep : Nat), H a = some (.ext fun h => h.DictRaw a es ep) ∧ EntRs W μ H kvs es.toList
  | (_, .tab y q) => ∃ ps : Array Value, H a = some (.tbl ps) ∧ (TriplesOk ps.toList ∧ ∃ f, W.mg y = some (.ref f) ∧ a = theTab W.K f) ∧ ∀ (pos : Pos) (cv : Value), codeAmong pos ps.toList = some cv → ∃ c, cv = .ref c ∧ H c = some (LamX.CodeO c q)
def isMut : HO → Bool
  | .lst _ => true
  | .ext _ => true
  | .dK _ => true
  | .dT _ => true
  | .set _ _ => true
  | .tbl _ => true
  | _ => false
structure R (W : Wb) (μ : List Addr) (h : Hc) (H : Hp) : Prop where
  len : μ.length = h.length
  nd : μ.Nodup
  ob : ∀ (n : Nat) (a : Addr) (p : Bool × O), μ[n]? = some a → h[n]? = some p → RO W μ H a p
def RX (W : Wd) (μ : List Addr) (H : Hp) (c : Str) (x : D) (v : V) : Prop := ∃ a C dd u, W.ex = some (a, C, dd) ∧ v = .ref a ∧ W.mg c = some (.ref C) ∧ H dd = some (.xd [(wWhat, u)]) ∧ RD W μ H x u ∧ XfC W.K C ∧ PySem.W.findIn W.K (.ref C) wWhat = some none
def RV (W : Wd) (μ : List Addr) (H : Hp) (d : D) (v : V) : Prop := RD W μ H d v ∨ ∃ c x, d = .err c x ∧ RX W μ H c x v
def RS (W : Wd) (μ : List Addr) (H : Hp) (ρ : Rho) (σ : L2.St) : Prop :=
  ρ.length = σ.length ∧ ∀ (i : Nat) (d : D), ρ[i]? = some (some d) → ∃ v, σ[i]? = some (some v) ∧ RV W μ H d v
def HcExt (h h' : Hc) : Prop := ∀ (n : Nat) (p : Bool × O), h[n]? = some p → ∃ q, h'[n]? = some q ∧ (p.1 = true → q = p)
structure Ext (μ : List Addr) (h : Hc) (H : Hp) (μ' : List Addr) (h' : Hc) (H' : Hp) : Prop where
  pre : ∃ m, μ' = μ ++ m ∧ ∀ a ∈ m, H a = none
  frame : ∀ a o, H a = some o → (∀ (n : Nat) (p : Bool × O), μ[n]? = some a → h[n]? = some p → p.1 = true) → H' a = some o
  dom : ∀ a, H a ≠ none → H' a ≠ none
  hc : HcExt h h'

theorem HcExt.refl (h : Hc) : HcExt h h := fun _ p e => ⟨p, e, fun _ => rfl⟩
theorem HcExt.lk {h h' : Hc} (a : HcExt h h') {n : Nat} {o : O} (e : h[n]? = some (true, o)) : ∃ o', h'[n]? = some (true, o') ∧ (True → o' = o) := by
  obtain ⟨q, e1, e2⟩ := a n _ e
  exact ⟨o, by rw [e1, e2 rfl], fun _ => rfl⟩
theorem HcExt.trans {h h1 h2 : Hc} (a : HcExt h h1) (b : HcExt h1 h2) : HcExt h h2 := fun n p e => by
  obtain ⟨q1, e1, l1⟩ := a n p e
  obtain ⟨q2, e2, l2⟩ := b n _ e1
  exact ⟨q2, e2, fun q => by
    have z := l1 q
    subst z
    exact l2 q⟩
theorem HcExt.len {h h' : Hc} (a : HcExt h h') : h.length ≤ h'.length := by
  apply Nat.le_of_not_lt
  intro q
  have e : h[h'.length]? = some h[h'.length] := List.getElem?_eq_getElem q
  obtain ⟨o, e1, _⟩ := a _ _ e
  have := (List.getElem?_eq_some_iff.mp e1).1
  omega

section
variable {W : Wb} {μ μ' μ'' : List Addr} {h h' h'' : Hc} {H H' H'' : Hp} {ρ : Rho} {σ : L2.St} {d : D} {ds : List D} {v : V} {vs : List V}
theorem Ext.refl : Ext μ h H μ h H := ⟨⟨[], by simp, by simp⟩, fun _ _ e _ => e, fun _ z => z, .refl _⟩
theorem RO.some {a : Addr} {p : Bool × O} (x : RO W μ H a p) : ∃ o, H a = some o ∧ (isMut o = true ∨ p.1 = true) := by
  obtain ⟨l, o⟩ := p
  cases o with
  | lst ds => obtain ⟨vs, e, _⟩ := x; exact ⟨_, e, .inl rfl⟩
  | dic kvs =>
    obtain ⟨vs, e, _⟩ := x
    rcases e with e | ⟨e1, o, e⟩
    · exact ⟨_, e, .inl rfl⟩
    · exact ⟨_, e, .inr e1⟩
  | tab y q => obtain ⟨ps, e, _⟩ := x; exact ⟨_, e, .inl rfl⟩
  | dcd kvs => obtain ⟨_, _, _, es, ep, e, _⟩ := x; exact ⟨_, e, .inl rfl⟩
  | dif kvs => obtain ⟨f, vs, o, e, _⟩ := x; exact ⟨_, e, .inr f⟩
theorem ext_ne {a : Addr} {es : Array DictEntry} {ep : Nat} {q : Str} : (HO.ext fun h => h.DictRaw a es ep) ≠ LamX.CodeO a q := by
  intro z
  unfold LamX.CodeO at z
  injection z with z
  let o0 : Obj := { cls := .none, data := .fields #[.none, .str q default] }
  let h0 : Heap := { objs := (List.replicate a o0 ++ [o0]).toArray }
  have g0 : h0.get? a = some o0 := by
    have : h0.objs[a]? = some o0 := by simp [h0]
    unfold Heap.get?
    rw [this]
  have c := congrFun z h0
  have d : h0.DictRaw a es ep := by
    rw [c]
    exact ⟨o0, #[.none, .str q default], default, g0, rfl, rfl⟩
  obtain ⟨o, e1, _, e2⟩ := d
  rw [g0] at e1
  cases e1
  cases e2
theorem RO.nc {a c : Addr} {q : Str} {p : Bool × O} (x : RO W μ H a p) (e : H c = Option.some (LamX.CodeO c q)) : c ≠ a := by
  rintro rfl
  have e0 := e
  unfold LamX.CodeO at e
  obtain ⟨l, o⟩ := p
  cases o with
  | lst ds => obtain ⟨vs, z, _⟩ := x; rw [e] at z; cases z
  | dic kvs =>
    obtain ⟨vs, z, _⟩ := x
    rcases z with z | ⟨_, o, z⟩ <;> (rw [e] at z; cases z)
  | tab y q => obtain ⟨ps, z, _⟩ := x; rw [e] at z; cases z
  | dcd kvs =>
    obtain ⟨_, _, _, es, ep, z, _⟩ := x
    rw [e0] at z
    exact ext_ne (Option.some.inj z).symm
  | dif kvs =>
    obtain ⟨_, vs, o, z, _⟩ := x
    rw [e] at z; cases z
theorem EntRs.mono {W : Wb} {μ μ' : List Addr} {H H' : Hp} (f : ∀ d v, RD W μ H d v → RD W μ' H' d v) : ∀ {l : List (D × D)} {es : List DictEntry}, EntRs W μ H l es → EntRs W μ' H' l es
  | [], es, r => r
  | p :: l, es, ⟨e, t, h1, ⟨b, v, nk, e1, e2, e3, e4, e5, e6⟩, h3⟩ => ⟨e, t, h1, ⟨b, v, nk, e1, e2, e3, f _ _ e4, e5, f _ _ e6⟩, EntRs.mono f h3⟩
theorem RO.keepD {W : Wb} {μ μ' : List Addr} {H H' : Hp} {a : Addr} {l l' : Bool} {kvs : List (D × D)} (x : RO W μ H a (l, .dcd kvs)) (e : H' a = H a) (f : ∀ d v, RD W μ H d v → RD W μ' H' d v) : RO W μ' H' a (l', .dcd kvs) := by
  obtain ⟨h1, h2, h3, es, ep, h4, h5⟩ := x
  exact ⟨h1, h2, h3, es, ep, by rw [e]; exact h4, h5.mono f⟩
theorem RDs.mono {W : Wb} {μ μ' : List Addr} {H H' : Hp} (f : ∀ d v, RD W μ H d v → RD W μ' H' d v) : ∀ {ds : List D} {vs : List V}, RDs W μ H ds vs → RDs W μ' H' ds vs
  | [], vs, e => by simpa only [RDs] using e
  | d :: ds, vs, e => by
    simp only [RDs] at e ⊢
    obtain ⟨v, r, e1, e2, e3⟩ := e
    exact ⟨v, r, e1, f _ _ e2, RDs.mono f e3⟩
theorem RO.keepF {W : Wb} {μ μ' : List Addr} {H H' : Hp} {a : Addr} {l : Bool} {kvs : List (L2.Key × D)} (x : RO W μ H a (l, .dif kvs)) (e : H' a = H a) (f : ∀ d v, RD W μ H d v → RD W μ' H' d v) : RO W μ' H' a (l, .dif kvs) := by
  obtain ⟨h1, vs, o, h2, h3⟩ := x
  exact ⟨h1, vs, o, by rw [e]; exact h2, RDs.mono f h3⟩
theorem R.at (x : R W μ h H) {n : Nat} {a : Addr} (e : μ[n]? = some a) : ∃ p, h[n]? = some p ∧ RO W μ H a p := by
  have hn : n < h.length := by rw [← x.len]; exact (List.getElem?_eq_some_iff.mp e).1
  have e2 : h[n]? = some h[n] := List.getElem?_eq_getElem hn
  exact ⟨_, e2, x.ob n a _ e e2⟩
theorem R.notin (x : R W μ h H) {p : Addr} (hp : H p = none) : p ∉ μ := fun hm => by
  obtain ⟨n, e⟩ := List.mem_iff_getElem?.mp hm
  obtain ⟨_, _, ro⟩ := x.at e
  obtain ⟨o, e2, _⟩ := ro.some
  rw [hp] at e2; cases e2
theorem Ext.trans (x : R W μ h H) (a : Ext μ h H μ' h' H') (b : Ext μ' h' H' μ'' h'' H'') : Ext μ h H μ'' h'' H'' := by
  obtain ⟨⟨m, e1, f1⟩, fr1, d1, c1⟩ := a
  obtain ⟨⟨m2, e2, f2⟩, fr2, d2, c2⟩ := b
  refine ⟨⟨m ++ m2, by rw [e2, e1, List.append_assoc], fun a ha => ?_⟩, fun a o e k => fr2 a o (fr1 a o e k) fun n p e3 e4 => ?_, fun a z => d2 a (d1 a z), c1.trans c2⟩
  · rcases List.mem_append.mp ha with z | z
    · exact f1 a z
    · apply Classical.byContradiction
      intro q
      exact d1 a q (f2 a z)
  · subst e1
    by_cases hn : n < μ.length
    · rw [List.getElem?_append_left hn] at e3
      have hh : n < h.length := by rw [← x.len]; exact hn
      have e5 : h[n]? = some h[n] := List.getElem?_eq_getElem hh
      obtain ⟨o', e6, e7⟩ := c1 n _ e5
      rw [e4] at e6
      have := k n _ e3 e5
      cases e6
      rw [e7 this]
      exact this
    · have hn' : μ.length ≤ n := Nat.le_of_not_lt hn
      rw [List.getElem?_append_right hn'] at e3
      have := f1 a (List.mem_of_getElem? e3)
      rw [e] at this; cases this
theorem Ext.fix (b : Ext μ h H μ' h' H') (x : R W μ h H) {a : Addr} {o : HO} (e : H a = some o) (hm : isMut o = false) : H' a = some o := by
  refine b.frame a o e fun n p e1 e2 => ?_
  obtain ⟨u, e3, hu⟩ := (x.ob n a p e1 e2).some
  rw [e] at e3; cases e3
  rcases hu with hu | hu
  · rw [hm] at hu; cases hu
  · exact hu
theorem Ext.sqT (b : Ext μ h H μ' h' H') (x : R W μ h H) {a : Addr} (e : SqT W.K H a vs) : SqT W.K H' a vs := by
  rcases e with (e | ⟨o, e⟩) | e
  · exact .inl (.inl (b.fix x e rfl))
  · exact .inl (.inr ⟨o, b.fix x e rfl⟩)
  · exact .inr e
theorem Ext.tpL (b : Ext μ h H μ' h' H') (x : R W μ h H) {a : Addr} (e : TpL W.K H a vs) : TpL W.K H' a vs := by
  rcases e with ⟨o, e, d⟩ | e
  · exact .inl ⟨o, b.fix x e rfl, d⟩
  · exact .inr e
theorem Ext.fzL (b : Ext μ h H μ' h' H') (x : R W μ h H) {a : Addr} (e : FzL W.K H a vs) : FzL W.K H' a vs := by
  rcases e with ⟨o, e⟩ | e
  · exact .inl ⟨o, b.fix x e rfl⟩
  · exact .inr e
theorem Ext.mu (b : Ext μ h H μ' h' H') {n : Nat} {a : Addr} (e : μ[n]? = some a) : μ'[n]? = some a := by
  obtain ⟨⟨m, e1, _⟩, _⟩ := b
  rw [e1, List.getElem?_append_left (List.getElem?_eq_some_iff.mp e).1, e]
mutual
theorem RD.ext (b : Ext μ h H μ' h' H') (x : R W μ h H) : ∀ (d : D) (v : V), RD W μ H d v → RD W μ' H' d v
  | .non, v, e => by simpa only [RD] using e
  | .bl _, v, e => by simpa only [RD] using e
  | .int _, v, e => by simpa only [RD] using e
  | .str _, v, e => by simpa only [RD] using e
  | .tup ds, v, e => by
    simp only [RD] at e ⊢
    obtain ⟨a, vs, e1, e2, e3⟩ := e
    exact ⟨a, vs, e1, b.tpL x e2, RDs.ext b x ds vs e3⟩
  | .ref n, v, e => by
    simp only [RD] at e ⊢
    obtain ⟨a, e1, e2⟩ := e
    exact ⟨a, b.mu e1, e2⟩
  | .flst ds, v, e => by
    simp only [RD] at e ⊢
    obtain ⟨a, vs, e1, e2, e3⟩ := e
    exact ⟨a, vs, e1, b.fzL x e2, RDs.ext b x ds vs e3⟩
  | .obj c ns ds, v, e => by
    simp only [RD] at e ⊢
    obtain ⟨a, C, dx, vs, e1, e2, e3, e4, e5⟩ := e
    exact ⟨a, C, dx, vs, e1, e2, b.fix x e3 rfl, e4, RDs.ext b x ds vs e5⟩
  | .ty _, v, e => by simpa only [RD] using e
  | .gl _, v, e => by simpa only [RD] using e
  | .err _ _, v, e => by simp only [RD] at e
  | .clo f c q vs ds, v, e => by
    simp only [RD] at e ⊢
    obtain ⟨e1, e2, e3⟩ := e
    refine ⟨e1, b.frame c _ e2 fun n p q1 q2 => absurd rfl ((x.ob n c p q1 q2).nc e2), RDs.ext b x ds vs e3⟩
theorem RDs.ext (b : Ext μ h H μ' h' H') (x : R W μ h H) : ∀ (ds : List D) (vs : List V), RDs W μ H ds vs → RDs W μ' H' ds vs
  | [], vs, e => by simpa only [RDs] using e
  | d :: ds, vs, e => by
    simp only [RDs] at e ⊢
    obtain ⟨v, r, e1, e2, e3⟩ := e
    exact ⟨v, r, e1, RD.ext b x d v e2, RDs.ext b x ds r e3⟩
end
theorem RV.ext {W : Wd} (b : Ext μ h H μ' h' H') (x : R W μ h H) {d : D} {v : V} (e : RV W μ H d v) : RV W μ' H' d v := by
  rcases e with e | ⟨c, y, rfl, a, C, dd, u, e1, e2, e3, e4, e5, e6⟩
  · exact .inl (RD.ext b x d v e)
  · exact .inr ⟨c, y, rfl, a, C, dd, u, e1, e2, e3, b.fix x e4 rfl, RD.ext b x y u e5, e6⟩
theorem RS.ext {W : Wd} (b : Ext μ h H μ' h' H') (x : R W μ h H) (e : RS W μ H ρ σ) : RS W μ' H' ρ σ :=
  ⟨e.1, fun i d q => let ⟨v, e1, e2⟩ := e.2 i d q; ⟨v, e1, RV.ext b x e2⟩⟩
theorem RV.rd {W : Wd} {μ : List Addr} {H : Hp} {d : D} {v : V} (r : RV W μ H d v) (h : ¬ d.isErr = true) : RD W μ H d v := by
  rcases r with r | ⟨c, y, rfl, _⟩
  · exact r
  · exact absurd rfl h
theorem RDs.nil : RDs W μ H [] [] := by simp only [RDs]
theorem RDs.cons (a : RD W μ H d v) (b : RDs W μ H ds vs) : RDs W μ H (d :: ds) (v :: vs) := by
  simp only [RDs]; exact ⟨v, vs, rfl, a, b⟩
theorem RDs.len : ∀ {ds : List D} {vs : List V}, RDs W μ H ds vs → ds.length = vs.length
  | [], vs, e => by simp only [RDs] at e; subst e; rfl
  | d :: ds, vs, e => by
    simp only [RDs] at e
    obtain ⟨v, r, rfl, _, e3⟩ := e
    simp [RDs.len e3]
theorem RDs.get : ∀ {ds : List D} {vs : List V} {i : Nat} {d : D}, RDs W μ H ds vs → ds[i]? = some d → ∃ v, vs[i]? = some v ∧ RD W μ H d v
  | [], vs, i, d, e, q => by simp at q
  | d' :: ds, vs, 0, d, e, q => by
    simp only [RDs] at e
    obtain ⟨v, r, rfl, e2, e3⟩ := e
    simp at q; subst q
    exact ⟨v, rfl, e2⟩
  | d' :: ds, vs, i + 1, d, e, q => by
    simp only [RDs] at e
    obtain ⟨v, r, rfl, e2, e3⟩ := e
    obtain ⟨v', h1, h2⟩ := RDs.get (i := i) e3 (by simpa using q)
    exact ⟨v', by simpa using h1, h2⟩
theorem RDs.getV : ∀ {ds : List D} {vs : List V} {i : Nat} {v : V}, RDs W μ H ds vs → vs[i]? = some v → ∃ d, ds[i]? = some d ∧ RD W μ H d v
  | [], vs, i, d, e, q => by simp only [RDs] at e; subst e; simp at q
  | d' :: ds, vs, 0, d, e, q => by
    simp only [RDs] at e
    obtain ⟨v, r, rfl, e2, e3⟩ := e
    simp at q; subst q
    exact ⟨d', rfl, e2⟩
  | d' :: ds, vs, i + 1, d, e, q => by
    simp only [RDs] at e
    obtain ⟨v, r, rfl, e2, e3⟩ := e
    obtain ⟨v', h1, h2⟩ := RDs.getV (i := i) e3 (by simpa using q)
    exact ⟨v', by simpa using h1, h2⟩
theorem RDs.append : ∀ {ds es : List D} {vs ws : List V}, RDs W μ H ds vs → RDs W μ H es ws → RDs W μ H (ds ++ es) (vs ++ ws)
  | [], es, vs, ws, e, q => by simp only [RDs] at e; subst e; exact q
  | d :: ds, es, vs, ws, e, q => by
    simp only [RDs] at e
    obtain ⟨v, r, rfl, e2, e3⟩ := e
    exact RDs.cons e2 (RDs.append e3 q)
theorem RDs.take : ∀ {ds : List D} {vs : List V} (n : Nat), RDs W μ H ds vs → RDs W μ H (ds.take n) (vs.take n)
  | [], vs, n, e => by simp only [RDs] at e; subst e; simp [RDs]
  | d :: ds, vs, 0, e => by simp [RDs]
  | d :: ds, vs, n + 1, e => by
    simp only [RDs] at e
    obtain ⟨v, r, rfl, e2, e3⟩ := e
    exact RDs.cons e2 (RDs.take n e3)
theorem RDs.drop : ∀ {ds : List D} {vs : List V} (n : Nat), RDs W μ H ds vs → RDs W μ H (ds.drop n) (vs.drop n)
  | [], vs, n, e => by simp only [RDs] at e; subst e; simp [RDs]
  | d :: ds, vs, 0, e => by simpa using e
  | d :: ds, vs, n + 1, e => by
    simp only [RDs] at e
    obtain ⟨v, r, rfl, e2, e3⟩ := e
    simpa using RDs.drop n e3
theorem RDs.set : ∀ {ds : List D} {vs : List V} (n : Nat), RDs W μ H ds vs → RD W μ H d v → RDs W μ H (ds.set n d) (vs.set n v)
  | [], vs, n, e, q => by simp only [RDs] at e; subst e; simp [RDs]
  | d' :: ds, vs, 0, e, q => by
    simp only [RDs] at e
    obtain ⟨v', r, rfl, e2, e3⟩ := e
    exact RDs.cons q e3
  | d' :: ds, vs, n + 1, e, q => by
    simp only [RDs] at e
    obtain ⟨v', r, rfl, e2, e3⟩ := e
    exact RDs.cons e2 (RDs.set n e3 q)
theorem RDs.ints : ∀ (ns : List Int), RDs W μ H (ns.map D.int) (ns.map V.int)
  | [] => RDs.nil
  | n :: ns => RDs.cons (by simp only [RD]) (RDs.ints ns)

theorem R.tup (x : R W μ h H) {p : Addr} {o : HO} (hp : H p = none) (hm : isMut o = false) : R W μ h (upd H p o) ∧ Ext μ h H μ h (upd H p o) := by
  have E : Ext μ h H μ h (upd H p o) := ⟨⟨[], by simp, by simp⟩, fun a u e _ => by rw [upd_ne (ne_of_none e hp)]; exact e, fun a z => by
    unfold upd; split
    · simp
    · exact z, .refl _⟩
  refine ⟨⟨x.len, x.nd, fun n a q e1 e2 => ?_⟩, E⟩
  have r := x.ob n a q e1 e2
  obtain ⟨u, eu, _⟩ := r.some
  obtain ⟨l, ob⟩ := q
  cases ob with
  | lst ds =>
    obtain ⟨vs, e3, e4⟩ := r
    exact ⟨vs, by rw [upd_ne (ne_of_none eu hp)]; exact e3, RDs.ext E x ds vs e4⟩
  | dic kvs =>
    obtain ⟨vs, e3, e4⟩ := r
    exact ⟨vs, by rw [upd_ne (ne_of_none eu hp)]; exact e3, RDs.ext E x _ vs e4⟩
  | tab y q =>
    obtain ⟨ps, e3, e4, e5⟩ := r
    exact ⟨ps, by rw [upd_ne (ne_of_none eu hp)]; exact e3, e4, fun pos cv z => let ⟨c, z1, z2⟩ := e5 pos cv z; ⟨c, z1, by rw [upd_ne (ne_of_none z2 hp)]; exact z2⟩⟩
  | dcd kvs => exact r.keepD (by rw [upd_ne (ne_of_none eu hp)]) (fun d v => RD.ext E x d v)
  | dif kvs => exact r.keepF (by rw [upd_ne (ne_of_none eu hp)]) (fun d v => RD.ext E x d v)
theorem R.lst (x : R W μ h H) {p : Addr} (hp : H p = none) (r : RDs W μ H ds vs) :
    R W (μ ++ [p]) (h ++ [(false, .lst ds)]) (upd H p (.lst vs)) ∧ Ext μ h H (μ ++ [p]) (h ++ [(false, .lst ds)]) (upd H p (.lst vs)) := by
  have hc : HcExt h (h ++ [(false, .lst ds)]) := fun n q e => ⟨q, by rw [List.getElem?_append_left (List.getElem?_eq_some_iff.mp e).1, e], fun _ => rfl⟩
  have E : Ext μ h H (μ ++ [p]) (h ++ [(false, .lst ds)]) (upd H p (.lst vs)) := ⟨⟨[p], rfl, fun a ha => by simp at ha; subst ha; exact hp⟩, fun a u e _ => by rw [upd_ne (ne_of_none e hp)]; exact e, fun a z => by
    unfold upd; split
    · simp
    · exact z, hc⟩
  refine ⟨⟨by simp [x.len], ?_, fun n a q e1 e2 => ?_⟩, E⟩
  · rw [List.nodup_append]
    refine ⟨x.nd, by simp, fun a ha b hb z => ?_⟩
    simp at hb; subst hb; subst z
    exact x.notin hp ha
  · by_cases hn : n < μ.length
    · rw [List.getElem?_append_left hn] at e1
      rw [List.getElem?_append_left (by rw [← x.len]; exact hn)] at e2
      have r := x.ob n a q e1 e2
      obtain ⟨u, eu, _⟩ := r.some
      obtain ⟨l, ob⟩ := q
      cases ob with
      | lst ds' =>
        obtain ⟨vs', e3, e4⟩ := r
        exact ⟨vs', by rw [upd_ne (ne_of_none eu hp)]; exact e3, RDs.ext E x ds' vs' e4⟩
      | dic kvs =>
        obtain ⟨vs', e3, e4⟩ := r
        exact ⟨vs', by rw [upd_ne (ne_of_none eu hp)]; exact e3, RDs.ext E x _ vs' e4⟩
      | tab y q =>
        obtain ⟨ps, e3, e4, e5⟩ := r
        exact ⟨ps, by rw [upd_ne (ne_of_none eu hp)]; exact e3, e4, fun pos cv z => let ⟨c, z1, z2⟩ := e5 pos cv z; ⟨c, z1, by rw [upd_ne (ne_of_none z2 hp)]; exact z2⟩⟩
      | dcd kvs => exact r.keepD (by rw [upd_ne (ne_of_none eu hp)]) (fun d v => RD.ext E x d v)
      | dif kvs => exact r.keepF (by rw [upd_ne (ne_of_none eu hp)]) (fun d v => RD.ext E x d v)
    · have hn2 : n = μ.length := by
        have := (List.getElem?_eq_some_iff.mp e1).1
        simp at this; omega
      subst hn2
      simp at e1; subst e1
      rw [x.len] at e2
      simp at e2; subst e2
      exact ⟨vs, upd_same, RDs.ext E x ds vs r⟩
theorem R.dic {kvs : List (L2.Key × D)} (x : R W μ h H) {p : Addr} (hp : H p = none) (r : RDs W μ H (kvs.map (·.2)) vs) :
    R W (μ ++ [p]) (h ++ [(false, .dic kvs)]) (upd H p (.dK ((kvs.map (·.1)).zip vs))) ∧ Ext μ h H (μ ++ [p]) (h ++ [(false, .dic kvs)]) (upd H p (.dK ((kvs.map (·.1)).zip vs))) := by
  have hc : HcExt h (h ++ [(false, .dic kvs)]) := fun n q e => ⟨q, by rw [List.getElem?_append_left (List.getElem?_eq_some_iff.mp e).1, e], fun _ => rfl⟩
  have E : Ext μ h H (μ ++ [p]) (h ++ [(false, .dic kvs)]) (upd H p (.dK ((kvs.map (·.1)).zip vs))) := ⟨⟨[p], rfl, fun a ha => by simp at ha; subst ha; exact hp⟩, fun a u e _ => by rw [upd_ne (ne_of_none e hp)]; exact e, fun a z => by
    unfold upd; split
    · simp
    · exact z, hc⟩
  refine ⟨⟨by simp [x.len], ?_, fun n a q e1 e2 => ?_⟩, E⟩
  · rw [List.nodup_append]
    refine ⟨x.nd, by simp, fun a ha b hb z => ?_⟩
    simp at hb; subst hb; subst z
    exact x.notin hp ha
  · by_cases hn : n < μ.length
    · rw [List.getElem?_append_left hn] at e1
      rw [List.getElem?_append_left (by rw [← x.len]; exact hn)] at e2
      have r := x.ob n a q e1 e2
      obtain ⟨u, eu, _⟩ := r.some
      obtain ⟨l, ob⟩ := q
      cases ob with
      | lst ds' =>
        obtain ⟨vs', e3, e4⟩ := r
        exact ⟨vs', by rw [upd_ne (ne_of_none eu hp)]; exact e3, RDs.ext E x ds' vs' e4⟩
      | dic kvs' =>
        obtain ⟨vs', e3, e4⟩ := r
        exact ⟨vs', by rw [upd_ne (ne_of_none eu hp)]; exact e3, RDs.ext E x _ vs' e4⟩
      | tab y q =>
        obtain ⟨ps, e3, e4, e5⟩ := r
        exact ⟨ps, by rw [upd_ne (ne_of_none eu hp)]; exact e3, e4, fun pos cv z => let ⟨c, z1, z2⟩ := e5 pos cv z; ⟨c, z1, by rw [upd_ne (ne_of_none z2 hp)]; exact z2⟩⟩
      | dcd kvs => exact r.keepD (by rw [upd_ne (ne_of_none eu hp)]) (fun d v => RD.ext E x d v)
      | dif kvs => exact r.keepF (by rw [upd_ne (ne_of_none eu hp)]) (fun d v => RD.ext E x d v)
    · have hn2 : n = μ.length := by
        have := (List.getElem?_eq_some_iff.mp e1).1
        simp at this; omega
      subst hn2
      simp at e1; subst e1
      rw [x.len] at e2
      simp at e2; subst e2
      exact ⟨vs, .inl upd_same, RDs.ext E x _ vs r⟩
theorem getElem?_inj_nodup {α : Type} {l : List α} (hn : l.Nodup) {i j : Nat} {a : α} (e1 : l[i]? = some a) (e2 : l[j]? = some a) : i = j := by
  obtain ⟨h1, q1⟩ := List.getElem?_eq_some_iff.mp e1
  obtain ⟨h2, q2⟩ := List.getElem?_eq_some_iff.mp e2
  exact (List.getElem_inj hn).mp (q1.trans q2.symm)
theorem R.put (x : R W μ h H) {n : Nat} {a : Addr} {ds' : List D} {o' : O} (e : μ[n]? = some a) (e2 : h[n]? = some (false, o')) (r : RDs W μ H ds vs) :
    R W μ (h.set n (false, .lst ds)) (upd H a (.lst vs)) ∧ Ext μ h H μ (h.set n (false, .lst ds)) (upd H a (.lst vs)) := by
  have hl : n < h.length := (List.getElem?_eq_some_iff.mp e2).1
  have hc : HcExt h (h.set n (false, .lst ds)) := fun m q e3 => by
    by_cases hm : m = n
    · subst hm
      rw [e2] at e3; cases e3
      exact ⟨(false, .lst ds), by rw [List.getElem?_set_self hl], fun z => by cases z⟩
    · exact ⟨q, by rw [List.getElem?_set_ne (Ne.symm hm), e3], fun _ => rfl⟩
  have E : Ext μ h H μ (h.set n (false, .lst ds)) (upd H a (.lst vs)) := ⟨⟨[], by simp, by simp⟩, fun b u e3 k => by
    have hb : b ≠ a := fun z => by
      subst z
      have := k n _ e e2
      cases this
    rw [upd_ne hb]; exact e3, fun b z => by
    unfold upd; split
    · simp
    · exact z, hc⟩
  refine ⟨⟨by simp [x.len], x.nd, fun m b q e1 e3 => ?_⟩, E⟩
  by_cases hm : m = n
  · subst hm
    rw [List.getElem?_set_self hl] at e3; cases e3
    rw [e] at e1; cases e1
    exact ⟨vs, upd_same, RDs.ext E x ds vs r⟩
  · rw [List.getElem?_set_ne (Ne.symm hm)] at e3
    have hb : b ≠ a := fun z => by
      subst z
      exact hm (getElem?_inj_nodup x.nd e1 e)
    have r := x.ob m b q e1 e3
    obtain ⟨l, ob⟩ := q
    cases ob with
    | lst ds' =>
      obtain ⟨vs', e4, e5⟩ := r
      exact ⟨vs', by rw [upd_ne hb]; exact e4, RDs.ext E x ds' vs' e5⟩
    | dic kvs =>
      obtain ⟨vs', e4, e5⟩ := r
      exact ⟨vs', by rw [upd_ne hb]; exact e4, RDs.ext E x _ vs' e5⟩
    | tab y q =>
      obtain ⟨ps, e4, e5, e6⟩ := r
      exact ⟨ps, by rw [upd_ne hb]; exact e4, e5, fun pos cv z => let ⟨c, z1, z2⟩ := e6 pos cv z; ⟨c, z1, by rw [upd_ne ((x.ob n a _ e e2).nc z2)]; exact z2⟩⟩
    | dcd kvs => exact r.keepD (upd_ne hb) (fun d v => RD.ext E x d v)
    | dif kvs => exact r.keepF (upd_ne hb) (fun d v => RD.ext E x d v)
theorem R.putD {kvs : List (L2.Key × D)} (x : R W μ h H) {n : Nat} {a : Addr} {o' : O} (e : μ[n]? = some a) (e2 : h[n]? = some (false, o')) (r : RDs W μ H (kvs.map (·.2)) vs) :
    R W μ (h.set n (false, .dic kvs)) (upd H a (.dK ((kvs.map (·.1)).zip vs))) ∧ Ext μ h H μ (h.set n (false, .dic kvs)) (upd H a (.dK ((kvs.map (·.1)).zip vs))) := by
  have hl : n < h.length := (List.getElem?_eq_some_iff.mp e2).1
  have hc : HcExt h (h.set n (false, .dic kvs)) := fun m q e3 => by
    by_cases hm : m = n
    · subst hm
      rw [e2] at e3; cases e3
      exact ⟨(false, .dic kvs), by rw [List.getElem?_set_self hl], fun z => by cases z⟩
    · exact ⟨q, by rw [List.getElem?_set_ne (Ne.symm hm), e3], fun _ => rfl⟩
  have E : Ext μ h H μ (h.set n (false, .dic kvs)) (upd H a (.dK ((kvs.map (·.1)).zip vs))) := ⟨⟨[], by simp, by simp⟩, fun b u e3 k => by
    have hb : b ≠ a := fun z => by
      subst z
      have := k n _ e e2
      cases this
    rw [upd_ne hb]; exact e3, fun b z => by
    unfold upd; split
    · simp
    · exact z, hc⟩
  refine ⟨⟨by simp [x.len], x.nd, fun m b q e1 e3 => ?_⟩, E⟩
  by_cases hm : m = n
  · subst hm
    rw [List.getElem?_set_self hl] at e3; cases e3
    rw [e] at e1; cases e1
    exact ⟨vs, .inl upd_same, RDs.ext E x _ vs r⟩
  · rw [List.getElem?_set_ne (Ne.symm hm)] at e3
    have hb : b ≠ a := fun z => by
      subst z
      exact hm (getElem?_inj_nodup x.nd e1 e)
    have r := x.ob m b q e1 e3
    obtain ⟨l, ob⟩ := q
    cases ob with
    | lst ds' =>
      obtain ⟨vs', e4, e5⟩ := r
      exact ⟨vs', by rw [upd_ne hb]; exact e4, RDs.ext E x ds' vs' e5⟩
    | dic kvs' =>
      obtain ⟨vs', e4, e5⟩ := r
      exact ⟨vs', by rw [upd_ne hb]; exact e4, RDs.ext E x _ vs' e5⟩
    | tab y q =>
      obtain ⟨ps, e4, e5, e6⟩ := r
      exact ⟨ps, by rw [upd_ne hb]; exact e4, e5, fun pos cv z => let ⟨c, z1, z2⟩ := e6 pos cv z; ⟨c, z1, by rw [upd_ne ((x.ob n a _ e e2).nc z2)]; exact z2⟩⟩
    | dcd kvs => exact r.keepD (upd_ne hb) (fun d v => RD.ext E x d v)
    | dif kvs => exact r.keepF (upd_ne hb) (fun d v => RD.ext E x d v)
end
end Sx

set_option Elab.async false
set_option linter.all false
set_option maxRecDepth 100000
namespace Sx
open PySem PySem.Spec PyProof.Rows L2

def lX (W : Wb) (Wx : WX) (μ : List Addr) (h : Hc) (H : Hp) (c : Str) (x : D) (h' : Hc) (σ : L2.St) : Prop :=
  ∀ μ' H' C dd v, W.mg c = some (.ref C) → R W μ' h' H' → Ext μ h H μ' h' H' → H' dd = some (.xd [(wWhat, v)]) → RD W μ' H' x v → Wx (.ref C) (some dd) σ H'
def kR {α β : Type} (rel : List Addr → Hp → α → β → Prop) (W : Wb) (Wx : WX) (μ : List Addr) (h : Hc) (H : Hp) (σ : L2.St) (Q : β → Hp → Prop) : Res α → Prop
  | .ok a h' => ∀ μ' H' b, R W μ' h' H' → Ext μ h H μ' h' H' → rel μ' H' a b → Q b H'
  | .exn c x h' => lX W Wx μ h H c x h' σ
  | .stuck => False
abbrev rB : List Addr → Hp → Bool → Bool → Prop := fun _ _ a b => b = a
def lG {α β : Type} (rel : List Addr → Hp → α → β → Prop) (W : Wd) (Wx : WX) (c : Rho → Hc → Res α) : L2.St → Hp → (β → Hp → Prop) → Prop :=
  fun σ H Q => ∃ μ ρ h, R W μ h H ∧ RS W μ H ρ σ ∧ kR rel W Wx μ h H σ Q (c ρ h)
abbrev lE (W : Wd) (Wx : WX) (c : CE) : TE := lG (RD W) W Wx c
abbrev lT (W : Wd) (Wx : WX) (c : CT) : TT := lG rB W Wx c
abbrev lA (W : Wd) (Wx : WX) (c : CA) : TA := lG (RDs W) W Wx c
def kF (W : Wd) (Wx : WX) (μ' : List Addr) (H' : Hp) (σ' : L2.St) (D : Ends) : Fl → Prop
  | .nx => D.nx σ' H'
  | .bk => D.bk σ' H'
  | .ct => D.ct σ' H'
  | .ret d => ∀ v, RD W μ' H' d v → D.rt v H'
  | .exn c x => ∀ C dd v, W.mg c = some (.ref C) → H' dd = some (.xd [(wWhat, v)]) → RD W μ' H' x v → Wx (.ref C) (some dd) σ' H'
def kS (W : Wd) (Wx : WX) (μ : List Addr) (h : Hc) (H : Hp) (D : Ends) : ResS → Prop
  | .ok f ρ' h' => ∀ μ' H' σ', R W μ' h' H' → Ext μ h H μ' h' H' → RS W μ' H' ρ' σ' → kF W Wx μ' H' σ' D f
  | .stuck => False
def lS (W : Wd) (Wx : WX) (c : CS) : TS := fun D σ H => ∃ μ ρ h, R W μ h H ∧ RS W μ H ρ σ ∧ kS W Wx μ h H D (c ρ h)
def exOf : Bool → List (Addr × Obj) → Option (Addr × Addr × Addr)
  | true, _ => none
  | false, (a, o) :: _ => match o.cls, o.dict, o.data with
    | .ref C, some dd, .fields _ => some (a, C, dd)
    | _, _, _ => none
  | false, [] => none
abbrev wb (X : Cx) : Wb := ⟨X.K, X.mg⟩
abbrev wd (X : Cx) : Wd := ⟨wb X, exOf X.calm X.pn⟩
theorem wd_of {X Y : Cx} (h : X.calm = true) (hY : Y.calm = X.calm) (hb : wb Y = wb X) : wd Y = wd X := by
  unfold wd; rw [hY, h, hb] <;> rfl
abbrev SE (X : Cx) (Wx : WX) (e : Expr) (c : CE) : Prop := PE X e (lE (wd X) Wx c)
abbrev ST (X : Cx) (Wx : WX) (e : Expr) (c : CT) : Prop := PT X e (lT (wd X) Wx c)
abbrev SW (X : Cx) (Wx : WX) (e : Expr) (c : CT) : Prop := PW X e (lT (wd X) Wx c)
abbrev SA (X : Cx) (Wx : WX) (es : List Expr) (c : CA) : Prop := PA X es (lA (wd X) Wx c)
abbrev SS (X : Cx) (Wx : WX) (st : Stmt) (c : CS) : Prop := PS X st (lS (wd X) Wx c)
abbrev SSs (X : Cx) (Wx : WX) (st : List Stmt) (c : CS) : Prop := PSs X st (lS (wd X) Wx c)

theorem pe_mono {X : Cx} {e : Expr} {t t' : TE} (h : PE X e t) (k : ∀ σ H Q, t' σ H Q → t σ H Q) : PE X e t' := ⟨fun pins s σ H Q I q => h.run pins s σ H Q I (k σ H Q q)⟩
theorem pt_mono {X : Cx} {e : Expr} {t t' : TT} (h : PT X e t) (k : ∀ σ H Q, t' σ H Q → t σ H Q) : PT X e t' := ⟨fun pins s σ H Q I q => h.run pins s σ H Q I (k σ H Q q)⟩
theorem pw_mono {X : Cx} {e : Expr} {t t' : TT} (h : PW X e t) (k : ∀ σ H Q, t' σ H Q → t σ H Q) : PW X e t' := ⟨fun w pins s σ H Q I q => h.run w pins s σ H Q I (k σ H Q q)⟩
theorem pa_mono {X : Cx} {e : List Expr} {t t' : TA} (h : PA X e t) (k : ∀ σ H Q, t' σ H Q → t σ H Q) : PA X e t' := ⟨fun p pins s σ H Q I q => h.run p pins s σ H Q I (k σ H Q q)⟩
theorem ps_mono {X : Cx} {e : Stmt} {t t' : TS} (h : PS X e t) (k : ∀ D σ H, t' D σ H → t D σ H) : PS X e t' := ⟨fun pins s σ H D I q => h.run pins s σ H D I (k D σ H q)⟩
theorem pss_mono {X : Cx} {e : List Stmt} {t t' : TS} (h : PSs X e t) (k : ∀ D σ H, t' D σ H → t D σ H) : PSs X e t' := ⟨fun pins s σ H D I q => h.run pins s σ H D I (k D σ H q)⟩

section
variable {α β γ δ : Type} {rel : List Addr → Hp → α → β → Prop} {rel1 : List Addr → Hp → γ → δ → Prop} {W : Wd} {Wx : WX} {μ μ1 : List Addr} {h h1 : Hc} {H H1 : Hp} {σ : L2.St} {ρ : Rho} {Q Q' : β → Hp → Prop} {r : Res α}
theorem kR.imp (k : kR rel W Wx μ h H σ Q r) (i : ∀ b H', Q b H' → Q' b H') : kR rel W Wx μ h H σ Q' r := by
  cases r with
  | ok a h' => exact fun μ' H' b x y z => i _ _ (k μ' H' b x y z)
  | exn c x h' => exact k
  | stuck => exact k
theorem kR.shift (x : R W μ h H) (E : Ext μ h H μ1 h1 H1) (k : kR rel W Wx μ h H σ Q r) : kR rel W Wx μ1 h1 H1 σ Q r := by
  cases r with
  | ok a h' => exact fun μ' H' b y z w => k μ' H' b y (E.trans x z) w
  | exn c d h' => exact fun μ' H' C dd v a y z b c => k μ' H' C dd v a y (E.trans x z) b c
  | stuck => exact k
theorem kR.bind {r1 : Res γ} {f : γ → Hc → Res α} (x : R W μ h H) (k : kR rel W Wx μ h H σ Q (r1.bind f)) :
    kR rel1 W Wx μ h H σ (fun b H1 => ∃ a μ1 h1, r1 = .ok a h1 ∧ R W μ1 h1 H1 ∧ Ext μ h H μ1 h1 H1 ∧ rel1 μ1 H1 a b ∧ kR rel W Wx μ1 h1 H1 σ Q (f a h1)) r1 := by
  cases r1 with
  | ok a h1 => exact fun μ1 H1 b y z w => ⟨a, μ1, h1, rfl, y, z, w, kR.shift x z k⟩
  | exn c d h' => exact k
  | stuck => exact k
theorem lG.in {c : Rho → Hc → Res α} (x : R W μ h H) (y : RS W μ H ρ σ) (k : kR rel W Wx μ h H σ Q (c ρ h)) : lG rel W Wx c σ H Q := ⟨μ, ρ, h, x, y, k⟩
end

abbrev VO := Option (D × Hc)
def VO.res : VO → Res D
  | some (d, h) => .ok d h
  | none => .stuck
def kO (W : Wb) (μ : List Addr) (h : Hc) (H : Hp) (Q : V → Hp → Prop) : VO → Prop
  | some (d, h') => ∀ μ' H' v, R W μ' h' H' → Ext μ h H μ' h' H' → RD W μ' H' d v → Q v H'
  | none => False
abbrev G1 := D → Hc → VO
abbrev G2 := D → D → Hc → VO
abbrev GL := List D → Hc → VO
def lV1 (W : Wb) (g : G1) : V → Hp → VK → Prop := fun x H Q => ∃ μ h dx, R W μ h H ∧ RD W μ H dx x ∧ kO W μ h H Q (g dx h)
def lV2 (W : Wb) (g : G2) : R2 := fun x y H Q => ∃ μ h dx dy, R W μ h H ∧ RD W μ H dx x ∧ RD W μ H dy y ∧ kO W μ h H Q (g dx dy h)
def lVs (W : Wb) (g : GL) : List V → Hp → VK → Prop := fun xs H Q => ∃ μ h ds, R W μ h H ∧ RDs W μ H ds xs ∧ kO W μ h H Q (g ds h)
section
variable {W : Wd} {Wx : WX} {μ μ1 : List Addr} {h h1 : Hc} {H H1 : Hp} {σ : L2.St} {ρ : Rho} {Q : V → Hp → Prop}
theorem kO.of {o : VO} (k : kR (RD W) W Wx μ h H σ Q o.res) : kO W μ h H Q o := by
  cases o with
  | none => exact k
  | some p => exact k
theorem kO.here {d : D} {v : V} (k : kO W μ h H Q (some (d, h))) (x : R W μ h H) (r : RD W μ H d v) : Q v H := k μ H v x .refl r
theorem kO.tup {ds : List D} {vs : List V} (k : kO W μ h H Q (some (.tup ds, h))) (x : R W μ h H) (r : RDs W μ H ds vs) {p : Addr} (hp : H p = none) {o : Obj} (ho : o.dict = none) : Q (.ref p) (upd H p (.frz o (.tup vs))) := by
  obtain ⟨a, b⟩ := x.tup (o := .frz o (.tup vs)) hp rfl
  refine k μ _ _ a b ?_
  simp only [RD]
  exact ⟨p, vs, rfl, .inl ⟨o, upd_same, ho⟩, RDs.ext b x ds vs r⟩
theorem kO.lst {ds : List D} {vs : List V} (k : kO W μ h H Q (some (.ref h.length, h ++ [(false, .lst ds)]))) (x : R W μ h H) (r : RDs W μ H ds vs) {p : Addr} (hp : H p = none) : Q (.ref p) (upd H p (.lst vs)) := by
  obtain ⟨a, b⟩ := x.lst hp r
  refine k _ _ _ a b ?_
  simp only [RD]
  exact ⟨p, by rw [← x.len]; simp, rfl⟩
theorem kO.put {ds : List D} {vs : List V} {n : Nat} {a : Addr} {o : O} {d : D} {v : V} (k : kO W μ h H Q (some (d, h.set n (false, .lst ds)))) (x : R W μ h H) (e : μ[n]? = some a) (e2 : h[n]? = some (false, o)) (r : RDs W μ H ds vs) (rd : RD W μ H d v) : Q v (upd H a (.lst vs)) := by
  obtain ⟨y, b⟩ := x.put (ds' := ds) e e2 r
  exact k _ _ _ y b (RD.ext b x d v rd)
end

def cVar (i : Nat) : CE := fun ρ h => match ρ[i]? with | some (some d) => if d.isErr then .stuck else .ok d h | _ => .stuck
def cK (d : D) : CE := fun _ h => .ok d h
section
variable {X : Cx} {Wx : WX}
theorem s_var (i : Nat) {x : Str} {pos : Pos} (hN : X.N[i]? = some x := by rfl) (hv : Vis X.env.scope x := by first | exact Or.inl rfl | exact Or.inr (Or.inl rfl) | exact Or.inr (Or.inr rfl)) (hd : (x == ("__debug__" : Str)) = false := by decide)
    (hcd : (x == ("__classdict__" : Str)) = false := by decide) : SE X Wx (.Name x pos) (cVar i) := by
  refine pe_mono (pe_var hN hv hd hcd) fun σ H Q ⟨μ, ρ, h, r, rs, k⟩ => ?_
  unfold cVar at k
  cases e : ρ[i]? with
  | none => rw [e] at k; exact False.elim k
  | some o =>
    cases o with
    | none => rw [e] at k; exact False.elim k
    | some d =>
      rw [e] at k
      obtain ⟨v, e1, e2⟩ := rs.2 i d e
      rcases e2 with e2 | ⟨c, y, rfl, _⟩
      · have hd : d.isErr = false := by
          cases d with
          | err c x => simp only [RD] at e2
          | _ => rfl
        simp only [hd, Bool.false_eq_true, if_false] at k
        exact ⟨v, e1, k μ H v r .refl e2⟩
      · exact False.elim k
theorem s_const {e : Expr} {v : V} {d : D} (he : PE X e (tC v)) (hd : ∀ μ H, RD (wd X) μ H d v) : SE X Wx e (cK d) :=
  pe_mono he fun σ H Q ⟨μ, ρ, h, r, rs, k⟩ => k μ H v r .refl (hd μ H)
theorem s_int {i j pos} : SE X Wx (.Constant (.int i) j pos) (cK (.int i)) := s_const pe_int fun _ _ => by simp only [RD]
theorem s_bl {b j pos} : SE X Wx (.Constant (.bool b) j pos) (cK (.bl b)) := s_const pe_bl fun _ _ => by simp only [RD]
theorem s_glob {x : Str} {v : V} {u : Value} {d : D} {pos : Pos} (hg : Gl X x) (hm : X.mg x = some u) (r : RelV v u) (rd : ∀ μ H, RD (wd X) μ H d v) (hd : (x == ("__debug__" : Str)) = false := by decide) : SE X Wx (.Name x pos) (cK d) :=
  s_const (pe_glob hg hm r hd) rd
end

def c1 (g : G1) (a : CE) : CE := fun ρ h => (a ρ h).bind fun x h1 => (g x h1).res
def c2 (g : G2) (a b : CE) : CE := fun ρ h => (a ρ h).bind fun x h1 => (b ρ h1).bind fun y h2 => (g x y h2).res
def cNil : CA := fun _ h => .ok [] h
def cCons (a : CE) (b : CA) : CA := fun ρ h => (a ρ h).bind fun x h1 => (b ρ h1).bind fun xs h2 => .ok (x :: xs) h2
def cC (g : GL) (a : CA) : CE := fun ρ h => (a ρ h).bind fun xs h1 => (g xs h1).res
section
variable {X : Cx} {Wx : WX} {a b : Expr} {ca cb : CE} {pos : Pos} {es : List Expr} {cs : CA}
theorem use1 {g : G1} {σ : L2.St} {H : Hp} {Q : VK} (k : lE (wd X) Wx (c1 g ca) σ H Q) : lE (wd X) Wx ca σ H fun v H1 => lV1 (wd X) g v H1 Q := by
  obtain ⟨μ, ρ, h, r, rs, k⟩ := k
  exact ⟨μ, ρ, h, r, rs, (kR.bind r k).imp fun v H1 ⟨x, μ1, h1, _, r1, e1, d1, k1⟩ => ⟨μ1, h1, x, r1, d1, kO.of k1⟩⟩
theorem use2 {g : G2} {σ : L2.St} {H : Hp} {Q : VK} (k : lE (wd X) Wx (c2 g ca cb) σ H Q) : lE (wd X) Wx ca σ H fun v H1 => lE (wd X) Wx cb σ H1 fun u H2 => lV2 (wd X) g v u H2 Q := by
  obtain ⟨μ, ρ, h, r, rs, k⟩ := k
  exact ⟨μ, ρ, h, r, rs, (kR.bind r k).imp fun v H1 ⟨x, μ1, h1, _, r1, e1, d1, k1⟩ => ⟨μ1, ρ, h1, r1, rs.ext e1 r, (kR.bind r1 k1).imp fun u H2 ⟨y, μ2, h2, _, r2, e2, d2, k2⟩ => ⟨μ2, h2, x, y, r2, RD.ext e2 r1 x v d1, d2, kO.of k2⟩⟩⟩
theorem useC {g : GL} {σ : L2.St} {H : Hp} {Q : VK} (k : lE (wd X) Wx (cC g cs) σ H Q) : lA (wd X) Wx cs σ H fun vs H1 => lVs (wd X) g vs H1 Q := by
  obtain ⟨μ, ρ, h, r, rs, k⟩ := k
  exact ⟨μ, ρ, h, r, rs, (kR.bind r k).imp fun v H1 ⟨x, μ1, h1, _, r1, e1, d1, k1⟩ => ⟨μ1, h1, x, r1, d1, kO.of k1⟩⟩
theorem s_op {op : Operator} {g : G2} (ho : OpR X (binaryOp op) (lV2 (wd X) g)) (ha : SE X Wx a ca) (hb : SE X Wx b cb) : SE X Wx (.BinOp a op b pos) (c2 g ca cb) :=
  pe_mono (pe_op ho ha hb) fun _ _ _ k => use2 k
theorem s_un {op : UnaryOp} {g : G1} (ho : UnR X (unaryOp op) (lV1 (wd X) g)) (ha : SE X Wx a ca) : SE X Wx (.UnaryOp op a pos) (c1 g ca) :=
  pe_mono (pe_un ho ha) fun _ _ _ k => use1 k
theorem s_cmp {op : CmpOp} {g : G2} (ho : OpR X (compareOp op) (lV2 (wd X) g)) (ha : SE X Wx a ca) (hb : SE X Wx b cb) (hm : behindInMarks op b = false := by first | exact nomark _ | rfl) : SE X Wx (.Compare a [op] [b] pos) (c2 g ca cb) :=
  pe_mono (pe_cmpR ho ha hb hm) fun _ _ _ k => use2 k
theorem s_nil : SA X Wx [] cNil := pa_mono pa_nil fun σ H Q ⟨μ, ρ, h, r, rs, k⟩ => k μ H [] r .refl RDs.nil
theorem s_cons (ha : SE X Wx a ca) (hr : SA X Wx es cs) (hs : starEach (a :: es) X.env = (false, eval a X.env) :: starEach es X.env := by rfl) : SA X Wx (a :: es) (cCons ca cs) := by
  refine pa_mono (pa_cons ha hr hs) fun σ H Q ⟨μ, ρ, h, r, rs, k⟩ => ?_
  refine ⟨μ, ρ, h, r, rs, (kR.bind r k).imp fun v H1 ⟨x, μ1, h1, _, r1, e1, d1, k1⟩ => ?_⟩
  refine ⟨μ1, ρ, h1, r1, rs.ext e1 r, (kR.bind (rel1 := RDs (wd X)) r1 k1).imp fun vs H2 ⟨xs, μ2, h2, _, r2, e2, d2, k2⟩ => ?_⟩
  exact k2 μ2 H2 (v :: vs) r2 .refl (RDs.cons (RD.ext e2 r1 x v d1) d2)
def gTupD : GL := fun ds h => if ds.length ≤ sizeLine then some (.tup ds, h) else none
def gLstD : GL := fun ds h => if ds.length ≤ sizeLine then some (.ref h.length, h ++ [(false, .lst ds)]) else none
theorem laidTup {pins : List (Addr × Obj)} {σ : L2.St} {H : Hp} {s : Shared} {its : List Value} {vs : List V} {t : Nat} (I : Inv X pins σ H s) (r : Vals vs its) (hz : vs.length ≤ sizeLine) :
    Inv X pins σ (upd H s.heap.objs.size (.frz { cls := .type "tuple", data := .seq its.toArray } (.tup vs))) { s with heap := s.heap.push { cls := .type "tuple", data := .seq its.toArray }, toks := t } :=
  I.laid (fun _ _ e => Heap.get?_push_of_some _ e) (Nat.le_refl _) ⟨Heap.get?_push_size _ rfl, hz, its, r, ⟨_, Heap.get?_push_size _ rfl, rfl, _, rfl⟩⟩
theorem s_tup {x1} (h : SA X Wx es cs) : SE X Wx (.Tuple es x1 pos) (cC gTupD cs) := by
  refine ⟨fun pins s σ H Q I k => wpAny_Tuple_spliced (thn (h.run pos pins s σ H _ I (useC k)) fun us s1 hh => ?_)⟩
  obtain ⟨xs, H1, I1, r, μ1, h1, ds, r1, d1, k1⟩ := hh
  unfold gTupD at k1
  split at k1
  · rename_i hz
    have hz' : xs.length ≤ sizeLine := by rw [← RDs.len d1]; exact hz
    exact ⟨by rw [← r.length]; exact hz', .ref s1.heap.objs.size, _, laidTup (t := s1.toks) I1 r hz', rfl, k1.tup r1 d1 (I1.hok.fresh (Nat.le_refl _)) rfl⟩
  · exact False.elim k1
theorem s_lst (h : SA X Wx es cs) : SE X Wx (.List es pos) (cC gLstD cs) := by
  refine pe_mono (pe_lst h) fun σ H Q k => ?_
  obtain ⟨μ, ρ, h, r, rs, k⟩ := useC k
  refine ⟨μ, ρ, h, r, rs, k.imp fun vs H1 ⟨μ1, h1, ds, r1, d1, k1⟩ => ?_⟩
  unfold gLstD at k1
  split at k1
  · rename_i hz
    exact ⟨by rw [← RDs.len d1]; exact hz, fun p hp => k1.lst r1 d1 hp⟩
  · exact False.elim k1
theorem s_callB {id : String} {x : Str} {p : Pos} {g : GL} (hc : CallR X (.builtin id) (lVs (wd X) g)) (hg : Gl X x) (hm : X.mg x = none) (hv : bootBuiltins x = some (.builtin id)) (ha : SA X Wx (a :: es) cs) (hn : x ≠ "__name__" := by decide) (hdb : (x == ("__debug__" : Str)) = false := by decide)
    (he : starEach (a :: es) X.env = (false, eval a X.env) :: starEach es X.env := by rfl) (hpl : (backTo pos (starEach es X.env)).any (·.1) = false := by rfl) : SE X Wx (.Call (.Name x p) (a :: es) [] pos) (cC g cs) :=
  pe_mono (pe_callB hc hg hm hv ha hn hdb he hpl) fun _ _ _ k => useC k
theorem s_callTy {T : String} {x : Str} {p : Pos} {g : GL} (hc : CallR X (.type T) (lVs (wd X) g)) (hg : Gl X x) (hm : X.mg x = none) (hv : bootBuiltins x = some (.type T)) (ha : SA X Wx (a :: es) cs) (hn : x ≠ "__name__" := by decide) (hdb : (x == ("__debug__" : Str)) = false := by decide)
    (he : starEach (a :: es) X.env = (false, eval a X.env) :: starEach es X.env := by rfl) (hpl : (backTo pos (starEach es X.env)).any (·.1) = false := by rfl) : SE X Wx (.Call (.Name x p) (a :: es) [] pos) (cC g cs) :=
  pe_mono (pe_callTy hc hg hm hv ha hn hdb he hpl) fun _ _ _ k => useC k
end
end Sx

set_option Elab.async false
set_option linter.all false
set_option maxRecDepth 100000
namespace Sx
open PySem PySem.Spec PyProof.Rows L2

theorem Res.bind_assoc {α β γ : Type} (r : Res α) (f : α → Hc → Res β) (g : β → Hc → Res γ) : (r.bind f).bind g = r.bind fun a h => (f a h).bind g := by
  cases r <;> rfl
def cB (a : CE) : CT := fun ρ h => (a ρ h).bind fun x h1 => match x with | .bl b => .ok b h1 | _ => .stuck
abbrev GB := D → Hc → Option Bool
def truD : GB := fun d h => match d with
  | .non => some false
  | .bl b => some b
  | .int i => some (i != 0)
  | .str x => if x.length ≤ sizeLine then some ((x.length : Int) != 0) else none
  | .tup ds => some (!ds.isEmpty)
  | .flst ds => some (!ds.isEmpty)
  | .ref n => match h[n]? with
    | some (_, .lst ds) => some (!ds.isEmpty)
    | _ => none
  | _ => none
def cTru (a : CE) : CT := fun ρ h => (a ρ h).bind fun x h1 => match truD x h1 with | some b => .ok b h1 | none => .stuck
def cNot (a : CT) : CT := fun ρ h => (a ρ h).bind fun b h1 => .ok (!b) h1
def cAnd (a b : CT) : CT := fun ρ h => (a ρ h).bind fun x h1 => match x with | true => b ρ h1 | false => .ok false h1
def cOr (a b : CT) : CT := fun ρ h => (a ρ h).bind fun x h1 => match x with | true => .ok true h1 | false => b ρ h1
def cIfE (t : CT) (a b : CE) : CE := fun ρ h => (t ρ h).bind fun x h1 => match x with | true => a ρ h1 | false => b ρ h1
def cAndV (a b : CE) : CE := fun ρ h => (a ρ h).bind fun x h1 => match x with | .bl true => b ρ h1 | .bl false => .ok (.bl false) h1 | _ => .stuck
def cOrV (a b : CE) : CE := fun ρ h => (a ρ h).bind fun x h1 => match x with | .bl true => .ok (.bl true) h1 | .bl false => b ρ h1 | _ => .stuck
def cNotV (a : CE) : CE := fun ρ h => (a ρ h).bind fun x h1 => match x with | .bl b => .ok (.bl (!b)) h1 | _ => .stuck
def cChain (g g' : G2) (a b c : CE) : CE := fun ρ h => (a ρ h).bind fun x h1 => (b ρ h1).bind fun y h2 => (g x y h2).res.bind fun z h3 => match z with
  | .bl true => (c ρ h3).bind fun w h4 => (g' y w h4).res
  | .bl false => .ok (.bl false) h3
  | _ => .stuck
section
variable {W : Wd} {μ : List Addr} {h : Hc} {H : Hp}
theorem isEmpty_len {α β : Type} {l : List α} {m : List β} (e : l.length = m.length) : l.isEmpty = m.isEmpty := by
  cases l <;> cases m <;> simp_all
theorem truD_ok {d : D} {v : V} {b : Bool} (x : R W μ h H) (r : RD W μ H d v) (e : truD d h = some b) : TruV W.K v H b := by
  cases d with
  | non => simp only [RD] at r; subst r; injection e with e; exact e.symm
  | bl k => simp only [RD] at r; subst r; injection e with e; exact e.symm
  | int i => simp only [RD] at r; subst r; injection e with e; exact e.symm
  | str z =>
    simp only [RD] at r; subst r; simp only [truD] at e
    split at e
    · rename_i hz; cases e; exact ⟨hz, rfl⟩
    · cases e
  | tup ds =>
    simp only [RD] at r
    obtain ⟨a, vs, rfl, e2, e3⟩ := r
    injection e with e; subst e
    exact .inr (.inl ⟨vs, e2.seq, by rw [isEmpty_len (RDs.len e3)]⟩)
  | flst ds =>
    simp only [RD] at r
    obtain ⟨a, vs, rfl, e2, e3⟩ := r
    injection e with e; subst e
    exact .inl ⟨vs, e2.seq, by rw [isEmpty_len (RDs.len e3)]⟩
  | ref n =>
    simp only [RD] at r
    obtain ⟨a, e1, rfl⟩ := r
    obtain ⟨⟨l, o⟩, e2, ro⟩ := x.at e1
    cases o with
    | lst ds =>
      simp only [truD, e2] at e; injection e with e; subst e
      obtain ⟨vs, e3, e4⟩ := ro
      exact .inl ⟨vs, SqL.of e3, by rw [isEmpty_len (RDs.len e4)]⟩
    | _ => simp only [truD, e2] at e; cases e
  | _ => cases e
end
section
variable {X : Cx} {Wx : WX} {a b c : Expr} {ca cb cc : CE} {ta tb : CT} {pos : Pos} {rest : List Expr}
theorem s_truth (ha : SE X Wx a ca) (he : ∀ whole, isTrue a X.env whole = (do let v ← whole; standAt a.pos; holding [v] (truthy v)) := by intro _; rfl) : ST X Wx a (cTru ca) := by
  refine pt_mono (pt_truth ha he) fun σ H Q ⟨μ, ρ, h, r, rs, k⟩ => ?_
  refine ⟨μ, ρ, h, r, rs, (kR.bind r k).imp fun v H1 ⟨x, μ1, h1, _, r1, e1, d1, k1⟩ => ?_⟩
  cases e : truD x h1 with
  | none => rw [e] at k1; exact False.elim k1
  | some q =>
    rw [e] at k1
    exact ⟨q, truD_ok r1 d1 e, k1 μ1 H1 q r1 .refl rfl⟩
theorem s_cmpT {op : CmpOp} {g : G2} (ho : OpR X (compareOp op) (lV2 (wd X) g)) (ha : SE X Wx a ca) (hb : SE X Wx b cb) (hm : behindInMarks op b = false := by first | exact nomark _ | rfl) : ST X Wx (.Compare a [op] [b] pos) (cB (c2 g ca cb)) := by
  refine pt_mono (pt_cmpR ho ha hb hm) fun σ H Q ⟨μ, ρ, h, r, rs, k⟩ => ?_
  refine use2 ⟨μ, ρ, h, r, rs, (kR.bind r k).imp fun v H1 ⟨x, μ1, h1, _, r1, e1, d1, k1⟩ => ?_⟩
  cases x with
  | bl q =>
    simp only [RD] at d1; subst d1
    exact ⟨q, rfl, k1 μ1 H1 q r1 .refl rfl⟩
  | _ => exact False.elim k1
theorem s_chainT {op op' : CmpOp} {g g' : G2} (ho : OpR X (compareOp op) (lV2 (wd X) g)) (ho' : OpR X (compareOp op') (lV2 (wd X) g')) (ha : SE X Wx a ca) (hb : SE X Wx b cb) (hc : SE X Wx c cc)
    (hm : lastMarks [op, op'] [b, c] = false := by with_unfolding_all rfl) : ST X Wx (.Compare a [op, op'] [b, c] pos) (cB (cChain g g' ca cb cc)) := by
  refine pt_mono (pt_chain ho ho' ha hb hc hm) fun σ H Q ⟨μ, ρ, h, r, rs, k⟩ => ?_
  have k0 : kR rB (wd X) Wx μ h H σ Q ((ca ρ h).bind fun x h1 => (cb ρ h1).bind fun y h2 => (g x y h2).res.bind fun z h3 => (match z with
    | .bl true => (cc ρ h3).bind fun w h4 => (g' y w h4).res
    | .bl false => .ok (.bl false) h3
    | _ => .stuck : Res Sx.D).bind fun x h1 => match x with | .bl b => .ok b h1 | _ => .stuck) := by
    have e : cB (cChain g g' ca cb cc) ρ h = _ := rfl
    unfold cB cChain at k
    simpa only [Res.bind_assoc] using k
  refine ⟨μ, ρ, h, r, rs, (kR.bind r k0).imp fun v H1 ⟨x, μ1, h1, _, r1, e1, d1, k1⟩ => ?_⟩
  refine ⟨μ1, ρ, h1, r1, rs.ext e1 r, (kR.bind r1 k1).imp fun u H2 ⟨y, μ2, h2, _, r2, e2, d2, k2⟩ => ?_⟩
  refine ⟨μ2, h2, x, y, r2, RD.ext e2 r1 x v d1, d2, kO.of ((kR.bind r2 k2).imp fun z H3 ⟨z', μ3, h3, _, r3, e3, d3, k3⟩ => ?_)⟩
  cases z' with
  | bl q =>
    simp only [RD] at d3; subst d3
    refine ⟨q, rfl, ?_⟩
    cases q with
    | true =>
      rw [if_pos rfl]
      have k4 : kR rB (wd X) Wx μ3 h3 H3 σ Q ((cc ρ h3).bind fun w h4 => (g' y w h4).res.bind fun x h1 => match x with | .bl b => .ok b h1 | _ => .stuck) := by
        simpa only [Res.bind_assoc] using k3
      refine ⟨μ3, ρ, h3, r3, ((rs.ext e1 r).ext e2 r1).ext e3 r2, (kR.bind r3 k4).imp fun w H4 ⟨w', μ4, h4, _, r4, e4, d4, k4⟩ => ?_⟩
      refine ⟨μ4, h4, y, w', r4, RD.ext e4 r3 y u (RD.ext e3 r2 y u d2), d4, kO.of ((kR.bind r4 k4).imp fun z5 H5 ⟨z6, μ5, h5, _, r5, e5, d5, k5⟩ => ?_)⟩
      cases z6 with
      | bl q5 =>
        simp only [RD] at d5; subst d5
        exact ⟨q5, rfl, k5 μ5 H5 q5 r5 .refl rfl⟩
      | _ => exact False.elim k5
    | false =>
      rw [if_neg Bool.false_ne_true]
      exact ⟨false, rfl, k3 μ3 H3 false r3 .refl rfl⟩
  | _ => exact False.elim k3
theorem s_not (ha : ST X Wx a ta) : ST X Wx (.UnaryOp .Not a pos) (cNot ta) := by
  refine pt_mono (pt_not ha) fun σ H Q ⟨μ, ρ, h, r, rs, k⟩ => ?_
  exact ⟨μ, ρ, h, r, rs, (kR.bind r k).imp fun v H1 ⟨x, μ1, h1, _, r1, e1, d1, k1⟩ => k1 μ1 H1 _ r1 .refl (by rw [d1])⟩
theorem s_and1 (ha : ST X Wx a ta) : SW X Wx (.BoolOp .And [a] pos) ta := pw_and1 ha
theorem s_or1 (ha : ST X Wx a ta) : SW X Wx (.BoolOp .Or [a] pos) ta := pw_or1 ha
theorem s_and (ha : ST X Wx a ta) (hb : SW X Wx (.BoolOp .And (b :: rest) pos) tb) : SW X Wx (.BoolOp .And (a :: b :: rest) pos) (cAnd ta tb) := by
  refine pw_mono (pw_and ha hb) fun σ H Q ⟨μ, ρ, h, r, rs, k⟩ => ?_
  refine ⟨μ, ρ, h, r, rs, (kR.bind r k).imp fun v H1 ⟨x, μ1, h1, _, r1, e1, d1, k1⟩ => ?_⟩
  have d1' : v = x := d1
  subst d1'
  cases v with
  | true => rw [if_pos rfl]; exact ⟨μ1, ρ, h1, r1, rs.ext e1 r, k1⟩
  | false => rw [if_neg Bool.false_ne_true]; exact k1 μ1 H1 false r1 .refl rfl
theorem s_or (ha : ST X Wx a ta) (hb : SW X Wx (.BoolOp .Or (b :: rest) pos) tb) : SW X Wx (.BoolOp .Or (a :: b :: rest) pos) (cOr ta tb) := by
  refine pw_mono (pw_or ha hb) fun σ H Q ⟨μ, ρ, h, r, rs, k⟩ => ?_
  refine ⟨μ, ρ, h, r, rs, (kR.bind r k).imp fun v H1 ⟨x, μ1, h1, _, r1, e1, d1, k1⟩ => ?_⟩
  have d1' : v = x := d1
  subst d1'
  cases v with
  | true => rw [if_pos rfl]; exact k1 μ1 H1 true r1 .refl rfl
  | false => rw [if_neg Bool.false_ne_true]; exact ⟨μ1, ρ, h1, r1, rs.ext e1 r, k1⟩
theorem s_pw (h : SW X Wx a ta) : ST X Wx a ta := h.pt
theorem s_oneV {op} (ha : SE X Wx a ca) : SE X Wx (.BoolOp op [a] pos) ca := pe_one ha
theorem s_andV (ha : SE X Wx a ca) (hb : SE X Wx (.BoolOp .And (b :: rest) pos) cb) : SE X Wx (.BoolOp .And (a :: b :: rest) pos) (cAndV ca cb) := by
  refine pe_mono (pe_and ha hb) fun σ H Q ⟨μ, ρ, h, r, rs, k⟩ => ?_
  refine ⟨μ, ρ, h, r, rs, (kR.bind r k).imp fun v H1 ⟨x, μ1, h1, _, r1, e1, d1, k1⟩ => ?_⟩
  cases x with
  | bl q =>
    simp only [RD] at d1; subst d1
    refine ⟨q, rfl, ?_⟩
    cases q with
    | true => rw [if_pos rfl]; exact ⟨μ1, ρ, h1, r1, rs.ext e1 r, k1⟩
    | false => rw [if_neg Bool.false_ne_true]; exact k1 μ1 H1 _ r1 .refl (by simp only [RD])
  | _ => exact False.elim k1
theorem s_notV (ha : SE X Wx a ca) : SE X Wx (.UnaryOp .Not a pos) (cNotV ca) := by
  refine pe_mono (pe_not ha) fun σ H Q ⟨μ, ρ, h, r, rs, k⟩ => ?_
  refine ⟨μ, ρ, h, r, rs, (kR.bind r k).imp fun v H1 ⟨x, μ1, h1, _, r1, e1, d1, k1⟩ => ?_⟩
  cases x with
  | bl q =>
    simp only [RD] at d1; subst d1
    exact ⟨q, rfl, k1 μ1 H1 _ r1 .refl (by simp only [RD])⟩
  | _ => exact False.elim k1
theorem s_ifE {t : Expr} (ht : ST X Wx t ta) (ha : SE X Wx a ca) (hb : SE X Wx b cb) : SE X Wx (.IfExp t a b pos) (cIfE ta ca cb) := by
  refine pe_mono (pe_ifExp ht ha hb) fun σ H Q ⟨μ, ρ, h, r, rs, k⟩ => ?_
  refine ⟨μ, ρ, h, r, rs, (kR.bind r k).imp fun v H1 ⟨x, μ1, h1, _, r1, e1, d1, k1⟩ => ?_⟩
  have d1' : v = x := d1
  subst d1'
  cases v with
  | true => rw [if_pos rfl]; exact ⟨μ1, ρ, h1, r1, rs.ext e1 r, k1⟩
  | false => rw [if_neg Bool.false_ne_true]; exact ⟨μ1, ρ, h1, r1, rs.ext e1 r, k1⟩
end

def ofR {α : Type} (r : Res α) (ρ : Rho) (f : α → Hc → ResS) : ResS := match r with
  | .ok a h => f a h
  | .exn c x h => .ok (.exn c x) ρ h
  | .stuck => .stuck
def cSkip : CS := fun ρ h => .ok .nx ρ h
def cSeq (a b : CS) : CS := fun ρ h => match a ρ h with
  | .ok .nx ρ' h' => b ρ' h'
  | r => r
def cDrop (a : CE) : CS := fun ρ h => ofR (a ρ h) ρ fun _ h1 => .ok .nx ρ h1
def cRet (a : CE) : CS := fun ρ h => ofR (a ρ h) ρ fun d h1 => .ok (.ret d) ρ h1
def cRetN : CS := fun ρ h => .ok (.ret .non) ρ h
def cBk : CS := fun ρ h => .ok .bk ρ h
def cCt : CS := fun ρ h => .ok .ct ρ h
def cSet (i : Nat) (a : CE) : CS := fun ρ h => ofR (a ρ h) ρ fun d h1 => .ok .nx (ρ.set i (some d)) h1
def cIf (t : CT) (a b : CS) : CS := fun ρ h => ofR (t ρ h) ρ fun x h1 => match x with | true => a ρ h1 | false => b ρ h1
def cPar (i j : Nat) (a b : CE) : CS := fun ρ h => ofR (a ρ h) ρ fun x h1 => ofR (b ρ h1) ρ fun y h2 => .ok .nx ((ρ.set i (some x)).set j (some y)) h2
def cWhile : Nat → CT → CS → CS
  | 0, _, _ => fun _ _ => .stuck
  | n + 1, t, b => fun ρ h => ofR (t ρ h) ρ fun x h1 => match x with
    | false => .ok .nx ρ h1
    | true => match b ρ h1 with
      | .ok .nx ρ2 h2 => cWhile n t b ρ2 h2
      | .ok .ct ρ2 h2 => cWhile n t b ρ2 h2
      | .ok .bk ρ2 h2 => .ok .nx ρ2 h2
      | r => r
section
variable {α β : Type} {rel : List Addr → Hp → α → β → Prop} {W : Wd} {Wx : WX} {μ μ1 : List Addr} {h h1 : Hc} {H H1 : Hp} {σ : L2.St} {ρ : Rho} {D D' : Ends}
theorem kS.shift {r : ResS} (x : R W μ h H) (E : Ext μ h H μ1 h1 H1) (k : kS W Wx μ h H D r) : kS W Wx μ1 h1 H1 D r := by
  cases r with
  | ok f ρ' h' => exact fun μ' H' σ' y z w => k μ' H' σ' y (E.trans x z) w
  | stuck => exact k
theorem kS.bind {r : Res α} {f : α → Hc → ResS} (x : R W μ h H) (rs : RS W μ H ρ σ) (k : kS W Wx μ h H D (ofR r ρ f)) :
    kR rel W Wx μ h H σ (fun b H1 => ∃ a μ1 h1, r = .ok a h1 ∧ R W μ1 h1 H1 ∧ Ext μ h H μ1 h1 H1 ∧ rel μ1 H1 a b ∧ kS W Wx μ1 h1 H1 D (f a h1)) r := by
  cases r with
  | ok a h1 => exact fun μ1 H1 b y z w => ⟨a, μ1, h1, rfl, y, z, w, kS.shift x z k⟩
  | exn c d h' => exact fun μ' H' C dd v a y z b e => k μ' H' σ y z (rs.ext z x) C dd v a b e
  | stuck => exact k
theorem kS.nx {ρ' : Rho} (x : R W μ h H) (rs : RS W μ H ρ' σ) (k : kS W Wx μ h H D (.ok .nx ρ' h)) : D.nx σ H := k μ H σ x .refl rs
theorem kS.retn {d : Sx.D} {v : V} (x : R W μ h H) (rs : RS W μ H ρ σ) (k : kS W Wx μ h H D (.ok (.ret d) ρ h)) (rd : RD W μ H d v) : D.rt v H := k μ H σ x .refl rs v rd
theorem RS.put {d : Sx.D} {v : V} (rs : RS W μ H ρ σ) (rd : RD W μ H d v) (i : Nat) : RS W μ H (ρ.set i (some d)) (σ.set i (some v)) := by
  refine ⟨by simp [rs.1], fun j e q => ?_⟩
  by_cases hj : i = j
  · subst hj
    by_cases hi : i < ρ.length
    · rw [List.getElem?_set_self hi] at q
      cases q
      exact ⟨v, by rw [List.getElem?_set_self (by rw [← rs.1]; exact hi)], .inl rd⟩
    · rw [List.getElem?_eq_none (by simp; omega)] at q; cases q
  · rw [List.getElem?_set_ne hj] at q
    obtain ⟨w, e1, e2⟩ := rs.2 j e q
    exact ⟨w, by rw [List.getElem?_set_ne hj]; exact e1, e2⟩
end
section
variable {X : Cx} {Wx : WX} {st : Stmt} {rest : List Stmt} {e a b : Expr} {ce ca cb : CE} {t : Expr} {ct : CT} {cs cr : CS} {pos : Pos}
theorem ss_nil : SSs X Wx [] cSkip := pss_mono pss_nil fun D σ H ⟨μ, ρ, h, r, rs, k⟩ => k.nx r rs
theorem ss_cons (h1 : SS X Wx st cs) (h2 : SSs X Wx rest cr) : SSs X Wx (st :: rest) (cSeq cs cr) := by
  refine pss_mono (pss_cons h1 h2) fun D σ H ⟨μ, ρ, h, r, rs, k⟩ => ?_
  refine ⟨μ, ρ, h, r, rs, ?_⟩
  unfold cSeq at k
  cases e : cs ρ h with
  | stuck => rw [e] at k; exact k
  | ok f ρ' h' =>
    rw [e] at k
    cases f with
    | nx => exact fun μ' H' σ' y z w => ⟨μ', ρ', h', y, w, kS.shift r z k⟩
    | bk => exact k
    | ct => exact k
    | ret d => exact k
    | exn c x => exact k
theorem ss_one (h1 : SS X Wx st cs) : SSs X Wx [st] cs := pss_one h1
theorem s_drop (he : SE X Wx e ce) (hs : swapsWith e none pos.line X.env = pure false := by rfl) : SS X Wx (.Expr e pos) (cDrop ce) := by
  refine ps_mono (ps_expr he hs) fun D σ H ⟨μ, ρ, h, r, rs, k⟩ => ?_
  exact ⟨μ, ρ, h, r, rs, (kS.bind r rs k).imp fun v H1 ⟨x, μ1, h1, _, r1, e1, d1, k1⟩ => k1.nx r1 (rs.ext e1 r)⟩
theorem s_ret (he : SE X Wx e ce) : SS X Wx (.Return (some e) pos) (cRet ce) := by
  refine ps_mono (ps_ret he) fun D σ H ⟨μ, ρ, h, r, rs, k⟩ => ?_
  exact ⟨μ, ρ, h, r, rs, (kS.bind r rs k).imp fun v H1 ⟨x, μ1, h1, _, r1, e1, d1, k1⟩ => kS.retn r1 (rs.ext e1 r) k1 d1⟩
theorem s_set {i : Nat} {x : Str} {pos' : Pos} (hN : X.N.Nodup) (he : SE X Wx e ce) (hi : X.N[i]? = some x := by rfl) (hx : Loc X.env.scope x := by first | exact Or.inl rfl | exact Or.inr rfl) (hs : swapsWith e (some (.Name x pos')) pos.line X.env = pure false := by rfl)
    (hf : X.fn x = true ∨ X.env.scope.names.lookup x = some .local := by first | exact .inl rfl | exact .inr rfl) : SS X Wx (.Assign [.Name x pos'] e pos) (cSet i ce) := by
  refine ps_mono (ps_set hN hi hx he hs hf) fun D σ H ⟨μ, ρ, h, r, rs, k⟩ => ?_
  exact ⟨μ, ρ, h, r, rs, (kS.bind r rs k).imp fun v H1 ⟨x, μ1, h1, _, r1, e1, d1, k1⟩ => k1.nx r1 ((rs.ext e1 r).put d1 i)⟩
theorem s_if {xs ys : List Stmt} {cx cy : CS} (ht : ST X Wx t ct) (ha : SSs X Wx xs cx) (hb : SSs X Wx ys cy) : SS X Wx (.If t xs ys pos) (cIf ct cx cy) := by
  refine ps_mono (ps_if ht ha hb) fun D σ H ⟨μ, ρ, h, r, rs, k⟩ => ?_
  refine ⟨μ, ρ, h, r, rs, (kS.bind r rs k).imp fun v H1 ⟨x, μ1, h1, _, r1, e1, d1, k1⟩ => ?_⟩
  have d1' : v = x := d1
  subst d1'
  cases v with
  | true => rw [if_pos rfl]; exact ⟨μ1, ρ, h1, r1, rs.ext e1 r, k1⟩
  | false => rw [if_neg Bool.false_ne_true]; exact ⟨μ1, ρ, h1, r1, rs.ext e1 r, k1⟩
theorem s_par {i j : Nat} {x y : Str} {px py pt : Pos} {kt k2 pt2} (hc : X.calm = true) (hN : X.N.Nodup) (ha : SE X Wx a ca) (hb : SE X Wx b cb) (hi : X.N[i]? = some x := by rfl) (hj : X.N[j]? = some y := by rfl) (hij : i ≠ j := by decide)
    (hx : X.env.scope.names.lookup x = some .local := by rfl) (hy : X.env.scope.names.lookup y = some .local := by rfl)
    (hw : swappedStores [.Tuple [.Name x px, .Name y py] kt pt] (.Tuple [a, b] k2 pt2) X.env = pure (some [x, y]) := by rfl)
    (hs : swapsWithSole [.Tuple [.Name x px, .Name y py] kt pt] (.Tuple [a, b] k2 pt2) pos.line X.env = pure false := by rfl)
    (hs1 : starEach [a, b] X.env = (false, eval a X.env) :: starEach [b] X.env := by rfl) (hs2 : starEach [b] X.env = (false, eval b X.env) :: starEach [] X.env := by rfl) :
    SS X Wx (.Assign [.Tuple [.Name x px, .Name y py] kt pt] (.Tuple [a, b] k2 pt2) pos) (cPar i j ca cb) := by
  refine ps_mono (ps_par hc hN hi hj hij hx hy (pa_cons ha (pa_cons hb pa_nil hs2) hs1) hw hs) fun D σ H ⟨μ, ρ, h, r, rs, k⟩ => ?_
  refine ⟨μ, ρ, h, r, rs, (kS.bind r rs k).imp fun v H1 ⟨x, μ1, h1, _, r1, e1, d1, k1⟩ => ?_⟩
  refine ⟨μ1, ρ, h1, r1, rs.ext e1 r, (kS.bind r1 (rs.ext e1 r) k1).imp fun u H2 ⟨y, μ2, h2, _, r2, e2, d2, k2⟩ => ?_⟩
  exact ⟨v, u, rfl, k2.nx r2 ((((rs.ext e1 r).ext e2 r1).put (RD.ext e2 r1 x v d1) i).put d2 j)⟩
theorem s_while {xs : List Stmt} {cx : CS} (n : Nat) (hp : PassesOwn (model X.prog X.w) X.A X.env X.xe) (ht : ST X Wx t ct) (hb : SSs X Wx xs cx) : SS X Wx (.While t xs [] pos) (cWhile n ct cx) := by
  refine ps_mono (ps_while hp ht hb) fun D σ H k => ?_
  refine ⟨fun m σ H => lS (wd X) Wx (cWhile m ct cx) D σ H, ⟨n, k⟩, fun m σ H k => ?_⟩
  obtain ⟨μ, ρ, h, r, rs, k⟩ := k
  cases m with
  | zero => exact False.elim k
  | succ m =>
    refine ⟨μ, ρ, h, r, rs, (kS.bind r rs k).imp fun v H1 ⟨x, μ1, h1, _, r1, e1, d1, k1⟩ => ?_⟩
    have d1' : v = x := d1
    subst d1'
    cases v with
    | false => rw [if_neg Bool.false_ne_true]; exact k1.nx r1 (rs.ext e1 r)
    | true =>
      rw [if_pos rfl]
      refine ⟨fun σ' H' => lS (wd X) Wx (cWhile m ct cx) D σ' H', fun σ' H' q => ⟨m, Nat.lt_succ_self m, q⟩, μ1, ρ, h1, r1, rs.ext e1 r, ?_⟩
      have k2 : kS (wd X) Wx μ1 h1 H1 D (match cx ρ h1 with | .ok .nx ρ2 h2 => cWhile m ct cx ρ2 h2 | .ok .ct ρ2 h2 => cWhile m ct cx ρ2 h2 | .ok .bk ρ2 h2 => .ok .nx ρ2 h2 | r => r) := k1
      cases e : cx ρ h1 with
      | stuck => rw [e] at k2; exact k2
      | ok f ρ' h' =>
        rw [e] at k2
        cases f with
        | nx => exact fun μ' H' σ' y z w => ⟨μ', ρ', h', y, w, kS.shift r1 z k2⟩
        | ct => exact fun μ' H' σ' y z w => ⟨μ', ρ', h', y, w, kS.shift r1 z k2⟩
        | bk => exact fun μ' H' σ' y z w => k2 μ' H' σ' y z w
        | ret d => exact k2
        | exn c x => exact k2
end
end Sx

set_option Elab.async false
set_option linter.all false
set_option maxRecDepth 100000
namespace Sx
open PySem PySem.Spec PyProof.Rows L2

def asSeq (d : D) (h : Hc) : Option (List D) := match d with
  | .tup ds => some ds
  | .flst ds => some ds
  | .ref n => match h[n]? with
    | some (_, .lst ds) => some ds
    | _ => none
  | _ => none
def intsOf : List D → Option (List Int)
  | [] => some []
  | .int i :: r => match intsOf r with | some l => some (i :: l) | none => none
  | _ :: _ => none
def blsOf : List D → Option (List Bool)
  | [] => some []
  | .bl i :: r => match blsOf r with | some l => some (i :: l) | none => none
  | _ :: _ => none
section
variable {W : Wd} {μ : List Addr} {h : Hc} {H : Hp} {d : D} {v : V} {ds : List D} {vs : List V}
theorem asSeq_ok (x : R W μ h H) (r : RD W μ H d v) (e : asSeq d h = some ds) : ∃ a vs, v = .ref a ∧ (SqL W.K H a vs ∨ SqT W.K H a vs) ∧ RDs W μ H ds vs := by
  cases d with
  | tup es =>
    injection e with e; subst e
    simp only [RD] at r
    obtain ⟨a, vs, rfl, e2, e3⟩ := r
    exact ⟨a, vs, rfl, .inr e2.seq, e3⟩
  | flst es =>
    injection e with e; subst e
    simp only [RD] at r
    obtain ⟨a, vs, rfl, e2, e3⟩ := r
    exact ⟨a, vs, rfl, .inl e2.seq, e3⟩
  | ref n =>
    simp only [RD] at r
    obtain ⟨a, e1, rfl⟩ := r
    obtain ⟨⟨l, o⟩, e2, ro⟩ := x.at e1
    cases o with
    | lst es =>
      simp only [asSeq, e2] at e; injection e with e; subst e
      obtain ⟨vs, e3, e4⟩ := ro
      exact ⟨a, vs, rfl, .inl (SqL.of e3), e4⟩
    | _ => simp only [asSeq, e2] at e; cases e
  | _ => cases e
theorem intsOf_ok : ∀ {ds : List D} {vs : List V} {ns : List Int}, RDs W μ H ds vs → intsOf ds = some ns → vs = ns.map V.int ∧ ds = ns.map D.int
  | [], vs, ns, r, e => by
    simp only [RDs] at r; subst r
    injection e with e; subst e; exact ⟨rfl, rfl⟩
  | d :: ds, vs, ns, r, e => by
    simp only [RDs] at r
    obtain ⟨v, t, rfl, r1, r2⟩ := r
    cases d with
    | int i =>
      simp only [intsOf] at e
      cases q : intsOf ds with
      | none => rw [q] at e; cases e
      | some l =>
        rw [q] at e
        injection e with e; subst e
        simp only [RD] at r1; subst r1
        obtain ⟨a, b⟩ := intsOf_ok r2 q
        rw [a, b]; exact ⟨rfl, rfl⟩
    | _ => cases e
theorem blsOf_ok : ∀ {ds : List D} {vs : List V} {ns : List Bool}, RDs W μ H ds vs → blsOf ds = some ns → vs = ns.map V.bl
  | [], vs, ns, r, e => by
    simp only [RDs] at r; subst r
    injection e with e; subst e; rfl
  | d :: ds, vs, ns, r, e => by
    simp only [RDs] at r
    obtain ⟨v, t, rfl, r1, r2⟩ := r
    cases d with
    | bl i =>
      simp only [blsOf] at e
      cases q : blsOf ds with
      | none => rw [q] at e; cases e
      | some l =>
        rw [q] at e
        injection e with e; subst e
        simp only [RD] at r1; subst r1
        rw [blsOf_ok r2 q]; rfl
    | _ => cases e
end

def small64b (i : Int) : Bool := decide (-(2 ^ 64) < i) && decide (i < 2 ^ 64)
def mulOk (i j : Int) : Bool := small64b i || small64b j || Nat.ble (i.natAbs.log2 + j.natAbs.log2 + 1) 1000000
def divOk (j : Int) : Bool := (j != 0 && Nat.blt j.natAbs 1073741824) || (decide (0 < j) && Nat.blt j.natAbs.log2 9000)
def gSub : G2 := fun x y h => match x, y with
  | .int i, .int j => some (.int (i - j), h)
  | _, _ => none
def repD (k : Int) (ds : List D) : List D := (List.replicate k.toNat ds).flatten
def repOk (k : Int) (ds : List D) : Bool := decide (-1000 ≤ k) && decide (k ≤ 1000) && decide (ds.length ≤ 1000)
def gMul : G2 := fun x y h => match x, y with
  | .int i, .int j => if mulOk i j then some (.int (i * j), h) else none
  | .tup ds, .int k => if repOk k ds then some (.tup (repD k ds), h) else none
  | .ref n, .int k => match h[n]? with
    | some (_, .lst ds) => if decide (-(2 ^ 63) ≤ k) && decide (k < 2 ^ 63) && decide (ds.length * k.toNat ≤ sizeLine) then some (.ref h.length, h ++ [(false, .lst (repD k ds))]) else none
    | _ => none
  | _, _ => none
def gDiv : G2 := fun x y h => match x, y with
  | .int i, .int j => if divOk j then some (.int (i.fdiv j), h) else none
  | _, _ => none
def gMod : G2 := fun x y h => match x, y with
  | .int i, .int j => if j = 0 then none else some (.int (i.fmod j), h)
  | _, _ => none
def gPow : G2 := fun x y h => match x, y with
  | .int i, .int j => if decide (0 ≤ j) && decide (j ≤ 1000000) && Nat.blt i.natAbs (2 ^ 64) then some (.int (i ^ j.toNat), h) else none
  | _, _ => none
def gNeg : G1 := fun x h => match x with
  | .int i => some (.int (-i), h)
  | _ => none
def gLt : G2 := fun x y h => match x, y with | .int i, .int j => some (.bl (decide (i < j)), h) | _, _ => none
def gLe : G2 := fun x y h => match x, y with | .int i, .int j => some (.bl (decide (i ≤ j)), h) | _, _ => none
def gGt : G2 := fun x y h => match x, y with | .int i, .int j => some (.bl (decide (j < i)), h) | _, _ => none
def gGe : G2 := fun x y h => match x, y with | .int i, .int j => some (.bl (decide (j ≤ i)), h) | _, _ => none
def gAdd : G2 := fun x y h => match x, y with
  | .int i, .int j => some (.int (i + j), h)
  | .str a, .str b => if a.length + b.length ≤ sizeLine then some (.str (a ++ b), h) else none
  | .tup a, .tup b => if a.length + b.length ≤ sizeLine then some (.tup (a ++ b), h) else none
  | .ref m, .ref n => match h[m]?, h[n]? with
    | some (_, .lst a), some (_, .lst b) => if a.length + b.length ≤ sizeLine then some (.ref h.length, h ++ [(false, .lst (a ++ b))]) else none
    | _, _ => none
  | _, _ => none
theorem opI2 {X : Cx} {f : Value → Value → Sem Value} {C : Int → Int → Prop} {F : Int → Int → Int} {g : G2} (ho : OpR X f (rI C fun i j => .int (F i j)))
    (hg : ∀ x y h o, g x y h = some o → ∃ i j, x = .int i ∧ y = .int j ∧ C i j ∧ o = (.int (F i j), h)) : OpR X f (lV2 (wd X) g) := by
  intro pins s σ H x y v u Q I rx ry k
  obtain ⟨μ, h, dx, dy, r, d1, d2, k⟩ := k
  cases e : g dx dy h with
  | none => rw [e] at k; exact False.elim k
  | some o =>
    rw [e] at k
    obtain ⟨i, j, rfl, rfl, c, rfl⟩ := hg _ _ _ _ e
    simp only [RD] at d1 d2; subst d1; subst d2
    exact ho pins s σ H _ _ v u Q I rx ry ⟨i, j, rfl, rfl, c, k.here r (by simp only [RD])⟩
theorem opB2 {X : Cx} {f : Value → Value → Sem Value} {F : Int → Int → Bool} {g : G2} (ho : OpR X f (rI0 fun i j => .bl (F i j)))
    (hg : ∀ x y h o, g x y h = some o → ∃ i j, x = .int i ∧ y = .int j ∧ o = (.bl (F i j), h)) : OpR X f (lV2 (wd X) g) := by
  intro pins s σ H x y v u Q I rx ry k
  obtain ⟨μ, h, dx, dy, r, d1, d2, k⟩ := k
  cases e : g dx dy h with
  | none => rw [e] at k; exact False.elim k
  | some o =>
    rw [e] at k
    obtain ⟨i, j, rfl, rfl, rfl⟩ := hg _ _ _ _ e
    simp only [RD] at d1 d2; subst d1; subst d2
    exact ho pins s σ H _ _ v u Q I rx ry ⟨i, j, rfl, rfl, k.here r (by simp only [RD])⟩
section
variable {X : Cx}
theorem o_sub : OpR X (binaryOp .Sub) (lV2 (wd X) gSub) := opI2 (C := fun _ _ => True) (F := fun i j => i - j) (fun pins s σ H x y v u Q I rx ry ⟨i, j, e1, e2, _, q⟩ => op_sub pins s σ H x y v u Q I rx ry ⟨i, j, e1, e2, q⟩) fun x y h o e => by
  unfold gSub at e; split at e
  · injection e with e; exact ⟨_, _, rfl, rfl, trivial, e.symm⟩
  · cases e
theorem o_lt : OpR X (compareOp .Lt) (lV2 (wd X) gLt) := opB2 op_lt fun x y h o e => by
  unfold gLt at e; split at e
  · injection e with e; exact ⟨_, _, rfl, rfl, e.symm⟩
  · cases e
theorem o_le : OpR X (compareOp .LtE) (lV2 (wd X) gLe) := opB2 op_le fun x y h o e => by
  unfold gLe at e; split at e
  · injection e with e; exact ⟨_, _, rfl, rfl, e.symm⟩
  · cases e
theorem o_gt : OpR X (compareOp .Gt) (lV2 (wd X) gGt) := opB2 op_gt fun x y h o e => by
  unfold gGt at e; split at e
  · injection e with e; exact ⟨_, _, rfl, rfl, e.symm⟩
  · cases e
theorem o_ge : OpR X (compareOp .GtE) (lV2 (wd X) gGe) := opB2 op_ge fun x y h o e => by
  unfold gGe at e; split at e
  · injection e with e; exact ⟨_, _, rfl, rfl, e.symm⟩
  · cases e
theorem divOk_cases {j : Int} (h : divOk j = true) : CDivN 0 j ∨ CDivW 0 j := by
  unfold divOk at h
  simp only [Bool.or_eq_true, Bool.and_eq_true, bne_iff_ne, ne_eq, decide_eq_true_eq, Nat.blt_eq] at h
  rcases h with ⟨a, b⟩ | ⟨a, b⟩
  · exact .inl ⟨a, b⟩
  · exact .inr ⟨a, b⟩
theorem o_div : OpR X (binaryOp .FloorDiv) (lV2 (wd X) gDiv) := by
  intro pins s σ H x y v u Q I rx ry k
  obtain ⟨μ, h, dx, dy, r, d1, d2, k⟩ := k
  cases dx with
  | int i =>
    cases dy with
    | int j =>
      simp only [RD] at d1 d2; subst d1; subst d2
      simp only [gDiv] at k
      split at k
      · rename_i hj
        have kk := k.here r (v := .int (i.fdiv j)) (by simp only [RD])
        rcases divOk_cases hj with c | c
        · exact op_fdivN pins s σ H _ _ v u Q I rx ry ⟨i, j, rfl, rfl, c, kk⟩
        · exact op_fdivW pins s σ H _ _ v u Q I rx ry ⟨i, j, rfl, rfl, c, by rw [Int.fdiv_eq_ediv_of_nonneg i (Int.le_of_lt c.1)] at kk; exact kk⟩
      · exact False.elim k
    | _ => exact False.elim k
  | _ => exact False.elim k
theorem o_mod : OpR X (binaryOp .Mod) (lV2 (wd X) gMod) := opI2 op_modN fun x y h o e => by
  unfold gMod at e; split at e
  · split at e
    · cases e
    · rename_i hj; injection e with e; exact ⟨_, _, rfl, rfl, hj, e.symm⟩
  · cases e
theorem o_pow : OpR X (binaryOp .Pow) (lV2 (wd X) gPow) := opI2 op_pow fun x y h o e => by
  unfold gPow at e; split at e
  · split at e
    · rename_i i j hj
      simp only [Bool.and_eq_true, decide_eq_true_eq, Nat.blt_eq] at hj
      injection e with e
      exact ⟨_, _, rfl, rfl, ⟨hj.1.1, hj.1.2, hj.2⟩, e.symm⟩
    · cases e
  · cases e
theorem o_neg : UnR X (unaryOp .USub) (lV1 (wd X) gNeg) := by
  intro pins s σ H x v Q I rx k
  obtain ⟨μ, h, dx, r, d1, k⟩ := k
  cases dx with
  | int i =>
    simp only [RD] at d1; subst d1
    exact un_neg pins s σ H _ v Q I rx ⟨i, rfl, k.here r (by simp only [RD])⟩
  | _ => exact False.elim k
end

section
variable {X : Cx} {W : Wd} {μ : List Addr} {h : Hc} {H : Hp} {d : D} {v : V} {ds es : List D} {vs : List V}
theorem RDs.rep (r : RDs W μ H ds vs) (n : Nat) : RDs W μ H (List.replicate n ds).flatten (List.replicate n vs).flatten := by
  induction n with
  | zero => simp [RDs]
  | succ n ih => rw [List.replicate_succ, List.replicate_succ, List.flatten_cons, List.flatten_cons]; exact r.append ih
theorem o_add : OpR X (binaryOp .Add) (lV2 (wd X) gAdd) := by
  intro pins s σ H x y v u Q I rx ry k
  obtain ⟨μ, h, dx, dy, r, d1, d2, k⟩ := k
  cases dx with
  | int i =>
    cases dy with
    | int j =>
      simp only [RD] at d1 d2; subst d1; subst d2
      exact op_add pins s σ H _ _ v u Q I rx ry ⟨i, j, rfl, rfl, k.here r (by simp only [RD])⟩
    | _ => exact False.elim k
  | str a =>
    cases dy with
    | str b =>
      simp only [RD] at d1 d2; subst d1; subst d2
      simp only [gAdd] at k
      split at k
      · rename_i hz
        exact op_add_str pins s σ H _ _ v u Q I rx ry ⟨a, b, rfl, rfl, hz, k.here r (by simp only [RD])⟩
      · exact False.elim k
    | _ => exact False.elim k
  | tup a =>
    cases dy with
    | tup b =>
      simp only [gAdd] at k
      split at k
      · rename_i hz
        have d10 := d1
        have d20 := d2
        simp only [RD] at d1 d2
        obtain ⟨p, xs, rfl, t1, r1⟩ := d1
        obtain ⟨q, ys, rfl, t2, r2⟩ := d2
        cases rx
        cases ry
        obtain ⟨its, v1, p1, z1⟩ := I.tuple t1.seq
        obtain ⟨its2, v2, p2, z2⟩ := I.tuple t2.seq
        by_cases ha : a = []
        · subst ha
          simp only [RDs] at r1; subst r1
          cases v1
          exact cat_tup0 p1 p2 ⟨.ref q, H, I, rfl, k.here r d20⟩
        · have ha' : its ≠ [] := fun z => by
            subst z
            cases v1
            cases a with
            | nil => exact ha rfl
            | cons _ _ => have := r1.len; simp at this
          refine HT.cat_tup p1 p2 ha' (fun z => ⟨.ref p, H, I, rfl, ?_⟩) (fun z => ?_) (by rw [← v1.length, ← v2.length, ← r1.len, ← r2.len]; exact hz)
          · subst z
            cases v2
            cases b with
            | nil => rw [List.append_nil] at k; exact k.here r d10
            | cons _ _ => have := r2.len; simp at this
          · exact ⟨.ref s.heap.objs.size, _, laidTup (t := s.toks) I (v1.append v2) (by rw [List.length_append, ← r1.len, ← r2.len]; exact hz), rfl, k.tup r (r1.append r2) (I.hok.fresh (Nat.le_refl _)) rfl⟩
      · exact False.elim k
    | _ => exact False.elim k
  | ref m =>
    cases dy with
    | ref n =>
      simp only [RD] at d1 d2
      obtain ⟨p, e1, rfl⟩ := d1
      obtain ⟨q, e2, rfl⟩ := d2
      obtain ⟨⟨l1, o1⟩, g1, ro1⟩ := r.at e1
      obtain ⟨⟨l2, o2⟩, g2, ro2⟩ := r.at e2
      cases o1 with
      | lst a =>
        cases o2 with
        | lst b =>
          simp only [gAdd, g1, g2] at k
          split at k
          · rename_i hz
            obtain ⟨xs, q1, r1⟩ := ro1
            obtain ⟨ys, q2, r2⟩ := ro2
            exact op_cat pins s σ H _ _ v u Q I rx ry ⟨p, q, xs, ys, rfl, rfl, q1, q2, by rw [← r1.len, ← r2.len]; exact hz, fun a ha => k.lst r (r1.append r2) ha⟩
          · exact False.elim k
        | _ => simp only [gAdd, g1, g2] at k; exact False.elim k
      | _ => cases o2 <;> (simp only [gAdd, g1, g2] at k; exact False.elim k)
    | _ => exact False.elim k
  | _ => exact False.elim k
end
end Sx

set_option Elab.async false
set_option linter.all false
set_option maxRecDepth 100000
namespace Sx
open PySem PySem.Spec PyProof.Rows L2

theorem tmul_same (l : Addr) (items : Array Value) (n : Nat) (dd : Option Addr) (sl : Array (Option Value)) (x : Int) (u : Tok) (c0 : (decide (x < -(2 ^ 63)) || decide (x ≥ 2 ^ 63)) = false) (c1 : (items.isEmpty || x == 1) = true) :
    Meets (Builtin.«tuple.__mul__» ⟨[.ref l, .int x u], []⟩) (fun _ R s => s.heap.get? l = some { cls := .type "tuple", dict := dd, data := .seq items n, slots := sl } ∧ R (.ok (.ret (Value.ref l))) s) :=
  .of_wp fun prog w A R s h => by
    obtain ⟨hp, g, d, tk, os⟩ := s
    obtain ⟨hl, h⟩ := h
    have f1 := AutoSeq1.idx_int
    wp_walk using wpAny_loadPart' hl
    repeat (first
      | (refine wpAny_ite_false (decide_eq_false (by rw [c0]; exact Bool.false_ne_true)) ?_; wp_walk using wpAny_loadPart' hl)
      | (refine wpAny_ite_true (decide_eq_true (by rw [c1])) ?_; wp_walk using wpAny_loadPart' hl))
    exact ⟨_, rfl, h⟩
theorem tmul_none (l : Addr) (items : Array Value) (n : Nat) (dd : Option Addr) (sl : Array (Option Value)) (x : Int) (u : Tok) (c0 : (decide (x < -(2 ^ 63)) || decide (x ≥ 2 ^ 63)) = false) (c1 : (items.isEmpty || x == 1) = false) (c2 : (decide (x ≤ 0) || items.isEmpty) = true) :
    Meets (Builtin.«tuple.__mul__» ⟨[.ref l, .int x u], []⟩) (fun _ R s => s.heap.get? l = some { cls := .type "tuple", dict := dd, data := .seq items n, slots := sl } ∧
      R (.ok (.ret (Value.ref s.heap.objs.size))) { s with heap := s.heap.push { cls := Value.type "tuple", data := Data.seq #[] }, toks := s.toks }) :=
  .of_wp fun prog w A R s h => by
    obtain ⟨hp, g, d, tk, os⟩ := s
    obtain ⟨hl, h⟩ := h
    have f1 := AutoSeq1.idx_int
    wp_walk using wpAny_loadPart' hl
    repeat (first
      | (refine wpAny_ite_false (decide_eq_false (by rw [c0]; exact Bool.false_ne_true)) ?_; wp_walk using wpAny_loadPart' hl)
      | (refine wpAny_ite_false (decide_eq_false (by rw [c1]; exact Bool.false_ne_true)) ?_; wp_walk using wpAny_loadPart' hl)
      | (refine wpAny_ite_true (decide_eq_true (by rw [c2])) ?_; wp_walk using wpAny_loadPart' hl))
    exact ⟨_, rfl, h⟩

section
variable {X : Cx} {W : Wd} {μ : List Addr} {h : Hc} {H : Hp} {d : D} {v : V} {ds es : List D} {vs : List V}
theorem mulOk_ok {i j : Int} (q : mulOk i j = true) : CMul i j ∨ CMulW i j := by
  unfold mulOk small64b at q
  simp only [Bool.or_eq_true, Bool.and_eq_true, decide_eq_true_eq, Nat.ble_eq] at q
  rcases q with (q | q) | q
  · exact .inl (.inl q)
  · exact .inl (.inr q)
  · exact .inr (by unfold CMulW; omega)
theorem RD.cast {e : D} (q : d = e) (r : RD W μ H d v) : RD W μ H e v := q ▸ r
theorem repD_one : repD 1 ds = ds := by simp [repD]
theorem repD_le {k : Int} (hk : k ≤ 0) : repD k ds = [] := by
  have : k.toNat = 0 := by omega
  simp [repD, this]
theorem o_mul : OpR X (binaryOp .Mult) (lV2 (wd X) gMul) := by
  intro pins s σ H x y v u Q I rx ry k
  obtain ⟨μ, h, dx, dy, r, d1, d2, k⟩ := k
  cases dx with
  | int i =>
    cases dy with
    | int j =>
      simp only [RD] at d1 d2; subst d1; subst d2
      simp only [gMul] at k
      split at k
      · rename_i hj
        have kk := k.here r (v := .int (i * j)) (by simp only [RD])
        rcases mulOk_ok hj with c | c
        · exact op_mul pins s σ H _ _ v u Q I rx ry ⟨i, j, rfl, rfl, c, kk⟩
        · exact op_mulW pins s σ H _ _ v u Q I rx ry ⟨i, j, rfl, rfl, c, kk⟩
      · exact False.elim k
    | _ => exact False.elim k
  | tup a =>
    cases dy with
    | int c =>
      have d10 := d1
      simp only [RD] at d1 d2; subst d2
      obtain ⟨p, xs, rfl, t1, r1⟩ := d1
      cases rx
      obtain ⟨t, rfl⟩ := ry
      simp only [gMul] at k
      split at k
      · rename_i hz
        unfold repOk at hz
        simp only [Bool.and_eq_true, decide_eq_true_eq] at hz
        obtain ⟨⟨h1, h2⟩, h3⟩ := hz
        obtain ⟨its, v1, ⟨⟨cls, dd, data, sl⟩, ho, hc, n, hd⟩, z1⟩ := I.tuple t1.seq
        simp only at hc hd
        subst hc hd
        have hlen : its.length = a.length := by rw [← v1.length, r1.len]
        have c0 : (decide (c < -(2 ^ 63)) || decide (c ≥ 2 ^ 63)) = false := by
          rw [decide_eq_false (by omega), decide_eq_false (by omega)] <;> rfl
        refine wpAny_binaryOp_repeat_ref (T := "tuple") (U := "int") (by decide) ⟨_, ho, rfl⟩ (fun s' => typeIs_int s' c t) noFill_tuple_mul F.fills_int_mul F.slot_int_rmul repeat_tuple F.slot_int_index.lookup
          (call_meets F.slot_int_rmul (typeIs_int s c t) F.entry_int_rmul (F.args_int_rmul_2 _ _) (int_rmul_tuple c t p its.toArray n dd sl) ⟨ho, rfl, ⟨_, ho, rfl⟩, ?_⟩)
        by_cases hs : (its.toArray.isEmpty || c == 1) = true
        · refine call_meets F.slot_tuple_mul ⟨_, ho, rfl⟩ F.entry_tuple_mul (F.args_tuple_mul_2 _ _) (tmul_same p its.toArray n dd sl c t c0 hs) ⟨ho, ?_⟩
          refine ⟨.ref p, H, I, rfl, k.here r (RD.cast ?_ d10)⟩
          simp only [Bool.or_eq_true, beq_iff_eq] at hs
          rcases hs with hs | hs
          · have : a = [] := by
              cases its with
              | nil => exact List.eq_nil_of_length_eq_zero hlen.symm
              | cons _ _ => simp at hs
            subst this; simp [repD]
          · subst hs; rw [repD_one]
        · have hs' : (its.toArray.isEmpty || c == 1) = false := by simpa using hs
          by_cases hn : (decide (c ≤ 0) || its.toArray.isEmpty) = true
          · refine call_meets F.slot_tuple_mul ⟨_, ho, rfl⟩ F.entry_tuple_mul (F.args_tuple_mul_2 _ _) (tmul_none p its.toArray n dd sl c t c0 hs' hn) ⟨ho, ?_⟩
            have hc : c ≤ 0 := by
              simp only [Bool.or_eq_true, decide_eq_true_eq] at hn
              rcases hn with hn | hn
              · exact hn
              · rw [hn, Bool.true_or] at hs'; cases hs'
            rw [repD_le hc] at k
            exact ⟨.ref s.heap.objs.size, _, laidTup (its := []) (t := s.toks) I .nil (Nat.zero_le _), rfl, k.tup r RDs.nil (I.hok.fresh (Nat.le_refl _)) rfl⟩
          · have hn' : (decide (c ≤ 0) || its.toArray.isEmpty) = false := by simpa using hn
            have hle : ((its.toArray.size : Nat) : Int) * c ≤ 1000000 := by
              have a1 : ((its.toArray.size : Nat) : Int) * c ≤ 1000 * c := Int.mul_le_mul_of_nonneg_right (by rw [List.size_toArray]; omega) (by simp at hn'; omega)
              omega
            have flen : (List.replicate c.toNat its).flatten.length ≤ sizeLine := by
              rw [PyProof.Rows.lm_len_rep_flat, sizeLine_eq]
              have a1 : c.toNat * its.length ≤ 1000 * 1000 := Nat.mul_le_mul (by omega) (by omega)
              omega
            have c4 : Builtin.Tuple.tupleTooMany (((its.toArray.size : Nat) : Int) * c) = false := by
              unfold Builtin.Tuple.tupleTooMany
              rw [sizeLine_eq]
              exact decide_eq_false (by omega)
            refine call_meets F.slot_tuple_mul ⟨_, ho, rfl⟩ F.entry_tuple_mul (F.args_tuple_mul_2 _ _) (tuple_mulW p its.toArray n dd sl c t c0 hs' hn' (by omega) c4 (by rw [size_rep, List.size_toArray]; exact flen)) ⟨ho, ?_⟩
            rw [size_rep]
            have vv := v1.rep c.toNat
            have hl2 : (List.replicate c.toNat xs).flatten.length = (List.replicate c.toNat its).flatten.length := vv.length
            exact ⟨.ref s.heap.objs.size, _, laidTup (t := s.toks) I vv (by rw [hl2]; exact flen), rfl, k.tup r (r1.rep c.toNat) (I.hok.fresh (Nat.le_refl _)) rfl⟩
      · exact False.elim k
    | _ => exact False.elim k
  | ref m =>
    cases dy with
    | int c =>
      simp only [RD] at d1 d2; subst d2
      obtain ⟨p, e1, rfl⟩ := d1
      obtain ⟨⟨l1, o1⟩, g1, ro1⟩ := r.at e1
      cases o1 with
      | lst a =>
        simp only [gMul, g1] at k
        split at k
        · rename_i hz
          simp only [Bool.and_eq_true, decide_eq_true_eq] at hz
          obtain ⟨xs, q1, r1⟩ := ro1
          exact op_rep pins s σ H _ _ v u Q I rx ry ⟨p, c, xs, rfl, rfl, q1, hz.1.1, hz.1.2, by rw [← r1.len]; exact hz.2, fun a ha => k.lst r (r1.rep c.toNat) ha⟩
        · exact False.elim k
      | _ => simp only [gMul, g1] at k; exact False.elim k
    | _ => exact False.elim k
  | _ => exact False.elim k
end
end Sx

set_option Elab.async false
set_option linter.all false
set_option maxRecDepth 100000
namespace Sx
open PySem PySem.Spec PyProof.Rows L2

def mapO {α β : Type} (f : α → Option β) : List α → Option (List β)
  | [] => some []
  | a :: r => match f a with
    | some b => match mapO f r with
      | some l => some (b :: l)
      | none => none
    | none => none
def toP (h : Hc) : Nat → D → Option PyData
  | _, .non => some .none
  | _, .bl b => some (.bool b)
  | _, .int i => some (.int i)
  | _, .str x => some (.str x)
  | n + 1, .tup ds => match mapO (toP h n) ds with | some l => some (.tuple l) | none => none
  | n + 1, .flst ds => match mapO (toP h n) ds with | some l => some (.list l) | none => none
  | n + 1, .ref m => match h[m]? with
    | some (_, .lst ds) => match mapO (toP h n) ds with | some l => some (.list l) | none => none
    | _ => none
  | _, _ => none
def toS (d : D) (h : Hc) : Option PyData := match toP h 9 d with
  | some p => if SeqAt.shaped p then some p else none
  | none => none
section
variable {W : Wd} {μ : List Addr} {h : Hc} {H : Hp}
theorem mapO_dp {f : D → Option PyData} (hf : ∀ d v p, RD W μ H d v → f d = some p → Dp W.K H v p) : ∀ (ds : List D) (vs : List V) (ps : List PyData), RDs W μ H ds vs → mapO f ds = some ps → DpAll W.K H vs ps
  | [], vs, ps, r, e => by
    simp only [RDs] at r; subst r
    injection e with e; subst e; exact .nil
  | d :: ds, vs, ps, r, e => by
    simp only [RDs] at r
    obtain ⟨v, t, rfl, r1, r2⟩ := r
    simp only [mapO] at e
    cases q : f d with
    | none => rw [q] at e; cases e
    | some b =>
      rw [q] at e
      cases q2 : mapO f ds with
      | none => rw [q2] at e; cases e
      | some l =>
        rw [q2] at e
        injection e with e; subst e
        exact .cons (hf d v b r1 q) (mapO_dp hf ds t l r2 q2)
theorem toP_dp (x : R W μ h H) : ∀ (n : Nat) (d : D) (v : V) (p : PyData), RD W μ H d v → toP h n d = some p → Dp W.K H v p := by
  intro n
  induction n with
  | zero =>
    intro d v p r e
    cases d with
    | non => simp only [RD] at r; subst r; injection e with e; subst e; exact .non
    | bl b => simp only [RD] at r; subst r; injection e with e; subst e; exact .bl b
    | int b => simp only [RD] at r; subst r; injection e with e; subst e; exact .int b
    | str b => simp only [RD] at r; subst r; injection e with e; subst e; exact .str b
    | _ => cases e
  | succ n ih =>
    intro d v p r e
    cases d with
    | non => simp only [RD] at r; subst r; injection e with e; subst e; exact .non
    | bl b => simp only [RD] at r; subst r; injection e with e; subst e; exact .bl b
    | int b => simp only [RD] at r; subst r; injection e with e; subst e; exact .int b
    | str b => simp only [RD] at r; subst r; injection e with e; subst e; exact .str b
    | tup ds =>
      simp only [RD] at r
      obtain ⟨a, vs, rfl, t, r1⟩ := r
      simp only [toP] at e
      cases q : mapO (toP h n) ds with
      | none => rw [q] at e; cases e
      | some l => rw [q] at e; injection e with e; subst e; exact .tup t.seq (mapO_dp ih ds vs l r1 q)
    | flst ds =>
      simp only [RD] at r
      obtain ⟨a, vs, rfl, t, r1⟩ := r
      simp only [toP] at e
      cases q : mapO (toP h n) ds with
      | none => rw [q] at e; cases e
      | some l => rw [q] at e; injection e with e; subst e; exact .lst t.seq (mapO_dp ih ds vs l r1 q)
    | ref m =>
      simp only [RD] at r
      obtain ⟨a, e1, rfl⟩ := r
      obtain ⟨⟨l1, o1⟩, g1, ro1⟩ := x.at e1
      cases o1 with
      | lst ds =>
        obtain ⟨vs, q1, r1⟩ := ro1
        simp only [toP, g1] at e
        cases q : mapO (toP h n) ds with
        | none => rw [q] at e; cases e
        | some l => rw [q] at e; injection e with e; subst e; exact .lst (SqL.of q1) (mapO_dp ih ds vs l r1 q)
      | _ => simp only [toP, g1] at e; cases e
    | _ => cases e
theorem toS_dp (x : R W μ h H) {d : D} {v : V} {p : PyData} (r : RD W μ H d v) (e : toS d h = some p) : Dp W.K H v p ∧ SeqAt.shaped p = true := by
  unfold toS at e
  cases q : toP h 9 d with
  | none => rw [q] at e; cases e
  | some p' =>
    rw [q] at e
    simp only at e
    split at e
    · rename_i hs; injection e with e; subst e; exact ⟨toP_dp x 9 d v p' r q, hs⟩
    · cases e
end
def eqD (x y : D) (h : Hc) : Option Bool := match toS x h with
  | some p => match toS y h with
    | some q => some (PyData.eqv p q)
    | none => none
  | none => none
def gEq : G2 := fun x y h => match eqD x y h with | some b => some (.bl b, h) | none => none
def gNe : G2 := fun x y h => match eqD x y h with | some b => some (.bl (!b), h) | none => none
def inD (x y : D) (h : Hc) : Option Bool := match toS x h with
  | some d => match toS y h with
    | some (.list ps) => some (ps.any fun z => PyData.eqv z d)
    | some (.tuple ps) => some (ps.any fun z => PyData.eqv z d)
    | _ => none
  | none => none
def gIn : G2 := fun x y h => match inD x y h with | some b => some (.bl b, h) | none => none
def gNotIn : G2 := fun x y h => match inD x y h with | some b => some (.bl (!b), h) | none => none
section
variable {X : Cx}
theorem o_eq (hu : X.A.units + 64 < cLine) : OpR X (compareOp .Eq) (lV2 (wd X) gEq) := by
  intro pins s σ H x y v u Q I rx ry k
  obtain ⟨μ, h, dx, dy, r, d1, d2, k⟩ := k
  unfold gEq eqD at k
  cases e1 : toS dx h with
  | none => rw [e1] at k; exact False.elim k
  | some p =>
    cases e2 : toS dy h with
    | none => rw [e1, e2] at k; exact False.elim k
    | some q =>
      rw [e1, e2] at k
      obtain ⟨a1, b1⟩ := toS_dp r d1 e1
      obtain ⟨a2, b2⟩ := toS_dp r d2 e2
      exact op_eqD hu pins s σ H x y v u Q I rx ry ⟨p, q, a1, a2, b1, b2, k.here r (by simp only [RD])⟩
theorem o_ne (hu : X.A.units + 64 < cLine) : OpR X (compareOp .NotEq) (lV2 (wd X) gNe) := by
  intro pins s σ H x y v u Q I rx ry k
  obtain ⟨μ, h, dx, dy, r, d1, d2, k⟩ := k
  unfold gNe eqD at k
  cases e1 : toS dx h with
  | none => rw [e1] at k; exact False.elim k
  | some p =>
    cases e2 : toS dy h with
    | none => rw [e1, e2] at k; exact False.elim k
    | some q =>
      rw [e1, e2] at k
      obtain ⟨a1, b1⟩ := toS_dp r d1 e1
      obtain ⟨a2, b2⟩ := toS_dp r d2 e2
      exact op_neD hu pins s σ H x y v u Q I rx ry ⟨p, q, a1, a2, b1, b2, k.here r (by simp only [RD])⟩
theorem roomIn {A : Around} {d : PyData} {n : Nat} (sd : SeqAt.shaped d = true) (hu : A.units + 65 < cLine) : A.units + 1 + min n d.depth < cLine := by
  have h1 := SeqAt.depth_of_shaped sd
  have h2 : min n d.depth ≤ d.depth := Nat.min_le_right _ _
  omega
theorem o_in (hu : X.A.units + 65 < cLine) : OpR X (compareOp .In) (lV2 (wd X) gIn) := by
  intro pins s σ H x y v u Q I rx ry k
  obtain ⟨μ, h, dx, dy, r, d1, d2, k⟩ := k
  unfold gIn inD at k
  cases e1 : toS dx h with
  | none => rw [e1] at k; exact False.elim k
  | some p =>
    cases e2 : toS dy h with
    | none => rw [e1, e2] at k; exact False.elim k
    | some q =>
      rw [e1, e2] at k
      obtain ⟨a1, b1⟩ := toS_dp r d1 e1
      obtain ⟨a2, b2⟩ := toS_dp r d2 e2
      obtain ⟨as, t1⟩ := Dp.reads I p x v a1 rx
      obtain ⟨bs, t2⟩ := Dp.reads I q y u a2 ry
      cases q with
      | list ps => exact SeqAt.in_list_reads t2 t1 (SeqAt.canLay_of_shaped b2) (SeqAt.canLay_of_shaped b1) (roomIn b1 hu) ⟨.bl _, H, I, rfl, k.here r (by simp only [RD])⟩
      | tuple ps => exact SeqAt.in_tuple_reads t2 t1 (SeqAt.canLay_of_shaped b2) (SeqAt.canLay_of_shaped b1) (roomIn b1 hu) ⟨.bl _, H, I, rfl, k.here r (by simp only [RD])⟩
      | _ => exact False.elim k
theorem o_notIn (hu : X.A.units + 65 < cLine) : OpR X (compareOp .NotIn) (lV2 (wd X) gNotIn) := by
  intro pins s σ H x y v u Q I rx ry k
  obtain ⟨μ, h, dx, dy, r, d1, d2, k⟩ := k
  unfold gNotIn inD at k
  cases e1 : toS dx h with
  | none => rw [e1] at k; exact False.elim k
  | some p =>
    cases e2 : toS dy h with
    | none => rw [e1, e2] at k; exact False.elim k
    | some q =>
      rw [e1, e2] at k
      obtain ⟨a1, b1⟩ := toS_dp r d1 e1
      obtain ⟨a2, b2⟩ := toS_dp r d2 e2
      obtain ⟨as, t1⟩ := Dp.reads I p x v a1 rx
      obtain ⟨bs, t2⟩ := Dp.reads I q y u a2 ry
      cases q with
      | list ps => exact SeqAt.notIn_list_reads t2 t1 (SeqAt.canLay_of_shaped b2) (SeqAt.canLay_of_shaped b1) (roomIn b1 hu) ⟨.bl _, H, I, rfl, k.here r (by simp only [RD])⟩
      | tuple ps => exact SeqAt.notIn_tuple_reads t2 t1 (SeqAt.canLay_of_shaped b2) (SeqAt.canLay_of_shaped b1) (roomIn b1 hu) ⟨.bl _, H, I, rfl, k.here r (by simp only [RD])⟩
      | _ => exact False.elim k
end

def gIx : G2 := fun x y h => match y with
  | .int i => match x with
    | .str z => match (if z.length ≤ sizeLine then atI z.cps.toList i else none) with
      | some c => some (.str ⟨#[c]⟩, h)
      | none => none
    | _ => match asSeq x h with
      | some ds => match atI ds i with
        | some d => some (d, h)
        | none => none
      | none => none
  | _ => none
theorem atI_RD {W : Wd} {μ : List Addr} {H : Hp} {ds : List D} {vs : List V} {i : Int} {d : D} (r : RDs W μ H ds vs) (e : atI ds i = some d) : ∃ v, atI vs i = some v ∧ RD W μ H d v := by
  unfold atI at e ⊢
  rw [← r.len]
  cases q : ixN ds.length i with
  | none => rw [q] at e; cases e
  | some j =>
    rw [q] at e
    obtain ⟨v, h1, h2⟩ := r.get (show ds[j]? = some d from e)
    exact ⟨v, h1, h2⟩
section
variable {X : Cx} {Wx : WX} {a b : Expr} {ca cb : CE} {pos p2 : Pos} {lo hi : Option Expr} {cl cu : Option CE}
theorem i_ix : IxR X (lV2 (wd X) gIx) := by
  intro value slice pins s σ H x y v u Q I rx ry k hs
  obtain ⟨μ, h, dx, dy, r, d1, d2, k⟩ := k
  cases dy with
  | int i =>
    simp only [RD] at d2; subst d2
    have seq : (∃ ds d, asSeq dx h = some ds ∧ atI ds i = some d ∧ kO (wd X) μ h H Q (some (d, h))) → rIx X.K x (.int i) H Q := by
      rintro ⟨ds, d, e, e2, k⟩
      obtain ⟨p, vs, rfl, hq, rs⟩ := asSeq_ok r d1 e
      obtain ⟨w, e3, rw'⟩ := atI_RD rs e2
      rcases hq with hq | hq
      · exact .inl ⟨p, vs, i, w, rfl, rfl, hq, e3, k.here r rw'⟩
      · exact .inr (.inl ⟨p, vs, i, w, rfl, rfl, hq, e3, k.here r rw'⟩)
    have fin : rIx X.K x (.int i) H Q := by
      unfold gIx at k
      simp only at k
      split at k
      · rename_i z
        simp only [RD] at d1; subst d1
        split at k
        · rename_i c hc
          split at hc
          · rename_i hz
            exact .inr (.inr ⟨z, i, c, rfl, rfl, hz, hc, k.here r (by simp only [RD])⟩)
          · cases hc
        · exact False.elim k
      · split at k
        · rename_i ds e
          split at k
          · rename_i d e2
            exact seq ⟨ds, d, e, e2, k⟩
          · exact False.elim k
        · exact False.elim k
    exact ix_seq value slice pins s σ H x _ v u Q I rx ry fin hs
  | _ => exact False.elim k
theorem s_ix {g : G2} (hr : IxR X (lV2 (wd X) g)) (ha : SE X Wx a ca) (hb : SE X Wx b cb) (hs : PlainIx b := by exact fun _ _ => rfl) : SE X Wx (.Subscript a b pos) (c2 g ca cb) :=
  pe_mono (pe_ix hr ha hb hs) fun _ _ _ k => use2 k
abbrev rOI : List Addr → Hp → Option Int → Option Int → Prop := fun _ _ a b => b = a
def cPart (c : Option CE) : Rho → Hc → Res (Option Int) := fun ρ h => match c with | none => .ok none h | some c => (c ρ h).bind fun e h2 => match e with | .int i => .ok (some i) h2 | _ => .stuck
abbrev SPt (X : Cx) (Wx : WX) (e : Option Expr) (c : Option CE) : Prop := PO X e (fun σ H Q => lG rOI (wd X) Wx (cPart c) σ H Q)
theorem s_pn : SPt X Wx none none := ⟨fun pins s σ H Q I ⟨μ, ρ, h, r, rs, k⟩ => po_none.run pins s σ H Q I (k μ H none r .refl rfl)⟩
theorem s_ps (ha : SE X Wx a ca) : SPt X Wx (some a) (some ca) := by
  refine ⟨fun pins s σ H Q I ⟨μ, ρ, h, r, rs, k⟩ => (po_some ha).run pins s σ H Q I ⟨μ, ρ, h, r, rs, (kR.bind r k).imp fun v H1 ⟨x, μ1, h1, _, r1, e1, d1, k1⟩ => ?_⟩⟩
  cases x with
  | int i =>
    simp only [RD] at d1; subst d1
    exact ⟨i, rfl, k1 μ1 H1 _ r1 .refl rfl⟩
  | _ => exact False.elim k1
def cutD (ds : List D) (l u : Option Int) : List D := (ds.drop (HT.sIx ds.length 0 l)).take (HT.sIx ds.length ds.length u - HT.sIx ds.length 0 l)
theorem RDs.cut {W : Wd} {μ : List Addr} {H : Hp} {ds : List D} {vs : List V} (r : RDs W μ H ds vs) (l u : Option Int) : RDs W μ H (cutD ds l u) (cutV vs l u) := by
  unfold cutD cutV
  rw [r.len]
  exact (r.drop _).take _
def gSl (d : D) (l u : Option Int) (h : Hc) : VO := match d with
  | .tup ds => some (.tup (cutD ds l u), h)
  | _ => match asSeq d h with
    | some ds => some (.ref h.length, h ++ [(false, .lst (cutD ds l u))])
    | none => none
def lVsl (W : Wd) : V → Option Int → Option Int → Hp → VK → Prop := fun x l u H Q => ∃ μ h dx, R W μ h H ∧ RD W μ H dx x ∧ kO W μ h H Q (gSl dx l u h)
theorem cutD_whole {ds : List D} {l u : Option Int} (hw : HT.sIx ds.length 0 l = 0 ∧ HT.sIx ds.length ds.length u = ds.length) : cutD ds l u = ds := by
  unfold cutD
  rw [hw.1, hw.2]; simp
theorem l_sl : SlR X (lVsl (wd X)) := by
  intro pins s σ H x v vl vu l u sl Q I rx hs pl pu k
  obtain ⟨μ, h, dx, r, d1, k⟩ := k
  have lst : ∀ ds, asSeq dx h = some ds → (∀ e, dx ≠ .tup e) → kO (wd X) μ h H Q (some (.ref h.length, h ++ [(false, .lst (cutD ds l u))])) → rSlL X.K x l u H Q := by
    intro ds e ne k
    cases dx with
    | tup es => exact absurd rfl (ne es)
    | flst es =>
      injection e with e; subst e
      simp only [RD] at d1
      obtain ⟨p, vs, rfl, t, rs⟩ := d1
      exact ⟨p, vs, rfl, t.seq, fun a ha => k.lst r (rs.cut l u) ha⟩
    | ref n =>
      simp only [RD] at d1
      obtain ⟨p, e1, rfl⟩ := d1
      obtain ⟨⟨l1, o1⟩, g1, ro1⟩ := r.at e1
      cases o1 with
      | lst es =>
        simp only [asSeq, g1] at e; injection e with e; subst e
        obtain ⟨vs, q1, rs⟩ := ro1
        exact ⟨p, vs, rfl, SqL.of q1, fun a ha => k.lst r (rs.cut l u) ha⟩
      | _ => simp only [asSeq, g1] at e; cases e
    | _ => cases e
  unfold gSl at k
  split at k
  · rename_i ds
    have d10 := d1
    simp only [RD] at d1
    obtain ⟨p, vs, rfl, t, rs⟩ := d1
    cases rx
    obtain ⟨its, v1, ht, hz⟩ := I.tuple t.seq
    have hlen : its.toArray.size = vs.length := by rw [List.size_toArray]; exact v1.length.symm
    refine ⟨"tuple", _, PyProof.Rows.slot_tuple_getitem.lookup, ht.typeIs, ?_⟩
    by_cases hw : HT.sIx vs.length 0 l = 0 ∧ HT.sIx vs.length vs.length u = vs.length
    · refine getItem_tuple_whole ht hs pl pu (by rw [hlen]; exact hw) ⟨.ref p, H, I, rfl, ?_⟩
      rw [cutD_whole (by rw [rs.len]; exact hw)] at k
      exact k.here r d10
    · refine HT.getItem_tuple_cut ht hs pl pu (by rw [hlen]; exact hw) ?_ (by rw [hlen]; exact hz)
      rw [hlen]
      have vc : Vals (cutV vs l u) ((its.drop (HT.sIx vs.length 0 l)).take (HT.sIx vs.length vs.length u - HT.sIx vs.length 0 l)) := (v1.drop _).take _
      exact ⟨.ref s.heap.objs.size, _, laidTup (t := s.toks) I vc (Nat.le_trans (cutV_length vs l u) hz), rfl, k.tup r (rs.cut l u) (I.hok.fresh (Nat.le_refl _)) rfl⟩
  · rename_i ne
    split at k
    · rename_i ds e
      exact sl_list pins s σ H x v vl vu l u sl Q I rx hs pl pu (lst ds e ne k)
    · exact False.elim k
def cCut (x : CE) (lo hi : Option CE) : CE := fun ρ h => (x ρ h).bind fun d h1 => (cPart lo ρ h1).bind fun l h2 => (cPart hi ρ h2).bind fun u h3 => (gSl d l u h3).res
theorem s_cut (ha : SE X Wx a ca) (hl : SPt X Wx lo cl) (hu : SPt X Wx hi cu) : SE X Wx (.Subscript a (.Slice lo hi none p2) pos) (cCut ca cl cu) := by
  refine pe_mono (pe_slice l_sl ha hl hu) fun σ H Q ⟨μ, ρ, h, r, rs, k⟩ => ?_
  refine ⟨μ, ρ, h, r, rs, (kR.bind r k).imp fun v H1 ⟨x, μ1, h1, _, r1, e1, d1, k1⟩ => ?_⟩
  refine ⟨μ1, ρ, h1, r1, rs.ext e1 r, (kR.bind (rel1 := rOI) r1 k1).imp fun l H2 ⟨l', μ2, h2, _, r2, e2, d2, k2⟩ => ?_⟩
  refine ⟨μ2, ρ, h2, r2, (rs.ext e1 r).ext e2 r1, (kR.bind (rel1 := rOI) r2 k2).imp fun u H3 ⟨u', μ3, h3, _, r3, e3, d3, k3⟩ => ?_⟩
  have d2' : l = l' := d2
  have d3' : u = u' := d3
  subst d2'; subst d3'
  exact ⟨μ3, h3, x, r3, RD.ext e3 r2 x v (RD.ext e2 r1 x v d1), kO.of k3⟩
end
end Sx

set_option Elab.async false
set_option linter.all false
set_option maxRecDepth 100000
namespace Sx
open PySem PySem.Spec PyProof.Rows L2

section
variable {prog : Program} {w : World} {A : Around} {E : Value → Shared → Prop} {s : Shared} {l : Addr} {xs : Array (Int × Tok)} {Q : Value → Shared → Prop}
theorem iterTup (hl : s.heap.IsTuple l (intItems xs))
    (h : ∀ s₂ : Shared, s₂ = { s with heap := s.heap.push { cls := .type "tuple_iterator", data := .fields #[.ref l, .int 0 0] } } →
      (s₂.heap.IsTupleIter s.heap.objs.size l 0 ∧ s₂.heap.IsTuple l (intItems xs)) → (∀ b ∈ [s.heap.objs.size, l], b < s₂.heap.objs.size) → l ≠ s.heap.objs.size → Q (.ref s.heap.objs.size) s₂) :
    wpAny (model prog w) A (pyIter (.ref l)) Q E s := by
  have hlt : l < s.heap.objs.size := by obtain ⟨_, e, _⟩ := hl; exact Heap.lt_size e
  refine wpAny_pyIter_tuple hl (h _ rfl ⟨⟨_, Heap.get?_push_size _ rfl, rfl, rfl⟩, hl.push _⟩ (fun b hb => ?_) (Nat.ne_of_lt hlt))
  show b < (s.heap.push _).objs.size
  rw [Heap.size_push]
  simp only [List.mem_cons, List.not_mem_nil, or_false] at hb
  rcases hb with rfl | rfl
  · exact Nat.lt_succ_self _
  · exact Nat.lt_succ_of_lt hlt
theorem keptOld {o : Obj} {h' : Heap} (hk : ∀ b ob, b ∉ [s.heap.objs.size] → (s.heap.push o).get? b = some ob → h'.get? b = some ob) : ∀ b ob, s.heap.get? b = some ob → h'.get? b = some ob := fun b ob e =>
  hk b ob (fun hm => by simp only [List.mem_cons, List.not_mem_nil, or_false] at hm; exact absurd (hm ▸ Heap.lt_size e) (Nat.lt_irrefl _)) (Heap.get?_push_of_some _ e)
theorem sumTup {its : List Value} {ns : List Int} (hh : A.handled = none) (hl : s.heap.IsTuple l its.toArray) (hi : IntsAre its ns)
    (h : ∀ h' tk t', (∀ b o, s.heap.get? b = some o → h'.get? b = some o) → Q (.int ns.sum t') { s with heap := h', toks := tk }) : wpAny (model prog w) A (call (.builtin "sum") [.ref l]) Q E s := by
  obtain ⟨xs, e⟩ := hi.allInts.items
  have hn : numsOf (intItems xs).toList = ns := by rw [← e]; exact hi.numsOf
  rw [nums_intItems] at hn
  rw [e] at hl
  refine call_sum_walkG (iterTup hl fun s₂ e st hfp hlI => ?_)
  subst e
  refine ⟨_, _, _, _, _, _, numAt xs, rfl, Walks.tuple (A := A.in1) hh _ l hlI (intItems xs), st, hfp, (fun _ _ => intItems_at), fun h' tk t' hk => ?_⟩
  have q := h h' tk t' (keptOld hk)
  rw [preSum_eq, List.take_of_length_le (by simp [intItems]), hn]
  exact q
theorem maxTup {its : List Value} {ns : List Int} (hh : A.handled = none) (hl : s.heap.IsTuple l its.toArray) (hi : IntsAre its ns) (hne : 0 < ns.length)
    (h : ∀ h' tk M t', (∀ b o, s.heap.get? b = some o → h'.get? b = some o) → M ∈ ns → (∀ a, a ∈ ns → a ≤ M) → Q (.int M t') { s with heap := h', toks := tk }) : wpAny (model prog w) A (call (.builtin "max") [.ref l]) Q E s := by
  obtain ⟨xs, e⟩ := hi.allInts.items
  have hn : numsOf (intItems xs).toList = ns := by rw [← e]; exact hi.numsOf
  rw [nums_intItems] at hn
  subst hn
  rw [e] at hl
  have hsz : 0 < xs.size := by simpa using hne
  refine call_max_walk (iterTup hl fun s₂ e st hfp hlI => ?_)
  subst e
  refine ⟨_, _, _, _, _, _, _, rfl, Walks.tuple (A := A.in1) hh _ l hlI (intItems xs), st, hfp, by simpa [intItems] using hsz, CmpOf.ints_gt (numAt xs) (fun _ _ => intItems_at), fun v h' tk hP hk => ?_⟩
  have hP' : (intItems xs)[argBest (fun i j => decide (numAt xs i > numAt xs j)) (xs.size - 1)]? = some v := by simpa [intItems] using hP
  obtain ⟨t, rfl⟩ := intItems_at hP'
  obtain ⟨h1, h2⟩ := argBest_gt (numAt xs) (xs.size - 1)
  refine h h' tk _ t (keptOld hk) ?_ fun a ha => ?_
  · rw [numAt_eq]; exact PySem.getD_mem (by rw [List.length_map, Array.length_toList]; omega)
  · obtain ⟨j, hj, rfl⟩ := mem_getD ha
    rw [List.length_map, Array.length_toList] at hj
    rw [← numAt_eq]; exact h2 j (by omega)
theorem minTup {its : List Value} {ns : List Int} (hh : A.handled = none) (hl : s.heap.IsTuple l its.toArray) (hi : IntsAre its ns) (hne : 0 < ns.length)
    (h : ∀ h' tk M t', (∀ b o, s.heap.get? b = some o → h'.get? b = some o) → M ∈ ns → (∀ a, a ∈ ns → M ≤ a) → Q (.int M t') { s with heap := h', toks := tk }) : wpAny (model prog w) A (call (.builtin "min") [.ref l]) Q E s := by
  obtain ⟨xs, e⟩ := hi.allInts.items
  have hn : numsOf (intItems xs).toList = ns := by rw [← e]; exact hi.numsOf
  rw [nums_intItems] at hn
  subst hn
  rw [e] at hl
  have hsz : 0 < xs.size := by simpa using hne
  refine call_min_walk (iterTup hl fun s₂ e st hfp hlI => ?_)
  subst e
  refine ⟨_, _, _, _, _, _, _, rfl, Walks.tuple (A := A.in1) hh _ l hlI (intItems xs), st, hfp, by simpa [intItems] using hsz, CmpOf.ints_lt (numAt xs) (fun _ _ => intItems_at), fun v h' tk hP hk => ?_⟩
  have hP' : (intItems xs)[argBest (fun i j => decide (numAt xs i < numAt xs j)) (xs.size - 1)]? = some v := by simpa [intItems] using hP
  obtain ⟨t, rfl⟩ := intItems_at hP'
  obtain ⟨h1, h2⟩ := argBest_lt (numAt xs) (xs.size - 1)
  refine h h' tk _ t (keptOld hk) ?_ fun a ha => ?_
  · rw [numAt_eq]; exact PySem.getD_mem (by rw [List.length_map, Array.length_toList]; omega)
  · obtain ⟨j, hj, rfl⟩ := mem_getD ha
    rw [List.length_map, Array.length_toList] at hj
    rw [← numAt_eq]; exact h2 j (by omega)
end

def gLen : GL := fun xs h => match xs with
  | [.str z] => if z.length ≤ sizeLine then some (.int z.length, h) else none
  | [d] => match asSeq d h with | some ds => some (.int ds.length, h) | none => none
  | _ => none
def gInt : GL := fun xs h => match xs with
  | [.int i] => some (.int i, h)
  | [.bl true] => some (.int 1, h)
  | [.bl false] => some (.int 0, h)
  | _ => none
def maxL : List Int → Int
  | [] => 0
  | [a] => a
  | a :: b :: r => let m := maxL (b :: r); if a < m then m else a
def minL : List Int → Int
  | [] => 0
  | [a] => a
  | a :: b :: r => let m := minL (b :: r); if m < a then m else a
theorem maxL_mem : ∀ {l : List Int}, l ≠ [] → maxL l ∈ l ∧ ∀ a ∈ l, a ≤ maxL l
  | [], h => absurd rfl h
  | [a], _ => by simp [maxL]
  | a :: b :: r, _ => by
    obtain ⟨h1, h2⟩ := maxL_mem (l := b :: r) (by simp)
    simp only [maxL]
    split
    · rename_i q
      refine ⟨List.mem_cons_of_mem _ h1, fun x hx => ?_⟩
      rcases List.mem_cons.mp hx with rfl | hx
      · exact Int.le_of_lt q
      · exact h2 x hx
    · rename_i q
      refine ⟨List.mem_cons_self, fun x hx => ?_⟩
      rcases List.mem_cons.mp hx with rfl | hx
      · exact Int.le_refl _
      · exact Int.le_trans (h2 x hx) (Int.not_lt.mp q)
theorem minL_mem : ∀ {l : List Int}, l ≠ [] → minL l ∈ l ∧ ∀ a ∈ l, minL l ≤ a
  | [], h => absurd rfl h
  | [a], _ => by simp [minL]
  | a :: b :: r, _ => by
    obtain ⟨h1, h2⟩ := minL_mem (l := b :: r) (by simp)
    simp only [minL]
    split
    · rename_i q
      refine ⟨List.mem_cons_of_mem _ h1, fun x hx => ?_⟩
      rcases List.mem_cons.mp hx with rfl | hx
      · exact Int.le_of_lt q
      · exact h2 x hx
    · rename_i q
      refine ⟨List.mem_cons_self, fun x hx => ?_⟩
      rcases List.mem_cons.mp hx with rfl | hx
      · exact Int.le_refl _
      · exact Int.le_trans (Int.not_lt.mp q) (h2 x hx)
def gMax : GL := fun xs h => match xs with
  | [.int i, .int j] => some (.int (if j > i then j else i), h)
  | [d] => match asSeq d h with
    | some ds => match intsOf ds with
      | some [] => none
      | some ns => some (.int (maxL ns), h)
      | none => none
    | none => none
  | _ => none
def gMin : GL := fun xs h => match xs with
  | [.int i, .int j] => some (.int (if j < i then j else i), h)
  | [d] => match asSeq d h with
    | some ds => match intsOf ds with
      | some [] => none
      | some ns => some (.int (minL ns), h)
      | none => none
    | none => none
  | _ => none
def gSum : GL := fun xs h => match xs with
  | [d] => match asSeq d h with
    | some ds => match intsOf ds with
      | some ns => some (.int ns.sum, h)
      | none => none
    | none => none
  | _ => none
def isTup : D → Bool | .tup _ => true | _ => false
def gAll : GL := fun xs h => match xs with
  | [d] => match (if isTup d then none else asSeq d h) with
    | some ds => match blsOf ds with
      | some ns => some (.bl (ns.all id), h)
      | none => none
    | none => none
  | _ => none
def gTuple : GL := fun xs h => match xs with
  | [.tup ds] => some (.tup ds, h)
  | [d] => match asSeq d h with
    | some ds => some (.tup ds, h)
    | none => none
  | _ => none
def gList : GL := fun xs h => match xs with
  | [d] => match asSeq d h with
    | some ds => some (.ref h.length, h ++ [(false, .lst ds)])
    | none => none
  | _ => none
def tyOf (d : D) (h : Hc) : Option String := match d with
  | .non => some "NoneType"
  | .bl _ => some "bool"
  | .int _ => some "int"
  | .str _ => some "str"
  | .tup _ => some "tuple"
  | .flst _ => some "list"
  | .ref n => match h[n]? with
    | some (_, .lst _) => some "list"
    | _ => none
  | _ => none
def isiB (a b : String) : Option Bool :=
  if b = "int" then (if a = "int" ∨ a = "bool" then some true else if a = "NoneType" ∨ a = "str" ∨ a = "tuple" ∨ a = "list" then some false else none)
  else if b = "bool" ∨ b = "str" ∨ b = "tuple" ∨ b = "list" then (if a = b then some true else if a = "NoneType" ∨ a = "bool" ∨ a = "int" ∨ a = "str" ∨ a = "tuple" ∨ a = "list" then some false else none)
  else none
theorem isiB_ok {a b : String} {r : Bool} (h : isiB a b = some r) : kitB a b = some r := by
  unfold isiB at h
  split at h
  · rename_i hb; subst hb
    split at h
    · rename_i ha; injection h with h; subst h
      rcases ha with rfl | rfl <;> decide +kernel
    · split at h
      · rename_i ha; injection h with h; subst h
        rcases ha with rfl | rfl | rfl | rfl <;> decide +kernel
      · cases h
  · split at h
    · rename_i hb
      split at h
      · rename_i ha; injection h with h; subst h; subst ha
        rcases hb with rfl | rfl | rfl | rfl <;> decide +kernel
      · rename_i hab
        split at h
        · rename_i ha; injection h with h; subst h
          rcases hb with rfl | rfl | rfl | rfl <;> rcases ha with rfl | rfl | rfl | rfl | rfl | rfl <;> first | exact absurd rfl hab | decide +kernel
        · cases h
    · cases h
def gIsi : GL := fun xs h => match xs with
  | [d, .ty b] => match tyOf d h with
    | some a => match isiB a b with
      | some r => some (.bl r, h)
      | none => none
    | none => none
  | _ => none
section
variable {W : Wd} {μ : List Addr} {h : Hc} {H : Hp}
theorem tyOf_ok (x : R W μ h H) {d : D} {v : V} {a : String} (r : RD W μ H d v) (e : tyOf d h = some a) : TyX W.K H v (.type a) := by
  cases d with
  | non => simp only [RD] at r; subst r; injection e with e; subst e; exact .base .non
  | bl b => simp only [RD] at r; subst r; injection e with e; subst e; exact .base (.bl b)
  | int b => simp only [RD] at r; subst r; injection e with e; subst e; exact .base (.int b)
  | str b => simp only [RD] at r; subst r; injection e with e; subst e; exact .base (.str b)
  | tup ds =>
    simp only [RD] at r; obtain ⟨p, vs, rfl, t, _⟩ := r
    injection e with e; subst e
    rcases t with ⟨o, e1, _⟩ | ⟨o, its, n, e1, e2, _⟩
    · exact .fTuple e1
    · exact .kTuple e1 e2
  | flst ds =>
    simp only [RD] at r; obtain ⟨p, vs, rfl, t, _⟩ := r
    injection e with e; subst e
    rcases t with ⟨o, e1⟩ | ⟨o, its, n, e1, e2, _⟩
    · exact .base (.frz e1)
    · exact .kList e1 e2
  | ref n =>
    simp only [RD] at r
    obtain ⟨p, e1, rfl⟩ := r
    obtain ⟨⟨l1, o1⟩, g1, ro1⟩ := x.at e1
    cases o1 with
    | lst ds =>
      simp only [tyOf, g1] at e; injection e with e; subst e
      obtain ⟨vs, q1, _⟩ := ro1
      exact .base (.lst q1)
    | _ => simp only [tyOf, g1] at e; cases e
  | _ => cases e
end
section
variable {X : Cx} {W : Wd} {μ : List Addr} {h : Hc} {H : Hp}
theorem rds1 {d : D} {xs : List V} (r : RDs W μ H [d] xs) : ∃ v, xs = [v] ∧ RD W μ H d v := by
  simp only [RDs] at r
  obtain ⟨v, t, rfl, a, rfl⟩ := r
  exact ⟨v, rfl, a⟩
theorem rds2 {d e : D} {xs : List V} (r : RDs W μ H [d, e] xs) : ∃ v w, xs = [v, w] ∧ RD W μ H d v ∧ RD W μ H e w := by
  simp only [RDs] at r
  obtain ⟨v, t, rfl, a, w, t2, rfl, b, rfl⟩ := r
  exact ⟨v, w, rfl, a, b⟩
theorem k_len : CallR X (.builtin "len") (lVs (wd X) gLen) := by
  intro pins s σ H xs us Q I r k
  obtain ⟨μ, h, ds, x, rs, k⟩ := k
  unfold gLen at k
  split at k
  · rename_i z
    obtain ⟨v, rfl, rd⟩ := rds1 rs
    simp only [RD] at rd; subst rd
    split at k
    · rename_i hz
      exact call_len pins s σ H _ us Q I r ⟨_, z.length, rfl, ⟨hz, rfl⟩, k.here x (by simp only [RD])⟩
    · exact False.elim k
  · rename_i d _
    obtain ⟨v, rfl, rd⟩ := rds1 rs
    split at k
    · rename_i es e
      obtain ⟨p, vs, rfl, hq, r2⟩ := asSeq_ok x rd e
      refine call_len pins s σ H _ us Q I r ⟨_, es.length, rfl, ?_, k.here x (by simp only [RD])⟩
      rcases hq with hq | hq
      · exact .inl ⟨vs, hq, r2.len⟩
      · exact .inr ⟨vs, hq, r2.len⟩
    · exact False.elim k
  · exact False.elim k
theorem k_int : CallR X (.type "int") (lVs (wd X) gInt) := by
  intro pins s σ H xs us Q I r k
  obtain ⟨μ, h, ds, x, rs, k⟩ := k
  unfold gInt at k
  split at k
  · obtain ⟨v, rfl, rd⟩ := rds1 rs
    simp only [RD] at rd; subst rd
    exact call_int1 pins s σ H _ us Q I r (.inl ⟨_, rfl, k.here x (by simp only [RD])⟩)
  · obtain ⟨v, rfl, rd⟩ := rds1 rs
    simp only [RD] at rd; subst rd
    exact call_int1 pins s σ H _ us Q I r (.inr ⟨_, rfl, k.here x (by simp only [RD]; rfl)⟩)
  · obtain ⟨v, rfl, rd⟩ := rds1 rs
    simp only [RD] at rd; subst rd
    exact call_int1 pins s σ H _ us Q I r (.inr ⟨_, rfl, k.here x (by simp only [RD]; rfl)⟩)
  · exact False.elim k
theorem uniqMax {ns : List Int} {m : Int} (hn : ns ≠ []) (h1 : m ∈ ns) (h2 : ∀ y, y ∈ ns → y ≤ m) : m = maxL ns :=
  Int.le_antisymm ((maxL_mem hn).2 m h1) (h2 _ (maxL_mem hn).1)
theorem uniqMin {ns : List Int} {m : Int} (hn : ns ≠ []) (h1 : m ∈ ns) (h2 : ∀ y, y ∈ ns → m ≤ y) : m = minL ns :=
  Int.le_antisymm (h2 _ (minL_mem hn).1) ((minL_mem hn).2 m h1)
theorem k_max (hc : X.calm = true) : CallR X (.builtin "max") (lVs (wd X) gMax) := by
  intro pins s σ H xs us Q I r k
  obtain ⟨μ, h, ds, x, rs, k⟩ := k
  unfold gMax at k
  split at k
  · obtain ⟨v, w, rfl, rd, re⟩ := rds2 rs
    simp only [RD] at rd re; subst rd; subst re
    exact call_max2 hc pins s σ H _ us Q I r ⟨_, _, rfl, k.here x (by simp only [RD])⟩
  · obtain ⟨v, rfl, rd⟩ := rds1 rs
    split at k
    · rename_i es e
      split at k
      · exact False.elim k
      · rename_i ns hne e2
        have hn : ns ≠ [] := hne
        have hn2 : 0 < ns.length := by cases ns with | nil => exact absurd rfl hn | cons _ _ => simp
        obtain ⟨p, vs, rfl, hq, r2⟩ := asSeq_ok x rd e
        obtain ⟨rfl, _⟩ := intsOf_ok r2 e2
        have kk : ∀ m, m ∈ ns → (∀ y, y ∈ ns → y ≤ m) → Q (.int m) H := fun m a b => by
          rw [uniqMax hn a b]; exact k.here x (by simp only [RD])
        rcases hq with hq | hq
        · exact cr_max hc pins s σ H _ us Q I r ⟨p, ns, rfl, hq, hn2, kk⟩
        · obtain ⟨its, v1, ht, _⟩ := I.tuple hq
          rw [Vals.ref1 r]
          exact maxTup (I.ok.hd hc) ht v1.ints hn2 fun h' tk m t' hk a b => ⟨.int _, H, I.kept hk, ⟨_, rfl⟩, kk m a b⟩
      · exact False.elim k
    · exact False.elim k
  · exact False.elim k
theorem k_min (hc : X.calm = true) : CallR X (.builtin "min") (lVs (wd X) gMin) := by
  intro pins s σ H xs us Q I r k
  obtain ⟨μ, h, ds, x, rs, k⟩ := k
  unfold gMin at k
  split at k
  · obtain ⟨v, w, rfl, rd, re⟩ := rds2 rs
    simp only [RD] at rd re; subst rd; subst re
    exact call_min2 hc pins s σ H _ us Q I r ⟨_, _, rfl, k.here x (by simp only [RD])⟩
  · obtain ⟨v, rfl, rd⟩ := rds1 rs
    split at k
    · rename_i es e
      split at k
      · exact False.elim k
      · rename_i ns hne e2
        have hn : ns ≠ [] := hne
        have hn2 : 0 < ns.length := by cases ns with | nil => exact absurd rfl hn | cons _ _ => simp
        obtain ⟨p, vs, rfl, hq, r2⟩ := asSeq_ok x rd e
        obtain ⟨rfl, _⟩ := intsOf_ok r2 e2
        have kk : ∀ m, m ∈ ns → (∀ y, y ∈ ns → m ≤ y) → Q (.int m) H := fun m a b => by
          rw [uniqMin hn a b]; exact k.here x (by simp only [RD])
        rcases hq with hq | hq
        · exact cr_min hc pins s σ H _ us Q I r ⟨p, ns, rfl, hq, hn2, kk⟩
        · obtain ⟨its, v1, ht, _⟩ := I.tuple hq
          rw [Vals.ref1 r]
          exact minTup (I.ok.hd hc) ht v1.ints hn2 fun h' tk m t' hk a b => ⟨.int _, H, I.kept hk, ⟨_, rfl⟩, kk m a b⟩
      · exact False.elim k
    · exact False.elim k
  · exact False.elim k
theorem k_sum (hc : X.calm = true) : CallR X (.builtin "sum") (lVs (wd X) gSum) := by
  intro pins s σ H xs us Q I r k
  obtain ⟨μ, h, ds, x, rs, k⟩ := k
  unfold gSum at k
  split at k
  · obtain ⟨v, rfl, rd⟩ := rds1 rs
    split at k
    · rename_i es e
      split at k
      · rename_i ns e2
        obtain ⟨p, vs, rfl, hq, r2⟩ := asSeq_ok x rd e
        obtain ⟨rfl, _⟩ := intsOf_ok r2 e2
        have kk : Q (.int ns.sum) H := k.here x (by simp only [RD])
        rcases hq with hq | hq
        · exact cr_sum hc pins s σ H _ us Q I r ⟨p, ns, rfl, hq, kk⟩
        · obtain ⟨its, v1, ht, _⟩ := I.tuple hq
          rw [Vals.ref1 r]
          exact sumTup (I.ok.hd hc) ht v1.ints fun h' tk t' hk => ⟨.int _, H, I.kept hk, ⟨_, rfl⟩, kk⟩
      · exact False.elim k
    · exact False.elim k
  · exact False.elim k
theorem notTup {d : D} {v : V} {h : Hc} {ds : List D} (x : R W μ h H) (r : RD W μ H d v) (e : (if isTup d then none else asSeq d h) = some ds) : ∃ a vs, v = .ref a ∧ SqL W.K H a vs ∧ RDs W μ H ds vs := by
  cases d with
  | tup es => cases e
  | flst es =>
    have e : some es = some ds := e
    injection e with e; subst e
    simp only [RD] at r
    obtain ⟨a, vs, rfl, e2, e3⟩ := r
    exact ⟨a, vs, rfl, e2.seq, e3⟩
  | ref n =>
    simp only [RD] at r
    obtain ⟨a, e1, rfl⟩ := r
    obtain ⟨⟨l, o⟩, e2, ro⟩ := x.at e1
    cases o with
    | lst es =>
      have e : asSeq (.ref n) h = some ds := e
      simp only [asSeq, e2] at e; injection e with e; subst e
      obtain ⟨vs, e3, e4⟩ := ro
      exact ⟨a, vs, rfl, SqL.of e3, e4⟩
    | _ =>
      have e : asSeq (.ref n) h = some ds := e
      simp only [asSeq, e2] at e; cases e
  | _ => cases e
theorem k_all (hc : X.calm = true) : CallR X (.builtin "all") (lVs (wd X) gAll) := by
  intro pins s σ H xs us Q I r k
  obtain ⟨μ, h, ds, x, rs, k⟩ := k
  unfold gAll at k
  split at k
  · obtain ⟨v, rfl, rd⟩ := rds1 rs
    split at k
    · rename_i es e
      split at k
      · rename_i ns e2
        obtain ⟨p, vs, rfl, hq, r2⟩ := notTup x rd e
        have e3 := blsOf_ok r2 e2
        subst e3
        exact cr_all hc pins s σ H _ us Q I r ⟨p, ns, rfl, hq, k.here x (by simp only [RD])⟩
      · exact False.elim k
    · exact False.elim k
  · exact False.elim k
theorem k_isi : CallR X (.builtin "isinstance") (lVs (wd X) gIsi) := by
  intro pins s σ H xs us Q I r k
  obtain ⟨μ, h, ds, x, rs, k⟩ := k
  unfold gIsi at k
  split at k
  · obtain ⟨v, w, rfl, rd, re⟩ := rds2 rs
    simp only [RD] at re; subst re
    split at k
    · rename_i a e
      split at k
      · rename_i b e2
        exact call_isi pins s σ H _ us Q I r ⟨v, _, _, _, b, rfl, .ty _, tyOf_ok x rd e, kit_ty (isiB_ok e2), k.here x (by simp only [RD])⟩
      · exact False.elim k
    · exact False.elim k
  · exact False.elim k
theorem k_list : CallR X (.type "list") (lVs (wd X) gList) := by
  intro pins s σ H xs us Q I r k
  obtain ⟨μ, h, ds, x, rs, k⟩ := k
  unfold gList at k
  split at k
  · obtain ⟨v, rfl, rd⟩ := rds1 rs
    split at k
    · rename_i es e
      obtain ⟨p, vs, rfl, hq, r2⟩ := asSeq_ok x rd e
      exact call_list_of pins s σ H _ us Q I r ⟨p, vs, rfl, hq, fun a ha => k.lst x r2 ha⟩
    · exact False.elim k
  · exact False.elim k
theorem k_tuple : CallR X (.type "tuple") (lVs (wd X) gTuple) := by
  intro pins s σ H xs us Q I r k
  obtain ⟨μ, h, ds, x, rs, k⟩ := k
  unfold gTuple at k
  split at k
  · obtain ⟨v, rfl, rd⟩ := rds1 rs
    have rd0 := rd
    simp only [RD] at rd
    obtain ⟨p, vs, rfl, t, r2⟩ := rd
    obtain ⟨its, _, pl, _⟩ := I.tuple t.seq
    rw [Vals.ref1 r]
    exact call_tuple_same (items := its.toArray) pl ⟨.ref p, H, I, rfl, k.here x rd0⟩
  · rename_i d hnt
    obtain ⟨v, rfl, rd⟩ := rds1 rs
    split at k
    · rename_i es e
      have e' : (if isTup d then none else asSeq d h) = some es := by
        cases d with
        | tup q => exact absurd rfl (hnt q)
        | _ => exact e
      obtain ⟨p, vs, rfl, hq, r2⟩ := notTup x rd e'
      obtain ⟨its, v1, pl, hz⟩ := I.list hq
      rw [Vals.ref1 r]
      refine call_tuple_list pl.isList (fun h' kp => ?_) (by simp only [List.size_toArray]; rw [← v1.length]; exact hz)
      have I1 : Inv X pins σ H { s with heap := h' } := I.kept (t' := s.toks) kp
      exact ⟨.ref h'.objs.size, _, laidTup (t := s.toks) I1 v1 hz, rfl, k.tup x r2 (I1.hok.fresh (Nat.le_refl _)) rfl⟩
    · exact False.elim k
  · exact False.elim k
end
end Sx

set_option Elab.async false
set_option linter.all false
set_option maxRecDepth 100000
namespace Sx
open PySem PySem.Spec PyProof.Rows L2

inductive TGT where
  | nm (i : Nat) | tp (ts : List TGT)
mutual
def asg : TGT → D → Rho → Option Rho
  | .nm i, d, ρ => some (ρ.set i (some d))
  | .tp ts, .tup ds, ρ => asgs ts ds ρ
  | _, _, _ => none
def asgs : List TGT → List D → Rho → Option Rho
  | [], [], ρ => some ρ
  | t :: ts, d :: ds, ρ => match asg t d ρ with
    | some ρ1 => asgs ts ds ρ1
    | none => none
  | _, _, _ => none
end
mutual
def tvars : TGT → List Nat
  | .nm i => [i]
  | .tp ts => tvarss ts
def tvarss : List TGT → List Nat
  | [] => []
  | t :: ts => tvars t ++ tvarss ts
end
def RDw (W : Wd) (μ : List Addr) (H : Hp) (d : D) (v : V) : Prop := ∃ a vs ds, d = .tup ds ∧ v = .ref a ∧ SqT W.K H a vs ∧ RDs W μ H ds vs
def RDt (W : Wd) (μ : List Addr) (H : Hp) : TGT → D → V → Prop
  | .nm _ => RD W μ H
  | .tp _ => RDw W μ H
def Only' (vs : List Nat) (σ σ' : L2.St) : Prop := σ'.length = σ.length ∧ ∀ i, i ∉ vs → σ'[i]? = σ[i]?
def lTg (W : Wd) (t : TGT) : TG := fun v σ H Q => ∃ μ ρ h d ρ', R W μ h H ∧ RS W μ H ρ σ ∧ RDt W μ H t d v ∧ asg t d ρ = some ρ' ∧ ∀ σ', RS W μ H ρ' σ' → Only' (tvars t) σ σ' → Q σ' H
def lTgs (W : Wd) (ts : List TGT) : TGs := fun vs σ H Q => ∃ μ ρ h ds ρ', R W μ h H ∧ RS W μ H ρ σ ∧ RDs W μ H ds vs ∧ asgs ts ds ρ = some ρ' ∧ ∀ σ', RS W μ H ρ' σ' → Only' (tvarss ts) σ σ' → Q σ' H
abbrev SG (X : Cx) (e : Expr) (t : TGT) : Prop := PG X e (lTg (wd X) t)
abbrev SGs (X : Cx) (es : List Expr) (ts : List TGT) : Prop := PGs X es (lTgs (wd X) ts)
theorem pg_mono {X : Cx} {e : Expr} {t t' : TG} (h : PG X e t) (k : ∀ v σ H Q, t' v σ H Q → t v σ H Q) : PG X e t' := ⟨fun pins s σ H v u Q I r q => h.run pins s σ H v u Q I r (k v σ H Q q)⟩
theorem pgs_mono {X : Cx} {e : List Expr} {t t' : TGs} (h : PGs X e t) (k : ∀ v σ H Q, t' v σ H Q → t v σ H Q) : PGs X e t' := ⟨fun pins s σ H v u Q I r q => h.run pins s σ H v u Q I r (k v σ H Q q)⟩
theorem RDt.of {W : Wd} {μ : List Addr} {H : Hp} {t : TGT} {d : D} {v : V} {ρ ρ' : Rho} (r : RD W μ H d v) (e : asg t d ρ = some ρ') : RDt W μ H t d v := by
  cases t with
  | nm i => exact r
  | tp ts =>
    cases d with
    | tup ds =>
      simp only [RD] at r
      obtain ⟨a, vs, rfl, t, r1⟩ := r
      exact ⟨a, vs, ds, rfl, rfl, t.seq, r1⟩
    | _ => simp [asg] at e
section
variable {X : Cx} {pos : Pos}
theorem g_nm {i : Nat} {x : Str} (hN : X.N.Nodup) (hi : X.N[i]? = some x := by rfl) (hx : Loc X.env.scope x := by first | exact Or.inl rfl | exact Or.inr rfl) (hf : X.fn x = true ∨ X.env.scope.names.lookup x = some .local := by first | exact .inl rfl | exact .inr rfl) : SG X (.Name x pos) (.nm i) := by
  refine pg_mono (pg_name hN hi hx hf) fun v σ H Q ⟨μ, ρ, h, d, ρ', r, rs, rd, e, k⟩ => ?_
  simp only [asg] at e
  injection e with e; subst e
  exact k _ (rs.put rd i) ⟨by simp, fun j hj => by rw [List.getElem?_set_ne]; intro z; subst z; simp [tvars] at hj⟩
theorem gs_nil : SGs X [] [] := by
  refine pgs_mono pgs_nil fun v σ H Q ⟨μ, ρ, h, ds, ρ', r, rs, rd, e, k⟩ => ?_
  cases ds with
  | nil =>
    simp only [asgs] at e
    injection e with e; subst e
    simp only [RDs] at rd; subst rd
    exact ⟨rfl, k σ rs ⟨rfl, fun _ _ => rfl⟩⟩
  | cons _ _ => simp [asgs] at e
theorem gs_cons {e : Expr} {es : List Expr} {t : TGT} {ts : List TGT} (h1 : SG X e t) (h2 : SGs X es ts) (hs : (assignEach (e :: es) X.env).map (·.2) = assign e X.env :: (assignEach es X.env).map (·.2) := by rfl) : SGs X (e :: es) (t :: ts) := by
  refine pgs_mono (pgs_cons h1 h2 hs) fun vs σ H Q ⟨μ, ρ, h, ds, ρ', r, rs, rd, e, k⟩ => ?_
  cases ds with
  | nil => simp [asgs] at e
  | cons d ds =>
    simp only [asgs] at e
    cases q : asg t d ρ with
    | none => rw [q] at e; cases e
    | some ρ1 =>
      rw [q] at e
      simp only [RDs] at rd
      obtain ⟨v, w, rfl, d1, d2⟩ := rd
      refine ⟨v, w, rfl, μ, ρ, h, d, ρ1, r, rs, RDt.of d1 q, q, fun σ1 s1 o1 => ⟨μ, ρ1, h, ds, ρ', r, s1, d2, e, fun σ2 s2 o2 => k σ2 s2 ⟨o2.1.trans o1.1, fun i hi => ?_⟩⟩⟩
      simp only [tvarss, List.mem_append, not_or] at hi
      rw [o2.2 i hi.2, o1.2 i hi.1]
theorem g_tp {es : List Expr} {k : Nat} {ts : List TGT} (hc : X.calm = true) (h : SGs X es ts) (hn : (assignEach es X.env).length = ts.length := by rfl) (hst : (assignEach es X.env).findIdx? (·.1) = none := by rfl) : SG X (.Tuple es k pos) (.tp ts) := by
  refine pg_mono (pg_tup hc h hn hst) fun v σ H Q ⟨μ, ρ, h, d, ρ', r, rs, rd, e, k⟩ => ?_
  obtain ⟨a, vs, ds, rfl, rfl, hq, rd⟩ := rd
  simp only [asg] at e
  have hl : ∀ (ts : List TGT) (ds : List D) (ρ ρ' : Rho), asgs ts ds ρ = some ρ' → ts.length = ds.length := by
    intro ts
    induction ts with
    | nil => intro ds ρ ρ' e; cases ds with | nil => rfl | cons _ _ => simp [asgs] at e
    | cons t ts ih =>
      intro ds ρ ρ' e
      cases ds with
      | nil => simp [asgs] at e
      | cons d ds =>
        simp only [asgs] at e
        cases q : asg t d ρ with
        | none => rw [q] at e; cases e
        | some ρ1 => rw [q] at e; simp [ih ds ρ1 ρ' e]
  exact ⟨a, vs, rfl, hq, by rw [← rd.len]; exact (hl ts ds ρ ρ' e).symm, μ, ρ, h, ds, ρ', r, rs, rd, e, fun σ' s' o => k σ' s' (by simpa [tvars] using o)⟩
end

def cAsg (t : TGT) (a : CE) : CS := fun ρ h => ofR (a ρ h) ρ fun d h1 => match asg t d ρ with | some ρ1 => .ok .nx ρ1 h1 | none => .stuck
def putAt (ds : List D) (i : Int) (d : D) : Option (List D) := match ixN ds.length i with | some j => some (ds.set j d) | none => none
def cSetIx (e o i : CE) : CS := fun ρ h => ofR (e ρ h) ρ fun d h1 => ofR (o ρ h1) ρ fun x h2 => ofR (i ρ h2) ρ fun y h3 => match x, y with
  | .ref n, .int j => match h3[n]? with
    | some (false, .lst ds) => match putAt ds j d with
      | some es => .ok .nx ρ (h3.set n (false, .lst es))
      | none => .stuck
    | _ => .stuck
  | _, _ => .stuck
section
variable {X : Cx} {Wx : WX} {tg e o i : Expr} {t : TGT} {ce co ci : CE} {pos tpos : Pos}
theorem s_asg (he : SE X Wx e ce) (hg : SG X tg t) (hs : swapsWithSole [tg] e pos.line X.env = pure false := by rfl) (hw : swappedStores [tg] e X.env = pure none := by rfl)
    (h1 : (assignEach [tg] X.env).map (·.2) = [assign tg X.env] := by rfl) : SS X Wx (.Assign [tg] e pos) (cAsg t ce) := by
  refine ps_mono (ps_asg he hg hs hw h1) fun D σ H ⟨μ, ρ, h, r, rs, k⟩ => ?_
  refine ⟨μ, ρ, h, r, rs, (kS.bind r rs k).imp fun v H1 ⟨x, μ1, h1, _, r1, e1, d1, k1⟩ => ?_⟩
  cases q : asg t x ρ with
  | none => rw [q] at k1; exact False.elim k1
  | some ρ1 =>
    rw [q] at k1
    exact ⟨μ1, ρ, h1, x, ρ1, r1, rs.ext e1 r, RDt.of d1 q, q, fun σ' s' _ => k1.nx r1 s'⟩
theorem s_setIx (he : SE X Wx e ce) (ho : SE X Wx o co) (hi : SE X Wx i ci) (hs : swapsWithSole [.Subscript o i tpos] e pos.line X.env = pure false := by rfl) (hw : swappedStores [.Subscript o i tpos] e X.env = pure none := by rfl)
    (h1 : (assignEach [.Subscript o i tpos] X.env).map (·.2) = [assign (.Subscript o i tpos) X.env] := by rfl)
    (ha : ∀ v, assign (.Subscript o i tpos) X.env v = (do
      let ov ← holding [v] (eval o X.env)
      let iv ← holding [v, ov] (eval i X.env)
      standAt tpos
      holding [v, ov, iv] (setItem ov iv v)
      release [v, ov, iv] []) := by intro _; rfl) : SS X Wx (.Assign [.Subscript o i tpos] e pos) (cSetIx ce co ci) := by
  refine ps_mono (ps_asg he (pg_sub ho hi set_list ha) hs hw h1) fun D σ H ⟨μ, ρ, h, r, rs, k⟩ => ?_
  refine ⟨μ, ρ, h, r, rs, (kS.bind r rs k).imp fun v H1 ⟨x, μ1, h1, _, r1, e1, d1, k1⟩ => ?_⟩
  have rs1 := rs.ext e1 r
  refine ⟨μ1, ρ, h1, r1, rs1, (kS.bind r1 rs1 k1).imp fun u H2 ⟨y, μ2, h2, _, r2, e2, d2, k2⟩ => ?_⟩
  have rs2 := rs1.ext e2 r1
  refine ⟨μ2, ρ, h2, r2, rs2, (kS.bind r2 rs2 k2).imp fun w H3 ⟨z, μ3, h3, _, r3, e3, d3, k3⟩ => ?_⟩
  have rs3 := rs2.ext e3 r2
  cases y with
  | ref n =>
    cases z with
    | int j =>
      have d2' := RD.ext e3 r2 _ _ d2
      simp only [RD] at d2' d3; subst d3
      obtain ⟨a, q1, rfl⟩ := d2'
      obtain ⟨⟨l, ob⟩, q2, ro⟩ := r3.at q1
      simp only [q2] at k3
      cases ob with
      | lst ds =>
        cases l with
        | true => exact False.elim k3
        | false =>
          simp only [putAt] at k3
          cases q3 : ixN ds.length j with
          | none => rw [q3] at k3; exact False.elim k3
          | some m =>
            rw [q3] at k3
            obtain ⟨vs, q4, rv⟩ := ro
            have dv := RD.ext e3 r2 x v (RD.ext e2 r1 x v d1)
            obtain ⟨rn, en⟩ := r3.put (ds' := ds) q1 q2 (rv.set m dv)
            exact ⟨a, vs, j, m, rfl, rfl, q4, by rw [← rv.len]; exact q3, k3 μ3 _ σ rn en (rs3.ext en r3)⟩
      | _ => cases l <;> exact False.elim k3
    | _ => exact False.elim k3
  | _ => exact False.elim k3
end

def lock1 (n : Nat) (h : Hc) : Hc := match h[n]? with | some p => h.set n (true, p.2) | none => h
def lckL : List Nat → Hc → Hc
  | [], h => h
  | n :: r, h => lckL r (lock1 n h)
def ulkL (h0 : Hc) : List Nat → Hc → Hc
  | [], h => h
  | n :: r, h => ulkL h0 r (match h0[n]? with | some p => h.set n p | none => h)
theorem lock1_get (n : Nat) (h : Hc) (m : Nat) : (lock1 n h)[m]? = if m = n then h[m]?.map (fun p => (true, p.2)) else h[m]? := by
  unfold lock1
  cases e : h[n]? with
  | none =>
    by_cases hm : m = n
    · subst hm; rw [if_pos rfl]; simp [e]
    · rw [if_neg hm]
  | some p =>
    have hl : n < h.length := (List.getElem?_eq_some_iff.mp e).1
    by_cases hm : m = n
    · subst hm; rw [if_pos rfl, e]; show (h.set m (true, p.2))[m]? = _; rw [List.getElem?_set_self hl]; rfl
    · rw [if_neg hm]; show (h.set n (true, p.2))[m]? = _; rw [List.getElem?_set_ne (Ne.symm hm)]
theorem lock_get : ∀ (ls : List Nat) (h : Hc) (m : Nat), (lckL ls h)[m]? = if m ∈ ls then h[m]?.map (fun p => (true, p.2)) else h[m]?
  | [], h, m => by simp [lckL]
  | n :: r, h, m => by
    simp only [lckL]
    rw [lock_get r, lock1_get]
    by_cases h1 : m = n
    · subst h1
      by_cases h2 : m ∈ r
      · simp [h2, Option.map_map, Function.comp_def]
      · simp [h2]
    · by_cases h2 : m ∈ r
      · simp [h1, h2]
      · simp [h1, h2]
theorem lock_len : ∀ (ls : List Nat) (h : Hc), (lckL ls h).length = h.length
  | [], h => rfl
  | n :: r, h => by
    simp only [lckL]; rw [lock_len r]; unfold lock1; split <;> simp
theorem unlk_get (h0 : Hc) : ∀ (ls : List Nat) (h : Hc) (m : Nat), h0.length ≤ h.length → (ulkL h0 ls h)[m]? = if m ∈ ls ∧ m < h0.length then h0[m]? else h[m]?
  | [], h, m, _ => by simp [ulkL]
  | n :: r, h, m, hl => by
    simp only [ulkL]
    have hl2 : h0.length ≤ (match h0[n]? with | some p => h.set n p | none => h).length := by split <;> simp [hl]
    rw [unlk_get h0 r _ m hl2]
    by_cases h2 : m ∈ r ∧ m < h0.length
    · rw [if_pos h2, if_pos ⟨List.mem_cons_of_mem _ h2.1, h2.2⟩]
    · rw [if_neg h2]
      cases e : h0[n]? with
      | none =>
        have : h0.length ≤ n := List.getElem?_eq_none_iff.mp e
        rw [if_neg]
        rintro ⟨q1, q2⟩
        rcases List.mem_cons.mp q1 with q1 | q1
        · omega
        · exact h2 ⟨q1, q2⟩
      | some p =>
        have hn : n < h0.length := (List.getElem?_eq_some_iff.mp e).1
        show (h.set n p)[m]? = _
        by_cases hm : m = n
        · subst hm
          rw [List.getElem?_set_self (by omega), if_pos ⟨List.mem_cons_self, hn⟩, e]
        · rw [List.getElem?_set_ne (Ne.symm hm), if_neg]
          rintro ⟨q1, q2⟩
          rcases List.mem_cons.mp q1 with q1 | q1
          · exact hm q1
          · exact h2 ⟨q1, q2⟩
theorem unlk_len (h0 : Hc) : ∀ (ls : List Nat) (h : Hc), (ulkL h0 ls h).length = h.length
  | [], h => rfl
  | n :: r, h => by simp only [ulkL]; rw [unlk_len h0 r]; split <;> simp
section
variable {W : Wd} {μ μ2 : List Addr} {h h2 : Hc} {H H2 : Hp} {ls : List Nat}
theorem RO.lck {a : Addr} {l : Bool} {o : O} (x : RO W μ H a (l, o)) : RO W μ H a (true, o) := by
  cases o with
  | lst ds => exact x
  | dic kvs =>
    obtain ⟨vs, e, r⟩ := x
    refine ⟨vs, ?_, r⟩
    rcases e with e | ⟨_, e⟩
    · exact .inl e
    · exact .inr ⟨rfl, e⟩
  | tab y q => exact x
  | dcd kvs => exact x
  | dif kvs => exact ⟨rfl, x.2⟩
theorem R.lock (x : R W μ h H) : R W μ (lckL ls h) H := by
  refine ⟨by rw [lock_len, x.len], x.nd, fun n a p e1 e2 => ?_⟩
  rw [lock_get] at e2
  split at e2
  · obtain ⟨q, hq, rfl⟩ := Option.map_eq_some_iff.mp e2
    exact (x.ob n a q e1 hq).lck
  · exact x.ob n a p e1 e2
theorem R.unlk (x : R W μ h H) (y : R W μ2 h2 H2) (E : Ext μ (lckL ls h) H μ2 h2 H2) : R W μ2 (ulkL h ls h2) H2 ∧ Ext μ h H μ2 (ulkL h ls h2) H2 := by
  have hl : h.length ≤ h2.length := by rw [← lock_len ls h]; exact E.hc.len
  refine ⟨⟨by rw [unlk_len, y.len], y.nd, fun n a p e1 e2 => ?_⟩, ⟨E.pre, fun a o e k => E.frame a o e fun n p e1 e2 => ?_, E.dom, fun n p e => ?_⟩⟩
  · rw [unlk_get h ls h2 n hl] at e2
    split at e2
    · rename_i hm
      have e3 : (lckL ls h)[n]? = some (true, p.2) := by rw [lock_get, if_pos hm.1, e2]; rfl
      obtain ⟨o, e4, e5⟩ := E.hc.lk e3
      have this := y.ob n a _ e1 e4
      rw [e5 trivial] at this
      -- what was walked stands as it stood
      have hn : n < μ.length := by rw [x.len]; exact hm.2
      have em : μ[n]? = some a := by
        obtain ⟨m, e6, _⟩ := E.pre
        rw [e6, List.getElem?_append_left hn] at e1
        exact e1
      have r0 := x.ob n a p em e2
      obtain ⟨l, o⟩ := p
      cases o with
      | lst ds => exact this
      | dic kvs =>
        obtain ⟨vs, q1, q2⟩ := r0
        obtain ⟨vs', q3, q4⟩ := this
        rcases q1 with q1 | ⟨q0, q1⟩
        · have fr := E.frame a _ q1 fun n' p' u1 u2 => by
            have e7 : n' = n := getElem?_inj_nodup x.nd u1 em
            subst e7
            rw [e3] at u2
            cases u2
            rfl
          rcases q3 with q3 | ⟨_, o, q3⟩
          · exact ⟨vs', .inl q3, q4⟩
          · rw [fr] at q3; cases q3
        · exact ⟨vs', q3.imp id fun z => ⟨q0, z.2⟩, q4⟩
      | tab y q => exact this
      | dcd kvs => exact this
      | dif kvs => exact ⟨r0.1, this.2⟩
    · exact y.ob n a p e1 e2
  · rw [lock_get] at e2
    split at e2
    · obtain ⟨q, hq, rfl⟩ := Option.map_eq_some_iff.mp e2
      rfl
    · exact k n p e1 e2
  · have hn : n < h.length := (List.getElem?_eq_some_iff.mp e).1
    by_cases hm : n ∈ ls
    · exact ⟨p, by rw [unlk_get h ls h2 n hl, if_pos ⟨hm, hn⟩, e], fun _ => rfl⟩
    · have e3 : (lckL ls h)[n]? = some p := by rw [lock_get, if_neg hm, e]
      obtain ⟨o, e4, e5⟩ := E.hc n _ e3
      exact ⟨o, by rw [unlk_get h ls h2 n hl, if_neg (fun z => hm z.1), e4], e5⟩
end
end Sx

set_option Elab.async false
set_option linter.all false
set_option maxRecDepth 100000
namespace Sx
open PySem PySem.Spec PyProof.Rows L2

structure ItOk (W : Wd) (J : It) (tp : Bool) (items : List D) (μ : List Addr) (h : Hc) (H : Hp) : Prop where
  goes : ∀ i μ' h' H', i < items.length → R W μ' h' H' → Ext μ h H μ' h' H' → J.go i H'
  stops : ∀ μ' h' H', R W μ' h' H' → Ext μ h H μ' h' H' → J.stop items.length H'
  yields : ∀ i μ' h' H' x H'', i < items.length → R W μ' h' H' → Ext μ h H μ' h' H' → J.yld i H' x H'' → ∃ d, items[i]? = some d ∧ R W μ' h' H'' ∧ Ext μ' h' H' μ' h' H'' ∧ (if tp then RDw W μ' H'' d x else RD W μ' H'' d x)
abbrev CI := Rho → Hc → Res (List D × List Nat)
def kI (W : Wd) (Wx : WX) (tp : Bool) (μ : List Addr) (h : Hc) (H : Hp) (σ : L2.St) (Q : It → Hp → Prop) : Res (List D × List Nat) → Prop
  | .ok a h' => ∀ μ' H' J, R W μ' h' H' → Ext μ h H μ' h' H' → ItOk W J tp a.1 μ' (lckL a.2 h') H' → Q J H'
  | .exn c x h' => lX W Wx μ h H c x h' σ
  | .stuck => False
def lI (W : Wd) (Wx : WX) (tp : Bool) (c : CI) : TI := fun σ H Q => ∃ μ ρ h, R W μ h H ∧ RS W μ H ρ σ ∧ kI W Wx tp μ h H σ Q (c ρ h)
abbrev SI (X : Cx) (Wx : WX) (tg e : Expr) (tp : Bool) (c : CI) : Prop := PI X tg e (lI (wd X) Wx tp c)
theorem pi_mono {X : Cx} {tg e : Expr} {t t' : TI} (h : PI X tg e t) (k : ∀ σ H Q, t' σ H Q → t σ H Q) : PI X tg e t' := ⟨fun pins s σ H Q I q => h.run pins s σ H Q I (k σ H Q q)⟩
def PIV (X : Cx) (tg : Expr) (r : V → Hp → (It → Hp → Prop) → Prop) : Prop :=
  ∀ (pins : List (Addr × Obj)) (s : Shared) (σ : L2.St) (H : Hp) (x : V) (v : Value) (Q : It → Hp → Prop), Inv X pins σ H s → RelV x v → r x H Q → wpAny (model X.prog X.w) X.A (pyIter v) (PIE X pins σ tg Q) X.xe s
theorem pi_of {X : Cx} {tg e : Expr} {te : TE} {r : V → Hp → (It → Hp → Prop) → Prop} (he : PE X e te) (hv : PIV X tg r) : PI X tg e (fun σ H Q => te σ H fun x H1 => r x H1 Q) :=
  ⟨fun pins s σ H Q I h => thn (he.run pins s σ H _ I h) fun v s1 ⟨x, H1, I1, r1, q1⟩ => hv pins s1 σ H1 x v Q I1 r1 q1⟩
theorem piv_seq {X : Cx} {tg : Expr} : PIV X tg (fun x H Q => ∃ a xs, x = .ref a ∧ ((SqL X.K H a xs ∧ Q (Itl X.K a) H) ∨ (SqT X.K H a xs ∧ Q (Itt X.K a) H))) := by
  intro pins s σ H x v Q I rx h
  obtain ⟨a, xs, rfl, h⟩ := h
  cases rx
  have fp : ∀ b ∈ [s.heap.objs.size], FpOk X pins H b := fun b hb => by
    have e : b = s.heap.objs.size := by simpa using hb
    subst e
    exact I.fpOk (Nat.le_refl _) (I.hok.fresh (Nat.le_refl _))
  rcases h with ⟨hq, q⟩ | ⟨hq, q⟩
  · obtain ⟨its, rv, p, hz⟩ := I.list hq
    exact wpAny_pyIter_list p.isList ⟨s.heap.objs.size, [s.heap.objs.size], _, _, H, rfl, I.kept (t' := s.toks) (fun _ _ e => Heap.get?_push_of_some _ e), turn_list a _, ⟨_, Heap.get?_push_size _ rfl, rfl, rfl⟩, fp, q⟩
  · obtain ⟨its, rv, p, hz⟩ := I.tuple hq
    exact wpAny_pyIter_tuple (show s.heap.IsTuple a its.toArray from p) ⟨s.heap.objs.size, [s.heap.objs.size], _, _, H, rfl, I.kept (t' := s.toks) (fun _ _ e => Heap.get?_push_of_some _ e), turn_tuple a _, ⟨_, Heap.get?_push_size _ rfl, rfl, rfl⟩, fp, q⟩

def seqL (d : D) (h : Hc) : Option (List D × List Nat) := match d with
  | .tup ds => some (ds, [])
  | .flst ds => some (ds, [])
  | .ref n => match h[n]? with
    | some (_, .lst ds) => some (ds, [n])
    | _ => none
  | _ => none
def cItS (a : CE) : CI := fun ρ h => (a ρ h).bind fun d h1 => match seqL d h1 with | some p => .ok p h1 | none => .stuck
def cItR1 (a : CE) : CI := fun ρ h => (a ρ h).bind fun d h1 => match d with
  | .int j => if decide (-(2 ^ 62) ≤ j) && decide (j < 2 ^ 62) then .ok ((List.range j.toNat).map fun (i : Nat) => .int (0 + (i : Int)), []) h1 else .stuck
  | _ => .stuck
def cItR2 (a b : CE) : CI := fun ρ h => (a ρ h).bind fun d h1 => (b ρ h1).bind fun e h2 => match d, e with
  | .int i, .int j => if decide (-(2 ^ 62) ≤ i) && decide (i < 2 ^ 62) && (decide (-(2 ^ 62) ≤ j) && decide (j < 2 ^ 62)) then .ok ((List.range (j - i).toNat).map fun (k : Nat) => .int (i + (k : Int)), []) h2 else .stuck
  | _, _ => .stuck
section
variable {W : Wd} {μ : List Addr} {h : Hc} {H : Hp}
theorem itSeq {K : PySem.W.Frag} (hK : W.K = K) (x : R W μ h H) {d : D} {v : V} {p : List D × List Nat} (r : RD W μ H d v) (e : seqL d h = some p) :
    ∃ a xs, v = .ref a ∧ ((SqL K H a xs ∧ ItOk W (Itl K a) false p.1 μ (lckL p.2 h) H) ∨ (SqT K H a xs ∧ ItOk W (Itt K a) false p.1 μ (lckL p.2 h) H)) := by
  subst hK
  cases d with
  | tup ds =>
    injection e with e; subst e
    simp only [RD] at r
    obtain ⟨a, vs, rfl, t, r1⟩ := r
    refine ⟨a, vs, rfl, .inr ⟨t.seq, ?_⟩⟩
    have w : ∀ {μ' h' H'}, Ext μ (lckL [] h) H μ' h' H' → SqT W.K H' a vs ∧ RDs W μ' H' ds vs := fun E => ⟨E.sqT x t.seq, RDs.ext E x ds vs r1⟩
    refine ⟨fun i μ' h' H' hi _ E => (walk_tup (xs := vs)).goes i H' (by rw [← r1.len]; exact hi) (w E).1, fun μ' h' H' _ E => by rw [r1.len]; exact (walk_tup (xs := vs)).stops H' (w E).1, fun i μ' h' H' y H'' hi rr E hy => ?_⟩
    obtain ⟨e1, e2⟩ := (walk_tup (xs := vs)).yields i H' y H'' (by rw [← r1.len]; exact hi) (w E).1 hy
    subst e1
    obtain ⟨d, q1, q2⟩ := (w E).2.getV e2
    exact ⟨d, q1, rr, .refl, q2⟩
  | flst ds =>
    injection e with e; subst e
    simp only [RD] at r
    obtain ⟨a, vs, rfl, t, r1⟩ := r
    refine ⟨a, vs, rfl, .inl ⟨t.seq, ?_⟩⟩
    have w : ∀ {μ' h' H'}, Ext μ (lckL [] h) H μ' h' H' → SqL W.K H' a vs ∧ RDs W μ' H' ds vs := fun E => ⟨(E.fzL x t).seq, RDs.ext E x ds vs r1⟩
    refine ⟨fun i μ' h' H' hi _ E => (walk_list (xs := vs)).goes i H' (by rw [← r1.len]; exact hi) (w E).1, fun μ' h' H' _ E => by rw [r1.len]; exact (walk_list (xs := vs)).stops H' (w E).1, fun i μ' h' H' y H'' hi rr E hy => ?_⟩
    obtain ⟨e1, e2⟩ := (walk_list (xs := vs)).yields i H' y H'' (by rw [← r1.len]; exact hi) (w E).1 hy
    subst e1
    obtain ⟨d, q1, q2⟩ := (w E).2.getV e2
    exact ⟨d, q1, rr, .refl, q2⟩
  | ref n =>
    simp only [RD] at r
    obtain ⟨a, e1, rfl⟩ := r
    obtain ⟨⟨l, o⟩, e2, ro⟩ := x.at e1
    cases o with
    | lst ds =>
      simp only [seqL, e2] at e; injection e with e; subst e
      obtain ⟨vs, q1, r1⟩ := ro
      refine ⟨a, vs, rfl, .inl ⟨SqL.of q1, ?_⟩⟩
      have w : ∀ {μ' h' H'}, R W μ' h' H' → Ext μ (lckL [n] h) H μ' h' H' → ∃ vs', SqL W.K H' a vs' ∧ RDs W μ' H' ds vs' := fun rr E => by
        have e3 : (lckL [n] h)[n]? = some (true, .lst ds) := by rw [lock_get, if_pos (by simp), e2]; rfl
        obtain ⟨o', e4, e5⟩ := E.hc.lk e3
        have e6 := e5 trivial
        subst e6
        obtain ⟨vs', q2, q3⟩ := rr.ob n a _ (E.mu e1) e4
        exact ⟨vs', SqL.of q2, q3⟩
      refine ⟨fun i μ' h' H' hi rr E => ?_, fun μ' h' H' rr E => ?_, fun i μ' h' H' y H'' hi rr E hy => ?_⟩
      · obtain ⟨vs', w1, w2⟩ := w rr E
        exact (walk_list (xs := vs')).goes i H' (by rw [← w2.len]; exact hi) w1
      · obtain ⟨vs', w1, w2⟩ := w rr E
        show (Itl W.K a).stop ds.length H'
        rw [w2.len]; exact (walk_list (xs := vs')).stops H' w1
      · obtain ⟨vs', w1, w2⟩ := w rr E
        obtain ⟨e1, e2⟩ := (walk_list (xs := vs')).yields i H' y H'' (by rw [← w2.len]; exact hi) w1 hy
        subst e1
        obtain ⟨d, q1, q2⟩ := w2.getV e2
        exact ⟨d, q1, rr, .refl, q2⟩
    | _ => simp only [seqL, e2] at e; cases e
  | _ => cases e
theorem itRange (lo : Int) (n : Nat) : ItOk W (Itr lo n) false ((List.range n).map fun (k : Nat) => .int (lo + (k : Int))) μ h H := by
  refine ⟨fun i μ' h' H' hi _ _ => walk_range.goes i H' (by simpa using hi) trivial, fun μ' h' H' _ _ => by simpa using walk_range.stops H' trivial, fun i μ' h' H' x H'' hi rr E hy => ?_⟩
  have hi' : i < n := by simpa using hi
  obtain ⟨e1, e2⟩ := walk_range.yields i H' x H'' hi' trivial hy
  subst e1; subst e2
  exact ⟨.int (lo + (i : Int)), by simp [hi'], rr, .refl, by simp [RD]⟩
end
section
variable {X : Cx} {Wx : WX} {tg a b : Expr} {ca cb : CE} {p pos : Pos}
theorem it_seq (ha : SE X Wx a ca) : SI X Wx tg a false (cItS ca) := by
  refine pi_mono (pi_of ha piv_seq) fun σ H Q ⟨μ, ρ, h, r, rs, k⟩ => ?_
  refine ⟨μ, ρ, h, r, rs, ?_⟩
  unfold cItS at k
  cases e : ca ρ h with
  | stuck => rw [e] at k; exact k
  | exn c x h' => rw [e] at k; exact k
  | ok d h1 =>
    rw [e] at k
    have k : kI (wd X) Wx false μ h H σ Q (match seqL d h1 with | some p => .ok p h1 | none => .stuck) := k
    cases e2 : seqL d h1 with
    | none => rw [e2] at k; exact False.elim k
    | some q =>
      rw [e2] at k
      intro μ' H' v r' E rd
      obtain ⟨a, xs, rfl, hh⟩ := itSeq rfl r' rd e2
      refine ⟨a, xs, rfl, ?_⟩
      rcases hh with ⟨h1, h2⟩ | ⟨h1, h2⟩
      · exact .inl ⟨h1, k μ' H' _ r' E h2⟩
      · exact .inr ⟨h1, k μ' H' _ r' E h2⟩
theorem kI.one {σ : L2.St} {Q : It → Hp → Prop} {μ : List Addr} {h : Hc} {H : Hp} {α β : Type} {rel : List Addr → Hp → α → β → Prop} {r : Res α} {f : α → Hc → Res (List D × List Nat)} {W : Wd} {tp : Bool} (x : R W μ h H) (k : kI W Wx tp μ h H σ Q (r.bind f)) :
    kR rel W Wx μ h H σ (fun b H1 => ∃ a μ1 h1, r = .ok a h1 ∧ R W μ1 h1 H1 ∧ Ext μ h H μ1 h1 H1 ∧ rel μ1 H1 a b ∧ kI W Wx tp μ1 h1 H1 σ Q (f a h1)) r := by
  cases r with
  | ok a h1 =>
    intro μ1 H1 b y z w
    refine ⟨a, μ1, h1, rfl, y, z, w, ?_⟩
    have k : kI W Wx tp μ h H σ Q (f a h1) := k
    cases e : f a h1 with
    | ok p h' => rw [e] at k; exact fun μ' H' J y' z' w' => k μ' H' J y' (z.trans x z') w'
    | exn c d h' => rw [e] at k; exact fun μ' H' C dd v a y' z' b c => k μ' H' C dd v a y' (z.trans x z') b c
    | stuck => rw [e] at k; exact k
  | exn c d h' => exact k
  | stuck => exact k
theorem it_range1 (hm : X.mg "range" = none) (ha : SE X Wx a ca) (hg : Gl X "range" := by rfl) (hs : starEach [a] X.env = [(false, eval a X.env)] := by rfl) (h0 : starEach [a] X.env = (false, eval a X.env) :: starEach [] X.env := by rfl) : SI X Wx tg (.Call (.Name "range" p) [a] [] pos) false (cItR1 ca) := by
  refine pi_mono (pi_range1 hg hm (pa_cons ha pa_nil h0) hs) fun σ H Q ⟨μ, ρ, h, r, rs, k⟩ => ?_
  refine ⟨μ, ρ, h, r, rs, (kI.one r k).imp fun v H1 ⟨d, μ1, h1, _, r1, e1, d1, k1⟩ => ?_⟩
  cases d with
  | int j =>
    simp only [RD] at d1; subst d1
    simp only at k1
    split at k1
    · rename_i hj
      simp only [Bool.and_eq_true, decide_eq_true_eq] at hj
      exact ⟨j, rfl, hj.1, hj.2, k1 μ1 H1 _ r1 .refl (itRange 0 j.toNat)⟩
    · exact False.elim k1
  | _ => exact False.elim k1
theorem it_range2 (hm : X.mg "range" = none) (ha : SE X Wx a ca) (hb : SE X Wx b cb) (hg : Gl X "range" := by rfl) (hs : starEach [a, b] X.env = [(false, eval a X.env), (false, eval b X.env)] := by rfl) (hs2 : starEach [b] X.env = [(false, eval b X.env)] := by rfl) (h0 : starEach [b] X.env = (false, eval b X.env) :: starEach [] X.env := by rfl) :
    SI X Wx tg (.Call (.Name "range" p) [a, b] [] pos) false (cItR2 ca cb) := by
  refine pi_mono (pi_range2 hg hm (pa_cons ha (pa_cons hb pa_nil h0) (by rw [hs, hs2])) hs hs2) fun σ H Q ⟨μ, ρ, h, r, rs, k⟩ => ?_
  refine ⟨μ, ρ, h, r, rs, (kI.one r k).imp fun v H1 ⟨d, μ1, h1, _, r1, e1, d1, k1⟩ => ?_⟩
  refine ⟨μ1, ρ, h1, r1, rs.ext e1 r, (kI.one r1 k1).imp fun w H2 ⟨e, μ2, h2, _, r2, e2, d2, k2⟩ => ?_⟩
  cases d with
  | int i =>
    cases e with
    | int j =>
      simp only [RD] at d1 d2; subst d1; subst d2
      simp only at k2
      split at k2
      · rename_i hj
        simp only [Bool.and_eq_true, decide_eq_true_eq] at hj
        exact ⟨i, j, rfl, ⟨hj.1.1, hj.1.2, hj.2.1, hj.2.2⟩, k2 μ2 H2 _ r2 .refl (itRange i (j - i).toNat)⟩
      · exact False.elim k2
    | _ => exact False.elim k2
  | _ => exact False.elim k2
end

def cForB (t : TGT) (b : CS) : List D → Rho → Hc → ResS
  | [], ρ, h => .ok .nx ρ h
  | d :: r, ρ, h => match asg t d ρ with
    | none => .stuck
    | some ρ1 => match b ρ1 h with
      | .ok .nx ρ2 h2 => cForB t b r ρ2 h2
      | .ok .ct ρ2 h2 => cForB t b r ρ2 h2
      | .ok .bk ρ2 h2 => .ok .nx ρ2 h2
      | q => q
def ulkS (h1 : Hc) (ls : List Nat) : ResS → ResS
  | .ok f ρ h2 => .ok f ρ (ulkL h1 ls h2)
  | .stuck => .stuck
def cFor (ci : CI) (t : TGT) (b : CS) : CS := fun ρ h => match ci ρ h with
  | .ok p h1 => ulkS h1 p.2 (cForB t b p.1 ρ (lckL p.2 h1))
  | .exn c x h1 => .ok (.exn c x) ρ h1
  | .stuck => .stuck
def tpOk (tp : Bool) : TGT → Bool
  | .nm _ => !tp
  | .tp _ => true
theorem RDt.yld {W : Wd} {μ : List Addr} {H : Hp} {tp : Bool} {t : TGT} {d : D} {v : V} {ρ ρ' : Rho} (ht : tpOk tp t = true) (r : if tp then RDw W μ H d v else RD W μ H d v) (e : asg t d ρ = some ρ') : RDt W μ H t d v := by
  cases tp with
  | false => exact RDt.of r e
  | true =>
    cases t with
    | nm i => cases ht
    | tp ts => exact r
theorem kS.ulk {W : Wd} {Wx : WX} {μ : List Addr} {h1 : Hc} {H : Hp} {D : Ends} {ls : List Nat} {r : ResS} (x : R W μ h1 H) (k : kS W Wx μ h1 H D (ulkS h1 ls r)) : kS W Wx μ (lckL ls h1) H D r := by
  cases r with
  | stuck => exact k
  | ok f ρ h2 =>
    intro μ' H' σ' y E rs
    obtain ⟨a, b⟩ := x.unlk y E
    exact k μ' H' σ' a b rs
section
variable {X : Cx} {Wx : WX} {tg it : Expr} {tp : Bool} {ci : CI} {t : TGT} {body : List Stmt} {cb : CS} {pos : Pos}
theorem s_for (hp : PassesOwn (model X.prog X.w) X.A X.env X.xe) (hc : X.calm = true) (hi : SI X Wx tg it tp ci) (hg : SG X tg t) (hb : SSs X Wx body cb) (ht : tpOk tp t = true := by rfl) (hf : ∀ x, foldedSetIterable it X.env x = pure x := by intro _; rfl) : SS X Wx (.For tg it body [] pos) (cFor ci t cb) := by
  refine ps_mono (ps_for hp hc hi hg hb hf) fun D σ H ⟨μ, ρ, h, r, rs, k⟩ => ?_
  refine ⟨μ, ρ, h, r, rs, ?_⟩
  unfold cFor at k
  cases e : ci ρ h with
  | stuck => rw [e] at k; exact k
  | exn c x h1 => rw [e] at k; exact fun μ' H' C dd v a y z b w => k μ' H' σ y z (rs.ext z r) C dd v a b w
  | ok q h1 =>
    rw [e] at k
    intro μ1 H1 J r1 E1 hJ
    have k1 := kS.ulk r1 (kS.shift r E1 (show kS (wd X) Wx μ h H D (ulkS h1 q.2 (cForB t cb q.1 ρ (lckL q.2 h1))) from k))
    have r1' := r1.lock (ls := q.2)
    refine ⟨fun i m σ2 H2 => m = q.1.length - i ∧ i ≤ q.1.length ∧ ∃ μ2 ρ2 h2, R (wd X) μ2 h2 H2 ∧ Ext μ1 (lckL q.2 h1) H1 μ2 h2 H2 ∧ RS (wd X) μ2 H2 ρ2 σ2 ∧ kS (wd X) Wx μ2 h2 H2 D (cForB t cb (q.1.drop i) ρ2 h2),
      ⟨q.1.length, rfl, Nat.zero_le _, μ1, ρ, lckL q.2 h1, r1', .refl, rs.ext E1 r, k1⟩, ?_⟩
    rintro i m σ2 H2 ⟨rfl, hi, μ2, ρ2, h2, r2, E2, rs2, k2⟩
    by_cases hlt : i < q.1.length
    · refine .inr ⟨hJ.goes i μ2 h2 H2 hlt r2 E2, fun σ3 H3 => ∃ m', m' < q.1.length - i ∧ (m' = q.1.length - (i + 1) ∧ i + 1 ≤ q.1.length ∧ ∃ μ2 ρ2 h2, R (wd X) μ2 h2 H3 ∧ Ext μ1 (lckL q.2 h1) H1 μ2 h2 H3 ∧ RS (wd X) μ2 H3 ρ2 σ3 ∧ kS (wd X) Wx μ2 h2 H3 D (cForB t cb (q.1.drop (i + 1)) ρ2 h2)), fun σ' H' z => z, fun x H' hy => ?_⟩
      obtain ⟨d, e1, r3, E3, rd⟩ := hJ.yields i μ2 h2 H2 x H' hlt r2 E2 hy
      have ed : q.1.drop i = d :: q.1.drop (i + 1) := by
        rw [List.drop_eq_getElem_cons hlt]
        have := (List.getElem?_eq_some_iff.mp e1).2
        rw [this]
      rw [ed] at k2
      simp only [cForB] at k2
      cases e2 : asg t d ρ2 with
      | none => simp only [e2] at k2; exact False.elim k2
      | some ρ3 =>
        simp only [e2] at k2
        refine ⟨μ2, ρ2, h2, d, ρ3, r3, rs2.ext E3 r2, RDt.yld ht rd e2, e2, fun σ3 s3 _ => ⟨μ2, ρ3, h2, r3, s3, ?_⟩⟩
        have k3 := kS.shift r2 E3 k2
        have go : ∀ {ρ4 h4}, kS (wd X) Wx μ2 h2 H' D (cForB t cb (q.1.drop (i + 1)) ρ4 h4) → ∀ μ' H'' σ', R (wd X) μ' h4 H'' → Ext μ2 h2 H' μ' h4 H'' → RS (wd X) μ' H'' ρ4 σ' → ∃ m', m' < q.1.length - i ∧ (m' = q.1.length - (i + 1) ∧ i + 1 ≤ q.1.length ∧ ∃ μ2 ρ2 h2, R (wd X) μ2 h2 H'' ∧ Ext μ1 (lckL q.2 h1) H1 μ2 h2 H'' ∧ RS (wd X) μ2 H'' ρ2 σ' ∧ kS (wd X) Wx μ2 h2 H'' D (cForB t cb (q.1.drop (i + 1)) ρ2 h2)) :=
          fun k4 μ' H'' σ' y E rs' => ⟨_, by omega, rfl, hlt, μ', _, _, y, (E2.trans r1' E3).trans r1' E, rs', kS.shift r3 E k4⟩
        cases e3 : cb ρ3 h2 with
        | stuck => rw [e3] at k3; exact k3
        | ok f ρ4 h4 =>
          rw [e3] at k3
          cases f with
          | nx => exact go k3
          | ct => exact go k3
          | bk => exact fun μ' H'' σ' y E rs' => k3 μ' H'' σ' y E rs'
          | ret d => exact k3
          | exn c x => exact k3
    · have ei : i = q.1.length := by omega
      subst ei
      refine .inl ⟨hJ.stops μ2 h2 H2 r2 E2, ?_⟩
      rw [List.drop_length] at k2
      exact k2.nx r2 rs2
end

def cYes : CT := fun _ h => .ok true h
def cCompB (t : TGT) (tt : CT) (e : CE) (ρ : Rho) : List D → Hc → Res (List D)
  | [], h => .ok [] h
  | d :: r, h => match asg t d ρ with
    | none => .stuck
    | some ρ1 => (tt ρ1 h).bind fun b h1 => match b with
      | true => (e ρ1 h1).bind fun x h2 => (cCompB t tt e ρ r h2).bind fun xs h3 => .ok (x :: xs) h3
      | false => cCompB t tt e ρ r h1
def ulkR {α : Type} (h1 : Hc) (ls : List Nat) : Res α → Res α
  | .ok a h2 => .ok a (ulkL h1 ls h2)
  | .exn c x h2 => .exn c x (ulkL h1 ls h2)
  | .stuck => .stuck
def noX {α : Type} : Res α → Res α
  | .ok a h => .ok a h
  | _ => .stuck
def wipeD (ρ : Rho) : List Nat → Rho
  | [] => ρ
  | v :: vs => (wipeD ρ vs).set v none
def cComp (vs : List Nat) (ci : CI) (t : TGT) (tt : CT) (e : CE) : CE := fun ρ h => match ci ρ h with
  | .ok p h1 => if decide (p.1.length < sizeLine) then (ulkR h1 p.2 (noX (cCompB t tt e (wipeD ρ vs) p.1 (lckL p.2 h1)))).bind fun xs h2 => .ok (.ref h2.length) (h2 ++ [(false, .lst xs)]) else .stuck
  | .exn c x h1 => .exn c x h1
  | .stuck => .stuck
end Sx

set_option Elab.async false
set_option linter.all false
set_option maxRecDepth 100000
namespace Sx
open PySem PySem.Spec PyProof.Rows L2

def LstAt (H : Hp) (p : Addr) : Prop := H p = none ∨ ∃ xs, H p = some (.lst xs)
section
variable {W : Wd} {μ μ1 : List Addr} {h h1 : Hc} {H H1 : Hp} {p : Addr} {ys : List V}
theorem fixOff (hp : LstAt H p) {a : Addr} {o : HO} (e : H a = some o) (hm : isMut o = false) : upd H p (.lst ys) a = some o := by
  rw [upd_ne]; exact e
  rintro rfl
  rcases hp with hp | ⟨xs, hp⟩
  · rw [hp] at e; cases e
  · rw [hp] at e; cases e; cases hm
mutual
theorem RD.off (hp : LstAt H p) : ∀ (d : D) (v : V), RD W μ H d v → RD W μ (upd H p (.lst ys)) d v
  | .non, v, e => by simpa only [RD] using e
  | .bl _, v, e => by simpa only [RD] using e
  | .int _, v, e => by simpa only [RD] using e
  | .str _, v, e => by simpa only [RD] using e
  | .tup ds, v, e => by
    simp only [RD] at e ⊢
    obtain ⟨a, vs, e1, e2, e3⟩ := e
    refine ⟨a, vs, e1, ?_, RDs.off hp ds vs e3⟩
    rcases e2 with ⟨o, e2, q⟩ | e2
    · exact .inl ⟨o, fixOff hp e2 rfl, q⟩
    · exact .inr e2
  | .ref n, v, e => by simpa only [RD] using e
  | .flst ds, v, e => by
    simp only [RD] at e ⊢
    obtain ⟨a, vs, e1, e2, e3⟩ := e
    refine ⟨a, vs, e1, ?_, RDs.off hp ds vs e3⟩
    rcases e2 with ⟨o, e2⟩ | e2
    · exact .inl ⟨o, fixOff hp e2 rfl⟩
    · exact .inr e2
  | .obj c ns ds, v, e => by
    simp only [RD] at e ⊢
    obtain ⟨a, C, dx, vs, e1, e2, e3, e4, e5⟩ := e
    exact ⟨a, C, dx, vs, e1, e2, fixOff hp e3 rfl, e4, RDs.off hp ds vs e5⟩
  | .ty _, v, e => by simpa only [RD] using e
  | .gl _, v, e => by simpa only [RD] using e
  | .clo f c q vs ds, v, e => by
    simp only [RD] at e ⊢
    obtain ⟨e1, e2, e3⟩ := e
    refine ⟨e1, ?_, RDs.off hp ds vs e3⟩
    rw [upd_ne]; exact e2
    rintro rfl
    rcases hp with q | ⟨_, q⟩ <;> rw [e2] at q <;> cases q
theorem RDs.off (hp : LstAt H p) : ∀ (ds : List D) (vs : List V), RDs W μ H ds vs → RDs W μ (upd H p (.lst ys)) ds vs
  | [], vs, e => by simpa only [RDs] using e
  | d :: ds, vs, e => by
    simp only [RDs] at e ⊢
    obtain ⟨v, r, e1, e2, e3⟩ := e
    exact ⟨v, r, e1, RD.off hp d v e2, RDs.off hp ds r e3⟩
end
mutual
theorem RD.pre {m : List Addr} : ∀ (d : D) (v : V), RD W μ H d v → RD W (μ ++ m) H d v
  | .non, v, e => by simpa only [RD] using e
  | .bl _, v, e => by simpa only [RD] using e
  | .int _, v, e => by simpa only [RD] using e
  | .str _, v, e => by simpa only [RD] using e
  | .tup ds, v, e => by
    simp only [RD] at e ⊢
    obtain ⟨a, vs, e1, e2, e3⟩ := e
    exact ⟨a, vs, e1, e2, RDs.pre ds vs e3⟩
  | .ref n, v, e => by
    simp only [RD] at e ⊢
    obtain ⟨a, e1, e2⟩ := e
    exact ⟨a, by rw [List.getElem?_append_left (List.getElem?_eq_some_iff.mp e1).1, e1], e2⟩
  | .flst ds, v, e => by
    simp only [RD] at e ⊢
    obtain ⟨a, vs, e1, e2, e3⟩ := e
    exact ⟨a, vs, e1, e2, RDs.pre ds vs e3⟩
  | .obj c ns ds, v, e => by
    simp only [RD] at e ⊢
    obtain ⟨a, C, dx, vs, e1, e2, e3, e4, e5⟩ := e
    exact ⟨a, C, dx, vs, e1, e2, e3, e4, RDs.pre ds vs e5⟩
  | .ty _, v, e => by simpa only [RD] using e
  | .gl _, v, e => by simpa only [RD] using e
  | .clo f c q vs ds, v, e => by
    simp only [RD] at e ⊢
    obtain ⟨e1, e2, e3⟩ := e
    exact ⟨e1, e2, RDs.pre ds vs e3⟩
theorem RDs.pre {m : List Addr} : ∀ (ds : List D) (vs : List V), RDs W μ H ds vs → RDs W (μ ++ m) H ds vs
  | [], vs, e => by simpa only [RDs] using e
  | d :: ds, vs, e => by
    simp only [RDs] at e ⊢
    obtain ⟨v, r, e1, e2, e3⟩ := e
    exact ⟨v, r, e1, RD.pre d v e2, RDs.pre ds r e3⟩
end
theorem RO.off {a : Addr} {q : Bool × O} (hp : LstAt H p) (ha : a ≠ p) (x : RO W μ H a q) : RO W μ (upd H p (.lst ys)) a q := by
  obtain ⟨l, o⟩ := q
  cases o with
  | lst ds =>
    obtain ⟨vs, e1, e2⟩ := x
    exact ⟨vs, by rw [upd_ne ha]; exact e1, RDs.off hp ds vs e2⟩
  | dic kvs =>
    obtain ⟨vs, e1, e2⟩ := x
    exact ⟨vs, by rw [upd_ne ha]; exact e1, RDs.off hp _ vs e2⟩
  | tab y q =>
    obtain ⟨ps, e1, e2, e3⟩ := x
    refine ⟨ps, by rw [upd_ne ha]; exact e1, e2, fun pos cv z => ?_⟩
    obtain ⟨c, z1, z2⟩ := e3 pos cv z
    refine ⟨c, z1, ?_⟩
    rw [upd_ne]; exact z2
    rintro rfl
    rcases hp with q | ⟨_, q⟩ <;> rw [z2] at q <;> cases q
  | dcd kvs => exact x.keepD (upd_ne ha) (fun d v => RD.off hp d v)
  | dif kvs => exact x.keepF (upd_ne ha) (fun d v => RD.off hp d v)
theorem RO.pre {a : Addr} {q : Bool × O} {m : List Addr} (x : RO W μ H a q) : RO W (μ ++ m) H a q := by
  obtain ⟨l, o⟩ := q
  cases o with
  | lst ds =>
    obtain ⟨vs, e1, e2⟩ := x
    exact ⟨vs, e1, RDs.pre ds vs e2⟩
  | dic kvs =>
    obtain ⟨vs, e1, e2⟩ := x
    exact ⟨vs, e1, RDs.pre _ vs e2⟩
  | tab y q => exact x
  | dcd kvs => exact x.keepD rfl (fun d v => RD.pre d v)
  | dif kvs => exact x.keepF rfl (fun d v => RD.pre d v)
theorem R.off (x : R W μ h H) (hp : LstAt H p) (hn : p ∉ μ) : R W μ h (upd H p (.lst ys)) :=
  ⟨x.len, x.nd, fun n a q e1 e2 => (x.ob n a q e1 e2).off hp (fun z => hn (z ▸ List.mem_of_getElem? e1))⟩
theorem RV.off {W : Wd} {d : D} {v : V} (hp : LstAt H p) (r : RV W μ H d v) : RV W μ (upd H p (.lst ys)) d v := by
  rcases r with r | ⟨c, y, rfl, a, C, dd, u, e1, e2, e3, e4, e5, e6⟩
  · exact .inl (RD.off hp d v r)
  · refine .inr ⟨c, y, rfl, a, C, dd, u, e1, e2, e3, ?_, RD.off hp y u e5, e6⟩
    rw [upd_ne]; exact e4
    intro z; subst z
    rcases hp with q | ⟨_, q⟩ <;> rw [e4] at q <;> cases q
theorem RS.off {W : Wd} {ρ : Rho} {σ : L2.St} (rs : RS W μ H ρ σ) (hp : LstAt H p) : RS W μ (upd H p (.lst ys)) ρ σ :=
  ⟨rs.1, fun i d e => let ⟨v, a, b⟩ := rs.2 i d e; ⟨v, a, RV.off hp b⟩⟩
theorem Ext.off (E : Ext μ h H μ1 h1 H1) (hp : H p = none) : Ext μ h H μ1 h1 (upd H1 p (.lst ys)) :=
  ⟨E.pre, fun a o e k => by rw [upd_ne (ne_of_none e hp)]; exact E.frame a o e k, fun a z => by
    unfold upd; split
    · simp
    · exact E.dom a z, E.hc⟩
theorem R.adopt {ds : List D} {vs : List V} (x : R W μ1 h1 H1) (E : Ext μ h H μ1 h1 H1) (hp : H p = none) (hn : p ∉ μ1) (e : H1 p = some (.lst vs)) (r : RDs W μ1 H1 ds vs) :
    R W (μ1 ++ [p]) (h1 ++ [(false, .lst ds)]) H1 ∧ Ext μ h H (μ1 ++ [p]) (h1 ++ [(false, .lst ds)]) H1 := by
  refine ⟨⟨by simp [x.len], ?_, fun n a q e1 e2 => ?_⟩, ⟨?_, E.frame, E.dom, E.hc.trans fun n q e => ⟨q, by rw [List.getElem?_append_left (List.getElem?_eq_some_iff.mp e).1, e], fun _ => rfl⟩⟩⟩
  · rw [List.nodup_append]
    refine ⟨x.nd, by simp, fun a ha b hb z => ?_⟩
    simp at hb; subst hb; subst z
    exact hn ha
  · by_cases hn2 : n < μ1.length
    · rw [List.getElem?_append_left hn2] at e1
      rw [List.getElem?_append_left (by rw [← x.len]; exact hn2)] at e2
      exact (x.ob n a q e1 e2).pre
    · have hn3 : n = μ1.length := by
        have := (List.getElem?_eq_some_iff.mp e1).1
        simp at this; omega
      subst hn3
      simp at e1; subst e1
      rw [x.len] at e2
      simp at e2; subst e2
      exact ⟨vs, e, RDs.pre ds vs r⟩
  · obtain ⟨m, e1, f⟩ := E.pre
    refine ⟨m ++ [p], by rw [e1, List.append_assoc], fun a ha => ?_⟩
    rcases List.mem_append.mp ha with z | z
    · exact f a z
    · simp at z; subst z; exact hp
theorem Ext.notin (E : Ext μ h H μ1 h1 H1) (x : R W μ h H) (x1 : R W μ1 h1 H1) {μ2 : List Addr} {h2 : Hc} {H2 : Hp} (F : Ext μ1 h1 H1 μ2 h2 H2) (hp : p ∉ μ1) (hs : H1 p ≠ none) : p ∉ μ2 := fun hm => by
  obtain ⟨m, e, f⟩ := F.pre
  rw [e] at hm
  rcases List.mem_append.mp hm with z | z
  · exact hp z
  · exact hs (f p z)
end
theorem wipe_get {σ : L2.St} {i : Nat} : ∀ {vs : List Nat}, (wipe σ vs)[i]? = if i ∈ vs ∧ i < σ.length then some none else σ[i]?
  | [] => by simp [wipe]
  | v :: vs => by
    unfold wipe
    by_cases hi : v = i
    · subst hi
      by_cases hv : v < σ.length
      · rw [List.getElem?_set_self (by rw [wipe_length]; exact hv), if_pos ⟨List.mem_cons_self, hv⟩]
      · rw [List.getElem?_eq_none (by simp [wipe_length]; omega), if_neg (fun z => hv z.2), List.getElem?_eq_none (by omega)]
    · rw [List.getElem?_set_ne hi, wipe_get]
      by_cases h2 : i ∈ vs ∧ i < σ.length
      · rw [if_pos h2, if_pos ⟨List.mem_cons_of_mem _ h2.1, h2.2⟩]
      · rw [if_neg h2, if_neg]
        rintro ⟨q1, q2⟩
        rcases List.mem_cons.mp q1 with q1 | q1
        · exact hi q1.symm
        · exact h2 ⟨q1, q2⟩
theorem wipeD_len (ρ : Rho) : ∀ vs : List Nat, (wipeD ρ vs).length = ρ.length
  | [] => rfl
  | v :: vs => by unfold wipeD; rw [List.length_set, wipeD_len ρ vs]
theorem wipeD_some {ρ : Rho} {i : Nat} {x : D} : ∀ {vs : List Nat}, (wipeD ρ vs)[i]? = some (some x) → ρ[i]? = some (some x) ∧ i ∉ vs
  | [], h => ⟨h, by simp⟩
  | v :: vs, h => by
    unfold wipeD at h
    by_cases hi : v = i
    · subst hi
      by_cases hv : v < (wipeD ρ vs).length
      · rw [List.getElem?_set_self hv] at h; cases h
      · rw [List.getElem?_eq_none (by simpa using hv)] at h; cases h
    · rw [List.getElem?_set_ne hi] at h
      obtain ⟨h1, h2⟩ := wipeD_some h
      exact ⟨h1, by simp only [List.mem_cons, not_or]; exact ⟨fun e => hi e.symm, h2⟩⟩
theorem RS.wipe {W : Wd} {μ : List Addr} {H : Hp} {ρ : Rho} {σ : L2.St} (rs : RS W μ H ρ σ) (vs : List Nat) : RS W μ H (wipeD ρ vs) (L2.wipe σ vs) := by
  refine ⟨by rw [wipeD_len, wipe_length, rs.1], fun i d e => ?_⟩
  obtain ⟨e1, e2⟩ := wipeD_some e
  obtain ⟨v, e3, e4⟩ := rs.2 i d e1
  exact ⟨v, by rw [wipe_get, if_neg (fun z => e2 z.1)]; exact e3, e4⟩
theorem wipe_only {vs ws : List Nat} {σ σ' : L2.St} (o : Only' ws (wipe σ vs) σ') (hw : ∀ i ∈ ws, i ∈ vs) : wipe σ' vs = wipe σ vs := by
  apply List.ext_getElem?
  intro i
  have hl : σ'.length = σ.length := by rw [o.1, wipe_length]
  rw [wipe_get, wipe_get, hl]
  by_cases h : i ∈ vs ∧ i < σ.length
  · rw [if_pos h, if_pos h]
  · rw [if_neg h, if_neg h]
    by_cases hi : i ∈ vs
    · have : σ.length ≤ i := Nat.le_of_not_lt fun z => h ⟨hi, z⟩
      rw [List.getElem?_eq_none this, List.getElem?_eq_none (by omega)]
    · rw [o.2 i (fun z => hi (hw i z)), wipe_get, if_neg (fun z => hi z.1)]

abbrev wx0 : WX := fun _ _ _ _ => False
def preR (acc : List D) : Res (List D) → Res (List D)
  | .ok xs h => .ok (acc ++ xs) h
  | r => r
def kC (W : Wd) (μ1 : List Addr) (h1 : Hc) (H1 : Hp) (p : Addr) (Q : V → Hp → Prop) : Res (List D) → Prop
  | .ok xs h3 => ∀ μ3 H3 vs, R W μ3 h3 H3 → Ext μ1 h1 H1 μ3 h3 H3 → p ∉ μ3 → H3 p = some (.lst vs) → RDs W μ3 H3 xs vs → Q (.ref p) H3
  | _ => False
section
variable {X : Cx} {Wx : WX} {tg it elt : Expr} {ifs : List Expr} {tp : Bool} {ci : CI} {t : TGT} {tt : CT} {ce : CE} {scope : Scope} {own : List (Str × Nat)} {pos : Pos}
theorem kC.start {μ μ1 : List Addr} {h h1 : Hc} {H H1 : Hp} {σ : L2.St} {Q : V → Hp → Prop} {ls : List Nat} {p : Addr} {r : Res (List D)} {W : Wd} (x : R W μ h H) (x1 : R W μ1 h1 H1) (E : Ext μ h H μ1 h1 H1) (hp : H1 p = none)
    (k : kR (RD W) W Wx μ h H σ Q ((ulkR h1 ls (noX r)).bind fun xs h2 => .ok (.ref h2.length) (h2 ++ [(false, .lst xs)]))) : kC W μ1 (lckL ls h1) H1 p Q (preR [] r) := by
  cases r with
  | ok xs h3 =>
    intro μ3 H3 vs r3 E3 hn e rd
    obtain ⟨a, b⟩ := x1.unlk r3 E3
    obtain ⟨c, d⟩ := a.adopt b hp hn e (ds := xs) (by simpa using rd)
    refine k _ _ _ c (E.trans x d) ?_
    simp only [RD]
    exact ⟨p, by rw [← a.len]; simp, rfl⟩
  | exn c x h => exact False.elim k
  | stuck => exact False.elim k
abbrev bX (X : Cx) (scope : Scope) (s : Shared) (H : Hp) (C : Addr) (cl : List (Str × Addr)) (fp : List Addr) : Cx := X.blk s H scope (compEnvC scope cl C X.env) fp
theorem lc_read {σ : L2.St} {H : Hp} {Q : VK} (ht : tpOk tp t = true) (hv : (tvars t).all (fun i => (own.map (·.2)).contains i) = true) (k : lE (wd X) Wx (cComp (own.map (·.2)) ci t tt ce) σ H Q) :
    tLc (lI (wd X) Wx tp ci) (lTg (wd X) t) (lT (wd X) wx0 tt) (lE (wd X) wx0 ce) (own.map (·.2)) σ H Q := by
  have hv' : ∀ i ∈ tvars t, i ∈ own.map (·.2) := fun i hi => by
    have := List.all_eq_true.mp hv i hi
    simpa using this
  obtain ⟨μ, ρ, h, r, rs, k⟩ := k
  refine ⟨μ, ρ, h, r, rs, ?_⟩
  unfold cComp at k
  cases e : ci ρ h with
  | stuck => rw [e] at k; exact k
  | exn c x h1 => rw [e] at k; exact k
  | ok q h1 =>
    rw [e] at k
    simp only at k
    split at k
    · rename_i hz
      have hz : q.1.length < sizeLine := of_decide_eq_true hz
      intro μ1 H1 J r1 E1 hJ p hp
      have k1 := kC.start r r1 E1 hp k
      have r1' := r1.lock (ls := q.2)
      have rsw := (rs.ext E1 r).wipe (own.map (·.2))
      refine ⟨fun i m H2 => m = q.1.length - i ∧ i ≤ q.1.length ∧ ∃ μ2 h2 acc vs, R (wd X) μ2 h2 H2 ∧ Ext μ1 (lckL q.2 h1) H1 μ2 h2 H2 ∧ p ∉ μ2 ∧ H2 p = some (.lst vs) ∧ RDs (wd X) μ2 H2 acc vs ∧ acc.length ≤ i ∧ RS (wd X) μ2 H2 (wipeD ρ (own.map (·.2))) (wipe σ (own.map (·.2))) ∧ kC (wd X) μ1 (lckL q.2 h1) H1 p Q (preR acc (cCompB t tt ce (wipeD ρ (own.map (·.2))) (q.1.drop i) h2)),
        ⟨q.1.length, rfl, Nat.zero_le _, μ1, lckL q.2 h1, [], [], r1'.off (.inl hp) (r1.notin hp), Ext.off .refl hp, r1.notin hp, upd_same, RDs.nil, Nat.zero_le _, rsw.off (.inl hp), k1⟩, ?_⟩
      rintro i m H2 ⟨rfl, hi, μ2, h2, acc, vs, r2, E2, hn2, ep, rd, hal, rs2, k2⟩
      by_cases hlt : i < q.1.length
      · have ed0 : ∃ d, q.1[i]? = some d := ⟨q.1[i], List.getElem?_eq_getElem hlt⟩
        refine .inr ⟨hJ.goes i μ2 h2 H2 hlt r2 E2, fun H3 => ∃ m', m' < q.1.length - i ∧ (m' = q.1.length - (i + 1) ∧ i + 1 ≤ q.1.length ∧ ∃ μ2 h2 acc vs, R (wd X) μ2 h2 H3 ∧ Ext μ1 (lckL q.2 h1) H1 μ2 h2 H3 ∧ p ∉ μ2 ∧ H3 p = some (.lst vs) ∧ RDs (wd X) μ2 H3 acc vs ∧ acc.length ≤ i + 1 ∧ RS (wd X) μ2 H3 (wipeD ρ (own.map (·.2))) (wipe σ (own.map (·.2))) ∧ kC (wd X) μ1 (lckL q.2 h1) H1 p Q (preR acc (cCompB t tt ce (wipeD ρ (own.map (·.2))) (q.1.drop (i + 1)) h2))), fun H' z => z, fun x H' hy => ?_⟩
        obtain ⟨d, e1, r3, E3, rdx⟩ := hJ.yields i μ2 h2 H2 x H' hlt r2 E2 hy
        have ed : q.1.drop i = d :: q.1.drop (i + 1) := by
          rw [List.drop_eq_getElem_cons hlt, (List.getElem?_eq_some_iff.mp e1).2]
        rw [ed] at k2
        simp only [cCompB] at k2
        cases e2 : asg t d (wipeD ρ (own.map (·.2))) with
        | none => simp only [e2] at k2; exact False.elim k2
        | some ρ3 =>
          simp only [e2] at k2
          have E23 := E2.trans r1' E3
          have keep : ∀ {μa μb : List Addr} {ha hb : Hc} {Ha Hb : Hp}, R (wd X) μa ha Ha → Ext μa ha Ha μb hb Hb → p ∉ μa → Ha p = some (.lst vs) → p ∉ μb ∧ Hb p = some (.lst vs) := fun {μa μb ha hb Ha Hb} ra F hna hpa => by
            refine ⟨fun hm => ?_, F.frame p _ hpa fun n w e3 _ => absurd (List.mem_of_getElem? e3) hna⟩
            obtain ⟨mm, em, ff⟩ := F.pre
            rw [em] at hm
            rcases List.mem_append.mp hm with z | z
            · exact hna z
            · have := ff p z; rw [hpa] at this; cases this
          obtain ⟨hn3, ep3⟩ := keep r2 E3 hn2 ep
          refine ⟨μ2, wipeD ρ (own.map (·.2)), h2, d, ρ3, r3, rs2.ext E3 r2, RDt.yld ht rdx e2, e2, fun σ3 s3 o3 => ⟨wipe_only o3 hv', μ2, ρ3, h2, r3, s3, ?_⟩⟩
          cases e3 : tt ρ3 h2 with
          | stuck => rw [e3] at k2; exact False.elim k2
          | exn c x h => rw [e3] at k2; exact False.elim k2
          | ok b h4 =>
            rw [e3] at k2
            intro μ4 H4 b' r4 E4 eb
            have eb' : b' = b := eb
            subst eb'
            obtain ⟨hn4, ep4⟩ := keep r3 E4 hn3 ep3
            have E24 := E23.trans r1' E4
            cases b' with
            | false =>
              rw [if_neg Bool.false_ne_true]
              exact ⟨_, by omega, rfl, hlt, μ4, h4, acc, vs, r4, E24, hn4, ep4, RDs.ext E4 r3 _ _ (RDs.ext E3 r2 _ _ rd), by omega, (rs2.ext E3 r2).ext E4 r3, k2⟩
            | true =>
              rw [if_pos rfl]
              refine ⟨μ4, ρ3, h4, r4, s3.ext E4 r3, ?_⟩
              have k3 : kC (wd X) μ1 (lckL q.2 h1) H1 p Q (preR acc ((ce ρ3 h4).bind fun x h2 => (cCompB t tt ce (wipeD ρ (own.map (·.2))) (q.1.drop (i + 1)) h2).bind fun xs h3 => .ok (x :: xs) h3)) := k2
              cases e4 : ce ρ3 h4 with
              | stuck => rw [e4] at k3; exact False.elim k3
              | exn c x h => rw [e4] at k3; exact False.elim k3
              | ok y h5 =>
                rw [e4] at k3
                intro μ5 H5 w r5 E5 rdy
                obtain ⟨hn5, ep5⟩ := keep r4 E5 hn4 ep4
                have E25 := E24.trans r1' E5
                have rd5 := RDs.ext E5 r4 _ _ (RDs.ext E4 r3 _ _ (RDs.ext E3 r2 _ _ rd))
                have la : LstAt H5 p := .inr ⟨vs, ep5⟩
                have hlen : vs.length < sizeLine := by rw [← rd.len]; omega
                refine ⟨vs, ep5, hlen, _, by omega, rfl, hlt, μ5, h5, acc ++ [y], vs ++ [w], r5.off la hn5, E25.off hp, hn5, upd_same, RDs.append (RDs.off la _ _ rd5) (RDs.cons (RD.off la y w rdy) RDs.nil), by simp; omega, (((rs2.ext E3 r2).ext E4 r3).ext E5 r4).off la, ?_⟩
                have k4 : kC (wd X) μ1 (lckL q.2 h1) H1 p Q (preR acc ((cCompB t tt ce (wipeD ρ (own.map (·.2))) (q.1.drop (i + 1)) h5).bind fun xs h3 => .ok (y :: xs) h3)) := k3
                cases e5 : cCompB t tt ce (wipeD ρ (own.map (·.2))) (q.1.drop (i + 1)) h5 with
                | stuck => rw [e5] at k4; exact False.elim k4
                | exn c x h => rw [e5] at k4; exact False.elim k4
                | ok xs h6 =>
                  rw [e5] at k4
                  have k5 : kC (wd X) μ1 (lckL q.2 h1) H1 p Q (.ok (acc ++ y :: xs) h6) := k4
                  show kC (wd X) μ1 (lckL q.2 h1) H1 p Q (.ok ((acc ++ [y]) ++ xs) h6)
                  rw [List.append_assoc]
                  exact k5
      · have ei : i = q.1.length := by omega
        subst ei
        refine .inl ⟨hJ.stops μ2 h2 H2 r2 E2, ?_⟩
        rw [List.drop_length] at k2
        have k3 : kC (wd X) μ1 (lckL q.2 h1) H1 p Q (.ok (acc ++ []) h2) := k2
        rw [List.append_nil] at k3
        exact k3 μ2 H2 vs r2 E2 hn2 ep rd
    · exact False.elim k
theorem s_comp (hc : X.calm = true) (hN : X.N.Nodup) (hi : SI X Wx tg it tp ci) (ok : blkC X.N X.env.scope scope own = true)
    (hg : ∀ s H C cl fp, SG (bX X scope s H C cl fp) tg t) (hT : ∀ s H C cl fp, PTs (bX X scope s H C cl fp) ifs (lT (wd (bX X scope s H C cl fp)) wx0 tt)) (he : ∀ s H C cl fp, SE (bX X scope s H C cl fp) wx0 elt ce)
    (ht : tpOk tp t = true := by rfl) (hv : (tvars t).all (fun i => (own.map (·.2)).contains i) = true := by rfl) (hs : ∀ x, foldedSetIterable it X.env x = pure x := by intro _; rfl) :
    SE X Wx (.ListComp elt [⟨tg, it, ifs, 0⟩] scope pos) (cComp (own.map (·.2)) ci t tt ce) :=
  have q : ∀ s H C cl fp, wd (bX X scope s H C cl fp) = wd X := fun _ _ _ _ _ => wd_of hc rfl rfl
  pe_mono (pe_lc (g := lTg (wd X) t) (tt := lT (wd X) wx0 tt) (te := lE (wd X) wx0 ce) hc hN hi (blkOk_by ok) (fun s H C cl fp => by rw [← q s H C cl fp]; exact hg s H C cl fp) (fun s H C cl fp => by rw [← q s H C cl fp]; exact hT s H C cl fp) (fun s H C cl fp => by rw [← q s H C cl fp]; exact he s H C cl fp) hs) fun _ _ _ k => lc_read ht hv k
theorem s_setComp {i : Nat} {y : Str} {py spos : Pos} (hc : X.calm = true) (hN : X.N.Nodup) (hi : SI X Wx tg it tp ci) (ok : blkC X.N X.env.scope scope own = true)
    (hg : ∀ s H C cl fp, SG (bX X scope s H C cl fp) tg t) (hT : ∀ s H C cl fp, PTs (bX X scope s H C cl fp) ifs (lT (wd (bX X scope s H C cl fp)) wx0 tt)) (he : ∀ s H C cl fp, SE (bX X scope s H C cl fp) wx0 elt ce)
    (hsw : swapsWith (.ListComp elt [⟨tg, it, ifs, 0⟩] scope pos) (some (.Name y py)) spos.line X.env = pure true) (hy : X.N[i]? = some y := by rfl) (hyl : X.env.scope.names.lookup y = some .local := by rfl)
    (ht : tpOk tp t = true := by rfl) (hv : (tvars t).all (fun i => (own.map (·.2)).contains i) = true := by rfl) (hs : ∀ x, foldedSetIterable it X.env x = pure x := by intro _; rfl) :
    SS X Wx (.Assign [.Name y py] (.ListComp elt [⟨tg, it, ifs, 0⟩] scope pos) spos) (cSet i (cComp (own.map (·.2)) ci t tt ce)) := by
  have q : ∀ s H C cl fp, wd (bX X scope s H C cl fp) = wd X := fun _ _ _ _ _ => wd_of hc rfl rfl
  refine ps_mono (ps_setLc (g := lTg (wd X) t) (tt := lT (wd X) wx0 tt) (te := lE (wd X) wx0 ce) hc hN hy hyl hsw hi (blkOk_by ok) (fun s H C cl fp => by rw [← q s H C cl fp]; exact hg s H C cl fp) (fun s H C cl fp => by rw [← q s H C cl fp]; exact hT s H C cl fp) (fun s H C cl fp => by rw [← q s H C cl fp]; exact he s H C cl fp) hs) fun D σ H ⟨μ, ρ, h, r, rs, k⟩ => ?_
  refine lc_read ht hv ⟨μ, ρ, h, r, rs, (kS.bind r rs k).imp fun v H1 ⟨x, μ1, h1, _, r1, e1, d1, k1⟩ => ?_⟩
  exact k1.nx r1 ((rs.ext e1 r).put d1 i)
theorem ts_nil : PTs X [] (lT (wd X) Wx cYes) := ⟨fun pins s σ H Q I ⟨μ, ρ, h, r, rs, k⟩ => pts_nil.run pins s σ H Q I (k μ H true r .refl rfl)⟩
theorem ts_one {c : Expr} {ct : CT} (h : ST X Wx c ct) : PTs X [c] (lT (wd X) Wx ct) := pts_one h
end
end Sx

set_option Elab.async false
set_option linter.all false
set_option maxRecDepth 100000
namespace Sx
open PySem PySem.Spec PyProof.Rows L2

abbrev Fn := List D → Hc → Res D
def endD : ResS → Res D
  | .ok .nx _ h => .ok .non h
  | .ok (.ret d) _ h => .ok d h
  | .ok (.exn c x) _ h => .exn c x h
  | _ => .stuck
def runD (n N : Nat) (body : CS) : Fn := fun ds h => if ds.length = n then endD (body (ds.map some ++ List.replicate (N - n) none) h) else .stuck
def spOf (W : Wb) (n : Nat) (m : Fn) : Sp := fun vs H Q E => ∃ μ h ds, R W μ h H ∧ RDs W μ H ds vs ∧ ds.length = n ∧ kR (RD W) W (fun cls d _ H => E cls d H) μ h H [] Q (m ds h)
abbrev eW (E : XK) : WX := fun cls d _ H => E cls d H
abbrev dX (P : Program) (w : World) (K : PySem.W.Frag) (mg : Str → Option Value) (base : Heap) (N : List Str) (qual : Str) (scope : Scope) (f : Addr) (cd : Value) (A : Around) (outer : List Env) (s : Shared) (H : Hp) (E : XK) : Cx := cxOf (L2.CX P w) P w K mg base N qual scope f cd A outer s H E
theorem start_RS {W : Wd} {μ : List Addr} {H : Hp} {N : List Str} : ∀ {ds : List D} {vs : List V}, RDs W μ H ds vs → RS W μ H (ds.map some ++ List.replicate (N.length - ds.length) none) (L2.start N vs) := fun {ds vs} r => by
  unfold L2.start
  refine ⟨by simp [r.len], fun i d e => ?_⟩
  by_cases hi : i < ds.length
  · rw [List.getElem?_append_left (by simpa using hi)] at e
    rw [List.getElem?_map] at e
    cases q : ds[i]? with
    | none => rw [q] at e; cases e
    | some d' =>
      rw [q] at e
      have e' : d' = d := by injection e with e; injection e
      subst e'
      obtain ⟨v, e1, e2⟩ := r.get q
      refine ⟨v, ?_, .inl e2⟩
      rw [List.getElem?_append_left (by rw [List.length_map, ← r.len]; exact hi), List.getElem?_map, e1]; rfl
  · rw [List.getElem?_append_right (by simpa using Nat.le_of_not_lt hi)] at e
    have := List.mem_replicate.mp (List.mem_of_getElem? e)
    cases this.2
section
variable {P : Program} {w : World} {K : PySem.W.Frag} {mg : Str → Option Value} {base : Heap}
theorem fn_ok {x qual : Str} {st : Stmt} {f : Addr} {fd : FuncData} {N ps : List Str} {k : Nat} {body : CS} (F : Fun K x qual st f fd) (S : FnScope N ps (defScope st))
    (hb : ∀ (cdv : Value) (A : Around) (outer : List Env) (s : Shared) (H : Hp) (E : XK), Room k (A.deeper (envOfC qual (defScope st) s.heap.objs.size f cdv)) → SSs (dX P w K mg base N qual (defScope st) f cdv A outer s H E) (eW E) (defBody st) body) :
    FnOk P w K mg base (L2.CX P w) (k + 1) f fd ps (spOf ⟨K, mg⟩ ps.length (runD ps.length N.length body)) := by
  refine F.okX S (fun vs H Q E h => ?_) (fun cdv A outer s H vs Q E hr h => ?_)
  · obtain ⟨μ, h, ds, r, rd, hl, _⟩ := h
    rw [← rd.len, hl]
  · obtain ⟨μ, h, ds, r, rd, hl, k⟩ := h
    refine ⟨_, hb cdv A outer s H E hr, μ, _, h, r, start_RS rd, ?_⟩
    unfold runD at k
    rw [if_pos hl] at k
    rw [hl]
    cases e : body (ds.map some ++ List.replicate (N.length - ps.length) none) h with
    | stuck => rw [e] at k; exact k
    | ok fl ρ' h' =>
      rw [e] at k
      cases fl with
      | nx => exact fun μ' H' σ' y E rs => k μ' H' .non y E (by simp only [RD])
      | ret d => exact fun μ' H' σ' y E rs v rv => k μ' H' v y E rv
      | exn c x => exact fun μ' H' σ' y E rs C dd v a b c => k μ' H' C dd v a y E b c
      | bk => exact False.elim k
      | ct => exact False.elim k
end
def cCall (m : Fn) (a : CA) : CE := fun ρ h => (a ρ h).bind m
def pick (is : List Nat) (xs : List D) : List D := is.filterMap fun i => xs[i]?
def cCallK (m : Fn) (is : List Nat) (a : CA) : CE := fun ρ h => (a ρ h).bind fun xs h1 => m (pick is xs) h1
section
variable {X : Cx} {Wx : WX} {k n : Nat} {f : Addr} {fd : FuncData} {ps : List Str} {m : Fn} {x : Str} {p pos : Pos} {e : Expr} {es : List Expr} {cs : CA}
theorem RDs.pick {W : Wd} {μ : List Addr} {H : Hp} {ds : List D} {vs : List V} (r : RDs W μ H ds vs) : ∀ is : List Nat, RDs W μ H (is.filterMap fun i => ds[i]?) (is.filterMap fun i => vs[i]?)
  | [] => RDs.nil
  | i :: is => by
    rw [List.filterMap_cons, List.filterMap_cons]
    cases q : ds[i]? with
    | none =>
      have : vs[i]? = none := by
        rw [List.getElem?_eq_none_iff] at q ⊢
        rw [← r.len]; exact q
      rw [this]; exact r.pick is
    | some d =>
      obtain ⟨v, e1, e2⟩ := r.get q
      rw [e1]; exact RDs.cons e2 (r.pick is)
theorem s_call (F : FnOk X.prog X.w X.K X.mg X.base (L2.CX X.prog X.w) k f fd ps (spOf (wd X) n m)) (hr : Room k X.A) (hm : X.mg x = some (.ref f)) (hk : PySem.W.keepIn X.K (.ref f) = true) (hb : Binds X.K fd ps []) (tk : Takes X Wx) (ha : SA X Wx (e :: es) cs) (hn : ∀ ρ h xs h', cs ρ h = .ok xs h' → xs.length = n)
    (hg : Gl X x := by rfl) (hdb : (x == ("__debug__" : Str)) = false := by decide) (he : starEach (e :: es) X.env = (false, eval e X.env) :: starEach es X.env := by rfl) (hpl : (backTo pos (starEach es X.env)).any (·.1) = false := by rfl) :
    SE X Wx (.Call (.Name x p) (e :: es) [] pos) (cCall m cs) := by
  refine pe_mono (pe_callS (E := WE Wx) F hr hg hm hk hb (fun σ => passAt tk σ) ha hdb he hpl) fun σ H Q ⟨μ, ρ, h, r, rs, k⟩ => ?_
  refine ⟨μ, ρ, h, r, rs, (kR.bind r k).imp fun vs H1 ⟨xs, μ1, h1, q, r1, e1, d1, k1⟩ => ?_⟩
  refine ⟨μ1, h1, xs, r1, d1, hn ρ h xs h1 q, ?_⟩
  cases q2 : m xs h1 with
  | ok d h2 => rw [q2] at k1; exact k1
  | exn c y h2 => rw [q2] at k1; exact k1
  | stuck => rw [q2] at k1; exact k1
theorem nil_len {ρ : Rho} {h : Hc} {xs : List D} {h' : Hc} (e : cNil ρ h = .ok xs h') : xs.length = 0 := by
  unfold cNil at e; cases e; rfl
theorem cons_len {a : CE} {c : CA} {n : Nat} (hc : ∀ ρ h xs h', c ρ h = .ok xs h' → xs.length = n) : ∀ ρ h xs h', cCons a c ρ h = .ok xs h' → xs.length = n + 1 := fun ρ h xs h' e => by
  unfold cCons at e
  cases q : a ρ h with
  | stuck => rw [q] at e; cases e
  | exn c x h => rw [q] at e; cases e
  | ok d h1 =>
    rw [q] at e
    have e : ((c ρ h1).bind fun xs h2 => Res.ok (d :: xs) h2) = .ok xs h' := e
    cases q2 : c ρ h1 with
    | stuck => rw [q2] at e; cases e
    | exn c x h => rw [q2] at e; cases e
    | ok ys h2 =>
      rw [q2] at e
      have e : Res.ok (d :: ys) h2 = .ok xs h' := e
      injection e with e1 e2
      subst e1
      simp [hc ρ h1 ys h2 q2]
end
def KBd (fd : FuncData) (ps ks : List Str) (is : List Nat) : Prop := ∀ (s : Shared) (ws : List Value), ws.length = ks.length → BindsTo s fd ⟨[], ks.zip ws⟩ (ps.zip (is.filterMap fun i => ws[i]?))
theorem kbd_of {K : PySem.W.Frag} {x qual : Str} {st : Stmt} {f : Addr} {fd : FuncData} {ps ks : List Str} {is : List Nat} (F : Fun K x qual st f fd)
    (h : ∀ (kV doc pm : Value) (an : Option Addr) (cdv ct : Value) (ws : List Value), ws.length = ks.length → bindArgs (PySem.W.fnOf x qual (defArgs st) (defBody st) (defScope st) .none kV doc pm an cdv ct) ⟨[], ks.zip ws⟩ = pure (ps.zip (is.filterMap fun i => ws[i]?))) : KBd fd ps ks is := by
  obtain ⟨oc, od, kV, doc, pm, an, cdv, ct, osl, rfl, lk, hcd⟩ := F.ex
  exact fun s ws hl => .of_eq (h kV doc pm an cdv ct ws hl)
section
variable {X : Cx} {Wx : WX} {k n : Nat} {f : Addr} {fd : FuncData} {ps ks : List Str} {is : List Nat} {m : Fn} {x : Str} {p pos kp : Pos} {e : Expr} {kws : List Keyword} {ce : CE} {cs : CA} {nm : Option Str}
abbrev SK (X : Cx) (Wx : WX) (kws : List Keyword) (c : CA) : Prop := PK X kws (lA (wd X) Wx c)
theorem s_knil : SK X Wx [] cNil := ⟨fun pos pins s σ H Q I ⟨μ, ρ, h, r, rs, k⟩ => pk_nil.run pos pins s σ H Q I (k μ H [] r .refl RDs.nil)⟩
theorem s_kcons (ha : SE X Wx e ce) (hr : SK X Wx kws cs) : SK X Wx (⟨nm, e, kp⟩ :: kws) (cCons ce cs) := by
  refine ⟨fun pos pins s σ H Q I ⟨μ, ρ, h, r, rs, k⟩ => (pk_cons ha hr).run pos pins s σ H Q I ?_⟩
  refine ⟨μ, ρ, h, r, rs, (kR.bind r k).imp fun v H1 ⟨x, μ1, h1, _, r1, e1, d1, k1⟩ => ?_⟩
  refine ⟨μ1, ρ, h1, r1, rs.ext e1 r, (kR.bind (rel1 := RDs (wd X)) r1 k1).imp fun vs H2 ⟨xs, μ2, h2, _, r2, e2, d2, k2⟩ => ?_⟩
  exact k2 μ2 H2 (v :: vs) r2 .refl (RDs.cons (RD.ext e2 r1 x v d1) d2)
theorem Vals.pick {vs : List V} {us : List Value} (r : Vals vs us) : ∀ is : List Nat, Vals (is.filterMap fun i => vs[i]?) (is.filterMap fun i => us[i]?)
  | [] => .nil
  | i :: is => by
    rw [List.filterMap_cons, List.filterMap_cons]
    cases q : vs[i]? with
    | none => rw [L2.Vals.none_of r q]; exact Vals.pick r is
    | some v =>
      obtain ⟨u, e1, e2⟩ := L2.Vals.get r q
      rw [e1]; exact .cons e2 (Vals.pick r is)
theorem s_callK (F : FnOk X.prog X.w X.K X.mg X.base (L2.CX X.prog X.w) k f fd ps (spOf (wd X) n m)) (hr : Room k X.A) (hm : X.mg x = some (.ref f)) (hk : PySem.W.keepIn X.K (.ref f) = true) (hb : KBd fd ps ks is) (tk : Takes X Wx) (ha : SK X Wx kws cs)
    (hl : ∀ ρ h xs h', cs ρ h = .ok xs h' → xs.length = ks.length) (hn : ∀ xs : List D, xs.length = ks.length → (pick is xs).length = n)
    (hg : Gl X x := by rfl) (hdb : (x == ("__debug__" : Str)) = false := by decide) (hall : (backToKw pos (keywordEach kws X.env)).all (·.1.isSome) = true := by rfl) (hks : (backToKw pos (keywordEach kws X.env)).filterMap (·.1) = ks := by rfl)
    (hpl : ((backTo pos (starEach [] X.env)).any (·.1) || (backToKw pos (keywordEach kws X.env)).any (·.1.isNone)) = false := by rfl) :
    SE X Wx (.Call (.Name x p) [] kws pos) (cCallK m is cs) := by
  refine ⟨fun pins s σ H Q I ⟨μ, ρ, h, r, rs, k⟩ => ?_⟩
  refine wpAny_Call_Name_kw (ld_glob I hg hm ?_ hdb)
  have k' : lA (wd X) Wx cs σ H fun vs H1 => spOf (wd X) n m (is.filterMap fun i => vs[i]?) H1 Q (WE Wx σ) ∧ vs.length = ks.length := by
    refine ⟨μ, ρ, h, r, rs, (kR.bind r k).imp fun vs H1 ⟨xs, μ1, h1, q, r1, e1, d1, k1⟩ => ⟨⟨μ1, h1, pick is xs, r1, d1.pick is, hn xs (hl ρ h xs h1 q), ?_⟩, by rw [← d1.len]; exact hl ρ h xs h1 q⟩⟩
    cases q2 : m (pick is xs) h1 with
    | ok d h2 => rw [q2] at k1; exact k1
    | exn c y h2 => rw [q2] at k1; exact k1
    | stuck => rw [q2] at k1; exact k1
  refine PySem.W.callWith_KW0 (h₀ := X.base) I.ok.mod.kin hk hall (thn (ha.run pos pins s σ H _ I k') fun ws s2 ⟨zs, H2, I2, rz, q2, q3⟩ => ⟨I2.kIn, ?_⟩) hpl
  rw [hks]
  have hlen : ws.length = ks.length := by rw [← rz.length]; exact q3
  refine wpAny_call (codeAny_mono (F.run X.A X.stack s2 H2 ⟨[], ks.zip ws⟩ _ _ Q (WE Wx σ) hr I2.env0 (hb s2 ws hlen) (Vals.pick rz is) q2) fun r s' hq => ?_)
  cases r with
  | error e => exact passAt tk σ pins H2 s2 e s' I2 hq
  | ok fl =>
    cases fl with
    | ret u => exact I2.after hq
    | next => exact False.elim hq
    | brk => exact False.elim hq
    | cont => exact False.elim hq
end
end Sx

set_option Elab.async false
set_option linter.all false
set_option maxRecDepth 100000
namespace Sx
open PySem PySem.Spec PyProof.Rows L2
open PySem.W PySem.Calls PySem.HandSPX

structure IniPos where
  (a1 a2 s1 s2 s3 s4 s5 s6 q1 q2 q3 q4 : Pos) (k : Nat)
  hl : (s3.endLine == s5.line) = true
def iniA (p : IniPos) : Arguments := { posonlyargs := [], args := [{ arg := "self", annotation := none, pos := p.a1 }, { arg := "what", annotation := none, pos := p.a2 }], vararg := none, kwonlyargs := [], kw_defaults := [], kwarg := none, defaults := [] }
def iniB (p : IniPos) : List Stmt := [.Expr (.Call (.Attribute (.Call (.Name "super" p.s1) [] [] p.s2) "__init__" p.s3) [.Constant (.str "refused") p.k p.s4] [] p.s5) p.s6,
  .Assign [.Attribute (.Name "self" p.q1) "what" p.q2] (.Name "what" p.q3) p.q4]
def iniS : Scope := { kind := .function, names := [(PySem.Str.ofString "self", .local), (PySem.Str.ofString "what", .local), (PySem.Str.ofString "__class__", .free), (PySem.Str.ofString "super", .globalImplicit)], isGenerator := false, isCoroutine := false, more := [] }
structure BaseTxt (P : Program) (K : Frag) (mg : Str → Option Value) (D fI cc : Addr) : Prop where
  clsD : ∃ cd, clsIn K D = some cd
  fn : ∃ (oc : Value) (od : Option Addr) (doc pm : Value) (an : Option Addr) (cda : Addr) (ct : Value) (osl : Array (Option Value)) (p : IniPos),
    K.lookup fI = some ⟨oc, od, .func (ksFn "__init__" "Refused.__init__" (iniA p) (iniB p) iniS .none .none doc pm an (.ref cda) ct cc), osl⟩ ∧ codeIn K (.ref cda) "Refused.__init__" = true ∧
    ∃ (ccl : Value) (cdd : Option Addr) (vs : Array Value) (ccs : Array (Option Value)) (file : Str) (tf : Tok), K.lookup cda = some ⟨ccl, cdd, .fields vs, ccs⟩ ∧ vs[2]? = some (.str file tf) ∧ ((P.main.file : Str) == file) = true
  cell : ∃ (cl : Value) (cld : Option Addr) (csl : Array (Option Value)), K.lookup cc = some ⟨cl, cld, .cell (some (.ref D)), csl⟩
  sup : mg "super" = none
  top : (P.main.scope.names.lookup ("super" : Str)).isSome = false
  op : nsIn K cStatics "thirdparty.any" = some none
  tf : typeIn K (.ref fI) = some (.type "function")
structure ErrTxt (K : Frag) (mg : Str → Option Value) (c : Str) (C D fI : Addr) : Prop where
  gC : mg c = some (.ref C)
  cls : ∃ nm q N bs bm sn sub ab col dd k0 k1 k2 k3 k5, K.lookup C = some (excClassObj nm q C N bs bm true sn sub ab col dd k0 k1 k2 k3 k5 "ValueError.__new__") ∧ refsVE bm = true
  sa : findIn K (.ref C) "__setattr__" = some (some (.builtin "object.__setattr__"))
  ga : findIn K (.ref C) "__getattribute__" = some (some (.builtin "BaseException.__getattribute__"))
  gg : findIn K (.ref C) "__getattr__" = some none
  noN : findIn K (.ref C) "what" = some none
  iC : findIn K (.ref C) "__init__" = some (some (.ref fI))
  kC : keepIn K (.ref C) = true
  exC : subIn K (.ref C) (.type "BaseException") = some true
  veC : subIn K (.ref C) (.type "ValueError") = some true
  tyC : typeIn K (.ref C) = some (.type "type")
  hdC : hasDictIn K C = true
  sup : ks_superIn K C D "__init__" = some (some (.builtin "ValueError.__init__"))
  subD : subIn K (.ref C) (.ref D) = some true
structure IniEnd (h h' : Heap) (x C dx t1 : Addr) (v : Value) : Prop where
  keep : ∀ b o, b ≠ x → h.get? b = some o → h'.get? b = some o
  obj : h'.get? x = some { cls := .ref C, dict := some dx, data := .fields #[.ref t1, .none, .none, .none, .bool false, .none] }
  dbig : x < dx
  dne : dx ≠ x
  ns : h'.Ns1 dx (fun y => if y = "what" then some v else none)
theorem kept1 {K : Frag} {h h' : Heap} {x : Addr} (X : K.In h) (hx : K.lookup x = none) (k : ∀ b o, b ≠ x → h.get? b = some o → h'.get? b = some o) : K.In h' := fun a o e =>
  k a o (fun z => by rw [z, hx] at e; cases e) (X a o e)
theorem methEval {o : Expr} {name : Str} {apos pos : Pos} {args : List Expr} {env : Env} (hf : methodCallForm (args.length + ([] : List Keyword).length) (backTo pos (starEach args env)) (backToKw pos (keywordEach [] env)) = true) (hl : (apos.endLine == pos.line) = true) :
    eval (.Call (.Attribute o name apos) args [] pos) env = (do
      let ov ← attributeBase o name env (eval o env)
      standAt apos.atName
      let (f, first) ← holding [ov] (getMethod ov name (do return (← importBound o env).getD true))
      callWith pos f first (backTo pos (starEach args env)) []) := by
  rw [arm_eval_Call]
  have hp : methodCallPos true o env apos pos = pure pos := by unfold methodCallPos; simp [hl]
  unfold methodCall
  rw [hf, hp]
  simp only [pure_bind]
  rfl
theorem callMw {prog : Program} {w : World} {A : Around} {E : Value → Shared → Prop} {s : Shared} {C u x t0 : Addr} {rest : List Value} {nm q : Str} {N : Addr} {bs bm : List Value} {hdct : Bool} {sn : List Str} {sub : List Value} {ab : Bool} {col : Option Bool} {dd : Option Addr} {k0 k1 k2 k3 k5 : Option Value} {Q : Value → Shared → Prop}
    (hC : s.heap.get? C = some (excClassObj nm q C N bs bm hdct sn sub ab col dd k0 k1 k2 k3 k5 "ValueError.__new__")) (hx : s.heap.get? x = some (excO C t0)) (hu : s.heap.get? u = some (kxs_mw "ValueError.__init__" x)) (hz : rest.length ≤ sizeLine)
    (h : ∀ h' t1, (∀ b o, b ≠ x → s.heap.get? b = some o → h'.get? b = some o) → h'.get? x = some (excO C t1) → Q .none { s with heap := h' }) :
    wpAny (model prog w) A (call (.ref u) rest) Q E s := by
  obtain ⟨hh, g, d, tk, os⟩ := s
  refine wpAny_call (codeAny_of_tree ?_)
  show wpAny _ A.in1 (callAny (.ref u) ⟨rest, []⟩) _ _ _
  simp only [callAny]
  refine wpAny_bind (wpAny_load hu ?_)
  simp only [kxs_mw, show (Value.type "method-wrapper" == Value.type "method" || Value.type "method-wrapper" == Value.type "builtin_function_or_method" || Value.type "method-wrapper" == Value.type "method-wrapper") = true by decide, if_true]
  refine KFB.if_so (by decide) ?_
  refine wpAny_bind (check_bound_init F.excBase_ValueError.toExcCallFacts hC hx rfl ?_)
  refine wpAny_bind (wpAny_pure (wpAny_pure ?_))
  refine ⟨plainId_quiet F.excBase_ValueError.init.plain _, codeAny_builtin F.excBase_ValueError.initEntry ?_⟩
  exact exc_init_tree (cls := .ref C) (t0 := t0) (dv := none) (c2 := .none) (c3 := .none) (b4 := .bool false) hx hz fun h' k e' t' => h h' hh.objs.size k e'
section
variable {prog : Program} {w : World} {A : Around} {E : Value → Shared → Prop} {R : Result → Shared → Prop} {s : Shared} {K : Frag} {mg mb : Str → Option Value} {c : Str} {C D fI cc : Addr}
theorem ini_run (B : BaseTxt prog K mg D fI cc) (T : ErrTxt K mg c C D fI) {x t0 : Addr} {v : Value} (X : K.In s.heap) (hG : s.heap.Ns mainGlobals mg) (hB : s.heap.Ns builtinsNs mb) (hmb : mb "super" = some (.type "super")) (hlim : s.heap.NoLimit) (hx : s.heap.get? x = some (excO C t0)) (hnx : K.lookup x = none)
    (hroom : A.depth < recursionLimit) (hq : ∀ h' tk dx t1, IniEnd s.heap h' x C dx t1 v → R (.ok (.ret .none)) { s with heap := h', toks := tk }) :
    codeAny (model prog w) A (.call (.ref fI) ⟨[.ref x, v], []⟩) R s := by
  obtain ⟨oc, od, doc, pm, an, cda, ct, osl, p, ho, hcd, ccl, cdd, vs, ccs, file, tf, hcode, hvs, hfile⟩ := B.fn
  obtain ⟨cl, cld, csl, hcell⟩ := B.cell
  obtain ⟨cdD, hD⟩ := B.clsD
  obtain ⟨nm, q, N, bs, bm, sn, sub, ab, col, dd, k0, k1, k2, k3, k5, hC, hbm⟩ := T.cls
  have hcl : clsIn K C = some { name := nm, bases := bs, mro := .ref C :: bm, ns := N, qualname := q, hasDict := true, slotNames := sn, subclasses := sub, abstract := ab, collection := col, hasDel := false } := by unfold clsIn; rw [hC] <;> rfl
  refine ks_codeAny_call_defAt (fd := ksFn "__init__" "Refused.__init__" (iniA p) (iniB p) iniS .none .none doc pm an (.ref cda) ct cc) (body := iniB p) (binds := [("self", .ref x), ("what", v)]) hroom (X _ _ ho) rfl hlim (codeRec_of X hcd) rfl (.of_eq rfl) (show ∀ y ∈ iniS.names, y.2 ≠ .cell by decide) (locs rfl) (fun h₁ hns hk₁ => ?_)
  have X₁ : K.In h₁ := X.keeps hk₁
  have hx₁ := hk₁ _ _ hx
  have hC₁ := X₁ _ _ hC
  obtain ⟨oD, hD1, hD2⟩ : ∃ oD, K.lookup D = some oD ∧ oD.data = .cls cdD := by
    unfold clsIn at hD
    split at hD
    · rename_i c d cd' sl ho
      injection hD with hD; subst hD
      exact ⟨_, ho, rfl⟩
    · cases hD
  have hxC : x ≠ C := fun z => by rw [z, hC] at hnx; cases hnx
  have I₁ : InstAt h₁ x (excO C t0) C none := ⟨hx₁, rfl, rfl, trivial⟩
  have hoff : ∀ m : Str → Option Value, s.heap.Ns mainGlobals m → h₁.Ns mainGlobals m := fun m q => q.keeps hk₁
  refine ks_wpAt_execs_cons (ks_wpAt_Expr_any (ks_wpAt_MethodCall (ks_wpAt_super_base (f := fI) (fd := ksFn "__init__" "Refused.__init__" (iniA p) (iniB p) iniS .none .none doc pm an (.ref cda) ct cc) (by first | rfl | kernel_rfl) (by first | rfl | kernel_rfl) (by decide) rfl (X₁ _ _ ho) rfl rfl rfl (X₁ _ _ hcode) rfl hvs hfile B.top ?_) (methEval (by rfl) p.hl)))
  refine ks_loadName_global (by rfl) (by first | rfl | kernel_rfl) (Calls.loadGlobal_builtin (mb := mb) (show h₁.Ns mainGlobals mg from hG.keeps hk₁) B.sup (show h₁.Ns builtinsNs mb from hB.keeps hk₁) hmb ⟨rfl, ?_⟩)
  refine wpAny_loadName_free (c := cc) (by rfl) (by first | rfl | kernel_rfl) (by first | rfl | kernel_rfl) ⟨_, X₁ _ _ hcell, rfl⟩ ?_ (by decide)
  refine wpAny_loadName_local (by rfl) (by first | rfl | kernel_rfl) hns (by first | rfl | kernel_rfl) ?_
  refine ks_wpAny_isType_cls (X₁ _ _ hD1) hD2 ⟨rfl, ?_⟩
  refine ks_wpAny_call_super (X₁ _ _ hD1) hD2 hx₁ rfl (fun c => by intro z; cases z) (looks_subIn X₁ T.subD) (fun h₂ hso k₂ => ?_)
  have X₂ : K.In h₂ := X₁.keeps k₂
  have hx₂ := k₂ _ _ hx₁
  have I₂ : InstAt h₂ x (excO C t0) C none := ⟨hx₂, rfl, rfl, trivial⟩
  refine kxs_getMethod kxs_ValueError hso (looks_opaque X₂ B.op) (l₀ := .ref C :: bm) (fun A Q E s k q => wpAny_bind ((looks_clsIn X₂ hcl) A _ E s k (wpAny_pure q))) rfl X₂ (by have := T.sup; unfold ks_superIn at this; rw [hcl] at this; exact this) (I₂.type.andThen (looks_subIn X₂ T.veC)) hxC (by decide) ?_
  have hu : (h₂.push (kxs_mw "ValueError.__init__" x)).get? h₂.objs.size = some (kxs_mw "ValueError.__init__" x) := Heap.get?_push_at rfl rfl
  have k₃ : ∀ b o, h₂.get? b = some o → (h₂.push (kxs_mw "ValueError.__init__" x)).get? b = some o := fun b o e => Heap.get?_push_of_some _ e
  refine kxs_callWith (i := "ValueError.__init__") (x := x) (by rfl) ?_
  refine evalArgs_plain (spliced_cons (wpAny_Constant_str (k := p.k) (pos := p.s4) (spliced_nil ⟨hu, ?_⟩)))
  refine callMw (rest := [_]) (X₂.keeps k₃ _ _ hC) (k₃ _ _ hx₂) hu (by rw [sizeLine_eq]; exact (by decide : 1 ≤ 16777216)) (fun h₄ t1 k₄ hx₄ => ?_)
  have up : ∀ b o, b ≠ x → s.heap.get? b = some o → h₄.get? b = some o := fun b o hb e => k₄ b o hb (k₃ _ _ (k₂ _ _ (hk₁ _ _ e)))
  have X₄ : K.In h₄ := kept1 X hnx up
  show PySem.wpAt _ _ _ (execs _ _) _ _ _
  have hns₄ : h₄.Ns s.heap.objs.size _ := hns.at (fun o e => k₄ _ o (Nat.ne_of_gt (Heap.lt_size hx)) (k₃ _ _ (k₂ _ _ e)))
  refine ks_wpAt_execs_cons (PySem.wpAt_of_wpAny (plainObj_wpAny_Assign_Attribute ?_))
  refine wpAny_Name (wpAny_loadName_local (by rfl) (by first | rfl | kernel_rfl) hns₄ (by first | rfl | kernel_rfl) ?_)
  refine wpAny_Name (wpAny_loadName_local (by rfl) (by first | rfl | kernel_rfl) hns₄ (by first | rfl | kernel_rfl) ?_)
  refine set_plain X₄ (ox := excO C t1) (od := none) ⟨hx₄, rfl, rfl, trivial⟩ T.sa ?_
  refine HandSPX.exc_osa X₄ hx₄ hcl (show refsVE (.ref C :: bm) = true from hbm) rfl T.noN (fun h₅ tk₅ dx k₅ dn dne hx₅ hn₅ => ?_)
  show PySem.wpAt _ _ _ (execs _ _) _ _ _
  refine PySem.wpAt_of_wpAny (wpAny_execs_nil (hq h₅ tk₅ dx t1 ⟨fun b o hb e => k₅ b o hb (up b o hb e), hx₅, Nat.lt_of_lt_of_le (Heap.lt_size hx₄) dn, dne, hn₅⟩))
structure ErrMade (h h' : Heap) (e C d : Addr) (v : Value) : Prop where
  keep : ∀ b o, h.get? b = some o → h'.get? b = some o
  new : h.objs.size ≤ e
  obj : ∃ oe vs, h'.get? e = some oe ∧ oe.cls = .ref C ∧ oe.dict = some d ∧ oe.data = .fields vs ∧ vs[1]? = some .none
  dbig : h.objs.size ≤ d
  dne : d ≠ e
  ns : h'.Ns1 d (fun y => if y = "what" then some v else none)
theorem err_made (B : BaseTxt prog K mg D fI cc) (T : ErrTxt K mg c C D fI) {v : Value} (X : K.In s.heap) (hG : s.heap.Ns mainGlobals mg) (hB : s.heap.Ns builtinsNs mb) (hmb : mb "super" = some (.type "super")) (hlim : s.heap.NoLimit) (hroom : A.depth + 1 < recursionLimit)
    (hq : ∀ h' tk e d, ErrMade s.heap h' e C d v → R (.ok (.ret (.ref e))) { s with heap := h', toks := tk }) :
    codeAny (model prog w) A (.call (.ref C) ⟨[v], []⟩) R s := by
  obtain ⟨nm, q, N, bs, bm, sn, sub, ab, col, dd, k0, k1, k2, k3, k5, hC, hbm⟩ := T.cls
  obtain ⟨hp, g, dr, tk, os⟩ := s
  have k : ∀ b o, hp.get? b = some o → ((hp.push (kdv_tup [v])).push (excO C hp.objs.size)).get? b = some o := fun b o e => Heap.get?_push_of_some _ (Heap.get?_push_of_some _ e)
  have hget : ((hp.push (kdv_tup [v])).push (excO C hp.objs.size)).get? (hp.objs.size + 1) = some (excO C hp.objs.size) := by heap_get
  have hnx : K.lookup (hp.objs.size + 1) = none := by
    cases e : K.lookup (hp.objs.size + 1) with
    | none => rfl
    | some o =>
      have z : hp.get? (hp.objs.size + 1) = some o := X _ _ e
      exact absurd (Nat.lt_of_succ_lt (Heap.lt_size z)) (Nat.lt_irrefl _)
  refine call_own F.excBase_ValueError (fun X => refsVE_contains X bm hbm) (X _ _ hC) (looks_findIn X T.iC) (fun self => bind_fn X self B.tf) (by rw [sizeLine_eq]; exact (by decide : 1 ≤ 16777216)) ?_
  refine ini_run (s := ⟨(hp.push (kdv_tup [v])).push (excO C hp.objs.size), g, dr, tk, os⟩) B T (X.keeps k) (hG.keeps k) (hB.keeps k) hmb (hlim.keeps k) hget hnx ?_ fun h' tk' dx t1 ⟨k', hx, dn, dne, hns⟩ => ?_
  · show A.depth + 1 < recursionLimit
    exact hroom
  · have old : ∀ b o, hp.get? b = some o → h'.get? b = some o := fun b o e => k' b o (Nat.ne_of_lt (Nat.lt_succ_of_lt (Heap.lt_size e))) (k b o e)
    exact ⟨rfl, hq h' tk' (hp.objs.size + 1) dx ⟨old, Nat.le_succ _, ⟨_, _, hx, rfl, rfl, rfl, rfl⟩, Nat.le_trans (Nat.le_succ _) (Nat.le_of_lt dn), dne, hns⟩⟩
end
end Sx

set_option Elab.async false
set_option linter.all false
set_option maxRecDepth 100000
namespace Sx
open PySem PySem.Spec PyProof.Rows L2
open PySem.W PySem.Calls PySem.HandSPX

theorem relO_what {v : V} {v' : Value} (r : RelV v v') (f : Str) : RelO (List.lookup f [(wWhat, v)]) (if f = "what" then some v' else none) := by
  by_cases hw : f = "what"
  · subst hw
    rw [if_pos rfl]
    have q : List.lookup ("what" : Str) [(wWhat, v)] = some v := by simp [List.lookup]
    rw [q]
    exact r
  · rw [if_neg hw]
    have qw : (f == ("what" : Str)) = false := by simpa using hw
    have q2 : List.lookup f [(wWhat, v)] = none := by simp [List.lookup, qw]
    rw [q2]
    trivial
section
variable {X : Cx} {C D fI cc : Addr} {c : Str}
def tMkE (C : Addr) (ta : TA) : L2.St → Hp → XK → Prop := fun σ H Q => ta σ H fun vs H1 => ∃ v, vs = [v] ∧ ∀ d, H1 d = none → Q (.ref C) (some d) (upd H1 d (.xd [(wWhat, v)]))
theorem pmk_err {a : Expr} {ta : TA} {p pos : Pos} {k : Nat} (B : BaseTxt X.prog X.K X.mg D fI cc) (T : ErrTxt X.K X.mg c C D fI) (hr : Room k X.A) (ha : PA X [a] ta) (hg : Gl X c := by rfl) (hdb : (c == ("__debug__" : Str)) = false := by decide)
    (he : starEach (a :: []) X.env = (false, eval a X.env) :: starEach [] X.env := by rfl) (hpl : (backTo pos (starEach [] X.env)).any (·.1) = false := by rfl) :
    PMk X (.Call (.Name c p) [a] [] pos) (tMkE C ta) := by
  intro pins s σ H Q I h
  refine wpAny_Call_Name_kw (ld_glob I hg T.gC ?_ hdb)
  refine PySem.W.callWith_K (h₀ := X.base) I.ok.mod.kin T.kC (thn (ha.run pos pins s σ H _ I h) fun us s1 hh => ?_) he hpl
  obtain ⟨vs, H1, I1, r1, v, ev, q1⟩ := hh
  subst ev
  refine ⟨I1.kIn, ?_⟩
  cases r1 with
  | cons rv rn =>
    rename_i v' us'
    cases rn
    show wpAny _ _ (call (.ref C) [v']) _ _ _
    have hlim := I1.nolimit
    have hG : s1.heap.Ns mainGlobals X.mg := I1.mod.glob.keeps I1.bk
    obtain ⟨mb, hB0, hmb⟩ := I1.mod.blt
    have hB : s1.heap.Ns builtinsNs mb := hB0.keeps I1.bk
    have hmb' : mb "super" = some (.type "super") := (hmb _ (by decide)).trans (by decide +kernel)
    obtain ⟨hp, g, dr, tk, os⟩ := s1
    refine wpAny_call (err_made B T I1.kIn hG hB hmb' hlim (by have := hr.dp; omega) fun h' tk' e d M => ?_)
    show MkP X pins σ Q (.ref e) ⟨h', g, dr, tk', os⟩
    obtain ⟨oe, fv, hoe, hc, hd, hdat, h1⟩ := M.obj
    have hns := M.ns
    obtain ⟨G', g1, g2⟩ := restrict h' fun b => decide (b ≠ e)
    have gk : ∀ b, b ≠ e → G'.get? b = h'.get? b := fun b hb => g1 b (decide_eq_true hb)
    have ge : G'.get? e = none := g2 e (by simp)
    have old : ∀ b o, hp.get? b = some o → G'.get? b = some o := fun b o q => (gk b (Nat.ne_of_lt (Nat.lt_of_lt_of_le (Heap.lt_size q) M.new))).trans (M.keep b o q)
    have ob : ObjOk X.prog X.w (upd H1 d (.xd [(wWhat, v)])) G' d (.xd [(wWhat, v)]) :=
      ⟨_, hns.at (fun o q => (gk d M.dne).trans q), fun f => relO_what rv f⟩
    have J : Inv X pins σ (upd H1 d (.xd [(wWhat, v)])) ⟨G', g, dr, tk', os⟩ := I1.laid (t' := tk') old M.dbig ob
    refine ⟨e, oe, fv, ⟨G', g, dr, tk', os⟩, _, .ref C, some d, rfl, J, fun b o q => ?_, ge, hoe, ⟨hc, hd⟩, hdat, h1, ?_, rfl, I1.bare, raises_own T.exC T.tyC, q1 d (I1.hok.fresh M.dbig)⟩
    · by_cases hb : b = e
      · have q' : G'.get? b = some o := q
        rw [hb, ge] at q'; cases q'
      · exact (gk b hb).symm.trans q
    · rw [upd_ne (Ne.symm M.dne)]
      exact I1.hok.fresh M.new
def cRaise (c : Str) (e : CE) : CS := fun ρ h => ofR (e ρ h) ρ fun x h1 => .ok (.exn c x) ρ h1
theorem s_raise {Wx : WX} {a : Expr} {ca : CE} {p pos pos2 : Pos} {k : Nat} (hc : X.calm = true) (B : BaseTxt X.prog X.K X.mg D fI cc) (T : ErrTxt X.K X.mg c C D fI) (hr : Room k X.A) (tk : Takes X Wx) (ha : SE X Wx a ca) (hg : Gl X c := by rfl) (hdb : (c == ("__debug__" : Str)) = false := by decide)
    (hs : starEach (a :: []) X.env = (false, eval a X.env) :: starEach [] X.env := by rfl) (hpl : (backTo pos (starEach [] X.env)).any (·.1) = false := by rfl) :
    SS X Wx (.Raise (some (.Call (.Name c p) [a] [] pos)) none pos2) (cRaise c ca) := by
  refine ps_mono (ps_raise hc tk (pmk_err B T hr (s_cons (Wx := Wx) ha s_nil hs) hg hdb hs hpl)) fun D σ H ⟨μ, ρ, h, r, rs, k⟩ => ?_
  refine ⟨μ, ρ, h, r, rs, ?_⟩
  have k2 := kS.bind (rel := RD (wd X)) r rs k
  cases q : ca ρ h with
  | ok d h1 =>
    rw [q] at k2
    show kR (RDs (wd X)) (wd X) Wx μ h H σ _ ((cCons ca cNil) ρ h)
    unfold cCons cNil
    rw [q]
    intro μ1 H1 vs r1 e1 rd
    have rd' : RDs (wd X) μ1 H1 [d] vs := rd
    simp only [RDs] at rd'
    obtain ⟨v, r', rfl, rd1, rfl⟩ := rd'
    refine ⟨v, rfl, fun dd hd => ?_⟩
    obtain ⟨a1, μ2, h2, ea, r2, e2, rd2, k3⟩ := k2 μ1 H1 v r1 e1 rd1
    cases ea
    obtain ⟨r3, e3⟩ := r2.tup (o := .xd [(wWhat, v)]) hd rfl
    exact k3 μ2 _ σ r3 e3 ((rs.ext e2 r).ext e3 r2) C dd v T.gC upd_same (RD.ext e3 r2 d v rd2)
  | exn c2 x h1 =>
    rw [q] at k2
    show kR (RDs (wd X)) (wd X) Wx μ h H σ _ ((cCons ca cNil) ρ h)
    unfold cCons cNil
    rw [q]
    exact k2
  | stuck =>
    rw [q] at k2
    exact k2.elim
end
end Sx

set_option Elab.async false
set_option linter.all false
set_option maxRecDepth 100000
namespace Sx
open PySem PySem.Spec PyProof.Rows L2
open PySem.W PySem.Calls PySem.HandSPX

abbrev Cl := Value × Option Nat × (Addr → Value → Option Addr → TS)
structure EF (K : Frag) (mg : Str → Option Value) (es : List Str) : Prop where
  xf : ∀ c ∈ es, ∀ C, mg c = some (.ref C) → XfC K C ∧ findIn K (.ref C) wWhat = some none
  ex : ∀ c ∈ es, ∀ c' ∈ ("Refused" : Str) :: es, ∀ C C', mg c = some (.ref C) → mg c' = some (.ref C') → exmOne K (.ref C) (.ref C') = some (decide (c' = c) || decide (c' = ("Refused" : Str)))
def wAt (X : Cx) (a : Addr) (cls : Value) (d : Option Addr) : Wd := ⟨wb X, match cls, d with | .ref C, some dd => some (a, C, dd) | _, _ => none⟩
inductive SCl (X : Cx) (es : List Str) : List ExceptHandler → List Cl → List (Str × Option Nat × CS) → Prop
  | nil : SCl X es [] [] []
  | one {x : Str} {C : Addr} {b₀ : Stmt} {suite : List Stmt} {np pos' : Pos} {hds : List ExceptHandler} {l : List Cl} {cs : List (Str × Option Nat × CS)} {cb : CS}
      (hg : Gl X x) (hdb : (x == ("__debug__" : Str)) = false) (hm : X.mg x = some (.ref C)) (he : x ∈ ("Refused" : Str) :: es) (hsu : ∀ a pn, SSs (X.suite a pn) wx0 (b₀ :: suite) cb) (r : SCl X es hds l cs) :
      SCl X es (.ExceptHandler (some (.Name x np)) none (b₀ :: suite) pos' :: hds) ((.ref C, none, fun a cls d => lS (wAt X a cls d) wx0 cb) :: l) ((x, none, cb) :: cs)
  | as {i : Nat} {n : Str} {x : Str} {C : Addr} {b₀ : Stmt} {suite : List Stmt} {np pos' : Pos} {hds : List ExceptHandler} {l : List Cl} {cs : List (Str × Option Nat × CS)} {cb : CS}
      (hN : X.N.Nodup) (hi : X.N[i]? = some n) (hln : X.env.kindOf n = some .local)
      (hg : Gl X x) (hdb : (x == ("__debug__" : Str)) = false) (hm : X.mg x = some (.ref C)) (he : x ∈ ("Refused" : Str) :: es) (hsu : ∀ a pn, SSs (X.suite a pn) wx0 (b₀ :: suite) cb) (r : SCl X es hds l cs) :
      SCl X es (.ExceptHandler (some (.Name x np)) (some n) (b₀ :: suite) pos' :: hds) ((.ref C, some i, fun a cls d => lS (wAt X a cls d) wx0 cb) :: l) ((x, some i, cb) :: cs)
section
variable {X : Cx} {es : List Str} {body : List Stmt} {h₀ : ExceptHandler} {hds : List ExceptHandler} {l : List Cl} {cs : List (Str × Option Nat × CS)} {pos : Pos} {tb : WX → TS} {Wout : WX}
end
end Sx

set_option Elab.async false
set_option linter.all false
set_option maxRecDepth 100000
namespace Sx
open PySem PySem.Spec PyProof.Rows L2
open PySem.W PySem.Calls PySem.HandSPX

def unN : Option Nat → Rho → Rho
  | none, ρ => ρ
  | some i, ρ => ρ.set i none
theorem RS.unN {W : Wd} {μ : List Addr} {H : Hp} {ρ : Rho} {σ : L2.St} (rs : RS W μ H ρ σ) (i : Nat) : RS W μ H (ρ.set i none) (σ.set i none) := by
  refine ⟨by simp [rs.1], fun j d z => ?_⟩
  by_cases hj : i = j
  · subst hj
    by_cases hi : i < ρ.length
    · rw [List.getElem?_set_self hi] at z; cases z
    · rw [List.getElem?_eq_none (by simp; omega)] at z; cases z
  · rw [List.getElem?_set_ne hj] at z
    obtain ⟨v, e1, e2⟩ := rs.2 j d z
    exact ⟨v, by rw [List.getElem?_set_ne hj]; exact e1, e2⟩
section
variable {X : Cx} {Wx : WX} {es : List Str}
end
end Sx

set_option Elab.async false
set_option linter.all false
set_option maxRecDepth 100000
namespace Sx
open PySem PySem.Spec PyProof.Rows L2
open PySem.Calls

set_option maxHeartbeats 1000000 in
section
variable {prog : Program} {w : World} {A : Around} {E : Value → Shared → Prop} {s : Shared}
end
section
variable {W : Wd} {μ : List Addr} {h : Hc} {H : Hp}
end
section
variable {X : Cx} {Wx : WX} {a b : Expr} {ca cb : CE} {p pos tpos : Pos} {elts : List Expr} {kk : Nat}
end
end Sx

set_option Elab.async false
set_option linter.all false
set_option maxRecDepth 100000
namespace Sx
open PySem PySem.Spec PyProof.Rows L2
open PySem.W PySem.Calls

abbrev cal : Str := "Calendar"
structure CalTxt (K : Frag) (mg : Str → Option Value) (C fI : Addr) : Prop where
  gC : mg cal = some (.ref C)
  mks : Mk K C fI
  cls : Cls K C
  noB : NoAttr K C "born"
  noD : NoAttr K C "days"
section
variable {X : Cx} {Wx : WX}
end
section
variable {P : Program} {w : World} {K : PySem.W.Frag} {mg : Str → Option Value} {base : Heap}
end
section
variable {X : Cx} {Wx : WX} {k : Nat} {fI C : Addr} {fd : FuncData} {p pos : Pos} {e : Expr} {es : List Expr} {cs : CA}
end
end Sx

set_option Elab.async false
set_option linter.all false
set_option maxRecDepth 100000
namespace Sx
open PySem PySem.Spec PyProof.Rows L2
open PySem.Calls

section
variable {X : Cx} {o e : Expr} {es : List Expr} {to : TE} {t : TA} {name : Str} {apos cpos : Pos} {idL idT : String} {rL rT : V → List V → Hp → VK → Prop}
end

structure RdsP (K : PySem.W.Frag) (T : String) (x y : V) (H : Hp) (ps : List PyData) (q : PyData) : Prop where
  a : Dp K H x (if T = "list" then .list ps else .tuple ps)
  b : Dp K H y q
  sa : SeqAt.shaped (if T = "list" then .list ps else .tuple ps) = true
  sb : SeqAt.shaped q = true
section
variable {X : Cx}
end

abbrev GM := D → List D → Hc → VO
def lVm (W : Wb) (g : GM) : V → List V → Hp → VK → Prop := fun x xs H Q => ∃ μ h dx ds, R W μ h H ∧ RD W μ H dx x ∧ RDs W μ H ds xs ∧ kO W μ h H Q (g dx ds h)
def isLst : D → Hc → Bool
  | .flst _, _ => true
  | .ref n, h => match h[n]? with | some (_, .lst _) => true | _ => false
  | _, _ => false
def isSeq : D → Hc → Bool
  | .tup _, _ => true
  | d, h => isLst d h
def cMt (ok : D → Hc → Bool) (g : GM) (o : CE) (a : CA) : CE := fun ρ h => (o ρ h).bind fun x h1 => if ok x h1 then (a ρ h1).bind fun ys h2 => (g x ys h2).res else .stuck
def cMt0 (ok : D → Hc → Bool) (g : G1) (o : CE) : CE := fun ρ h => (o ρ h).bind fun x h1 => if ok x h1 then (g x h1).res else .stuck
section
variable {W : Wb} {μ : List Addr} {h : Hc} {H : Hp} {d : D} {v : V}
theorem lst_ty (x : R W μ h H) (r : RD W μ H d v) (e : isLst d h = true) : tyV W.K "list" v H := by
  cases d with
  | flst ds =>
    simp only [RD] at r
    obtain ⟨a, vs, rfl, t, _⟩ := r
    exact .inl ⟨rfl, vs, t.seq⟩
  | ref n =>
    simp only [RD] at r
    obtain ⟨a, e1, rfl⟩ := r
    obtain ⟨⟨l, o⟩, e2, ro⟩ := x.at e1
    cases o with
    | lst ds =>
      obtain ⟨vs, q1, _⟩ := ro
      exact .inl ⟨rfl, vs, SqL.of q1⟩
    | _ => (first | (simp only [isSeq, e2] at e; cases e) | (simp only [isLst, e2] at e; cases e))
  | _ => cases e
end
section
variable {X : Cx} {Wx : WX} {o e : Expr} {es : List Expr} {name : Str} {apos cpos : Pos} {id idL idT : String} {g : GM} {g0 : G1} {co : CE} {cs : CA}
theorem MtR.imp {r r' : V → List V → Hp → VK → Prop} (hm : MtR X id r) (i : ∀ x xs H Q, r' x xs H Q → r x xs H Q) : MtR X id r' := fun pins s σ H x xs v us Q I rx rxs q => hm pins s σ H x xs v us Q I rx rxs (i x xs H Q q)
theorem lA_imp {W : Wd} {σ : L2.St} {H : Hp} {Q Q' : List V → Hp → Prop} (k : lA W Wx cs σ H Q) (i : ∀ b H', Q b H' → Q' b H') : lA W Wx cs σ H Q' := by
  obtain ⟨μ, ρ, h, r, rs, k⟩ := k
  exact ⟨μ, ρ, h, r, rs, k.imp i⟩
theorem useM {ok : D → Hc → Bool} {σ : L2.St} {H : Hp} {Q : VK} (k : lE (wd X) Wx (cMt ok g co cs) σ H Q) :
    lE (wd X) Wx co σ H fun v H1 => ∃ μ1 h1 dx, R (wd X) μ1 h1 H1 ∧ RD (wd X) μ1 H1 dx v ∧ ok dx h1 = true ∧ lA (wd X) Wx cs σ H1 fun us H2 => ∃ μ h ds, R (wd X) μ h H2 ∧ RD (wd X) μ H2 dx v ∧ RDs (wd X) μ H2 ds us ∧ kO (wd X) μ h H2 Q (g dx ds h) := by
  obtain ⟨μ, ρ, h, r, rs, k⟩ := k
  refine ⟨μ, ρ, h, r, rs, (kR.bind r k).imp fun v H1 ⟨x, μ1, h1, _, r1, e1, d1, k1⟩ => ?_⟩
  by_cases hk : ok x h1 = true
  · rw [if_pos hk] at k1
    exact ⟨μ1, h1, x, r1, d1, hk, μ1, ρ, h1, r1, rs.ext e1 r, (kR.bind r1 k1).imp fun us H2 ⟨ys, μ2, h2, _, r2, e2, d2, k2⟩ => ⟨μ2, h2, ys, r2, RD.ext e2 r1 x v d1, d2, kO.of k2⟩⟩
  · rw [if_neg hk] at k1; exact k1.elim
theorem s_mtL (slot : Slot "list" name id) (hty : typeOf (.builtin id) = pure (.type "method_descriptor")) (hm : MtR X id (lVm (wd X) g)) (ho : SE X Wx o co) (ha : SA X Wx (e :: es) cs)
    (hbase : attributeBase o name X.env (eval o X.env) = eval o X.env := by rfl)
    (hfew : ((backTo cpos (starEach (e :: es) X.env)).all (fun x => !x.1) && (backToKw cpos (keywordEach [] X.env)).all (fun x => x.1.isSome)
      && decide ((e :: es).length + ([] : List Keyword).length + (if ([] : List Keyword).isEmpty then 0 else 1) < 30)) = true := by rfl)
    (hline : (apos.endLine == cpos.line) = true := by rfl) (hs : starEach (e :: es) X.env = (false, eval e X.env) :: starEach es X.env := by rfl) (hplain : (backTo cpos (starEach es X.env)).any (·.1) = false := by rfl) :
    SE X Wx (.Call (.Attribute o name apos) (e :: es) [] cpos) (cMt isLst g co cs) := by
  refine pe_mono (pe_bm F.plainAttrs_list slot hty hm ho ha hbase hfew hline hs hplain) fun σ H Q k => ?_
  obtain ⟨μ, ρ, h, r, rs, k⟩ := useM k
  exact ⟨μ, ρ, h, r, rs, k.imp fun v H1 ⟨μ1, h1, dx, r1, d1, hk, q⟩ => ⟨lst_ty r1 d1 hk, lA_imp q fun us H2 ⟨μ, h, ds, a, b, c, d⟩ => ⟨μ, h, dx, ds, a, b, c, d⟩⟩⟩
end
def wrL (x : D) (h : Hc) : Option (Nat × List D) := match x with
  | .ref n => match h[n]? with
    | some (false, .lst ds) => some (n, ds)
    | _ => none
  | _ => none
theorem wrL_at {W : Wb} {μ : List Addr} {h : Hc} {H : Hp} {d : D} {v : V} {n : Nat} {ds : List D} (x : R W μ h H) (r : RD W μ H d v) (e : wrL d h = some (n, ds)) :
    ∃ a vs, v = .ref a ∧ μ[n]? = some a ∧ h[n]? = some (false, .lst ds) ∧ H a = some (.lst vs) ∧ RDs W μ H ds vs := by
  cases d with
  | ref m =>
    simp only [RD] at r
    obtain ⟨a, e1, rfl⟩ := r
    simp only [wrL] at e
    split at e
    · rename_i ds' e2
      injection e with e; injection e with e3 e4
      subst e3; subst e4
      obtain ⟨vs, q1, q2⟩ := x.ob m a _ e1 e2
      exact ⟨a, vs, rfl, e1, e2, q1, q2⟩
    · cases e
  | _ => cases e
def gAppend : GM := fun x ys h => match wrL x h, ys with
  | some (n, ds), [y] => if ds.length < sizeLine then some (.non, h.set n (false, .lst (ds ++ [y]))) else none
  | _, _ => none
def gExtend : GM := fun x ys h => match wrL x h, ys with
  | some (n, ds), [.ref m] => match h[m]? with
    | some (_, .lst es) => if ds.length + es.length ≤ sizeLine then some (.non, h.set n (false, .lst (ds ++ es))) else none
    | _ => none
  | _, _ => none
def gPopAt : GM := fun x ys h => match wrL x h, ys with
  | some (n, ds), [.int i] => if decide (-(2 ^ 63) ≤ i) && decide (i < 2 ^ 63) then match seqIndex? i ds.length with
    | some k => match ds[k]? with
      | some d => some (d, h.set n (false, .lst (ds.eraseIdx k)))
      | none => none
    | none => none else none
  | _, _ => none
theorem RDs.erase {W : Wb} {μ : List Addr} {H : Hp} : ∀ {ds : List D} {vs : List V} (k : Nat), RDs W μ H ds vs → RDs W μ H (ds.eraseIdx k) (vs.eraseIdx k)
  | [], vs, k, r => by simp only [RDs] at r; subst r; simpa using RDs.nil
  | d :: ds, vs, 0, r => by
    simp only [RDs] at r
    obtain ⟨v, t, rfl, r1, r2⟩ := r
    exact r2
  | d :: ds, vs, k + 1, r => by
    simp only [RDs] at r
    obtain ⟨v, t, rfl, r1, r2⟩ := r
    exact RDs.cons r1 (RDs.erase k r2)
section
variable {X : Cx} {Wx : WX} {o e e2 : Expr} {apos cpos : Pos} {co ce : CE} {cs : CA}
theorem rd1 {W : Wb} {μ : List Addr} {H : Hp} {d : D} {vs : List V} (r : RDs W μ H [d] vs) : ∃ v, vs = [v] ∧ RD W μ H d v := by
  simp only [RDs] at r
  obtain ⟨v, t, rfl, r1, rfl⟩ := r
  exact ⟨v, rfl, r1⟩
theorem m_append : MtR X "list.append" (lVm (wd X) gAppend) := MtR.imp mt_append fun x xs H Q ⟨μ, h, dx, ds, r, d1, d2, k⟩ => by
  unfold gAppend at k
  split at k
  · rename_i n l y e
    split at k
    · rename_i hz
      obtain ⟨a, vs, rfl, e1, e2, e3, e4⟩ := wrL_at r d1 e
      obtain ⟨v, rfl, rv⟩ := rd1 d2
      exact ⟨a, vs, v, rfl, rfl, e3, by rw [← e4.len]; exact hz, k.put r e1 e2 (RDs.append e4 (RDs.cons rv RDs.nil)) (by simp only [RD])⟩
    · exact k.elim
  · exact k.elim
theorem m_extend : MtR X "list.extend" (lVm (wd X) gExtend) := MtR.imp mt_extend fun x xs H Q ⟨μ, h, dx, ds, r, d1, d2, k⟩ => by
  unfold gExtend at k
  split at k
  · rename_i n l m e
    split at k
    · rename_i fl es e5
      split at k
      · rename_i hz
        obtain ⟨a, vs, rfl, e1, e2, e3, e4⟩ := wrL_at r d1 e
        obtain ⟨v, rfl, rv⟩ := rd1 d2
        simp only [RD] at rv
        obtain ⟨b, e6, rfl⟩ := rv
        obtain ⟨ws, q1, q2⟩ := r.ob m b _ e6 e5
        exact ⟨a, b, vs, ws, rfl, rfl, e3, q1, by rw [← e4.len, ← q2.len]; exact hz, k.put r e1 e2 (RDs.append e4 q2) (by simp only [RD])⟩
      · exact k.elim
    · exact k.elim
  · exact k.elim
theorem m_popAt : MtR X "list.pop" (lVm (wd X) gPopAt) := MtR.imp mt_popAt fun x xs H Q ⟨μ, h, dx, ds, r, d1, d2, k⟩ => by
  unfold gPopAt at k
  split at k
  · rename_i n l i e
    split at k
    · rename_i hi
      simp only [Bool.and_eq_true, decide_eq_true_eq] at hi
      split at k
      · rename_i kk e6
        split at k
        · rename_i d e5
          obtain ⟨a, vs, rfl, e1, e2, e3, e4⟩ := wrL_at r d1 e
          obtain ⟨v, rfl, rv⟩ := rd1 d2
          simp only [RD] at rv; subst rv
          obtain ⟨w, q1, q2⟩ := e4.get e5
          exact ⟨a, vs, i, kk, w, rfl, rfl, e3, hi.1, hi.2, by rw [← e4.len]; exact e6, q1, k.put r e1 e2 (e4.erase kk) q2⟩
        · exact k.elim
      · exact k.elim
    · exact k.elim
  · exact k.elim
theorem lVm.swap {W : Wb} {g g' : GM} {x : V} {xs : List V} {H : Hp} {Q : VK} (k : lVm W g x xs H Q) (e : ∀ x ys h, g x ys h = g' x ys h) : lVm W g' x xs H Q := by
  obtain ⟨μ, h, dx, ds, r, d1, d2, k⟩ := k
  exact ⟨μ, h, dx, ds, r, d1, d2, by rw [← e]; exact k⟩
theorem md_append : typeOf (.builtin "list.append") = pure (.type "method_descriptor") := by first | rfl | (show builtinType _ = _; rw [builtinType_eq_fast]; kernel_rfl)
theorem md_extend : typeOf (.builtin "list.extend") = pure (.type "method_descriptor") := by first | rfl | (show builtinType _ = _; rw [builtinType_eq_fast]; kernel_rfl)
theorem md_pop : typeOf (.builtin "list.pop") = pure (.type "method_descriptor") := by first | rfl | (show builtinType _ = _; rw [builtinType_eq_fast]; kernel_rfl)
end
end Sx

set_option Elab.async false
set_option linter.all false
set_option maxRecDepth 100000
namespace Sx
open PySem PySem.Spec PyProof.Rows L2

section
variable {X : Cx} {Wx : WX} {k n i : Nat} {x : Str} {p pos : Pos} {e : Expr} {es : List Expr} {cs : CA} {tab : List (Str × Fn)}
end
end Sx

set_option Elab.async false
set_option linter.all false
set_option maxRecDepth 100000
namespace Sx
open PySem PySem.Spec PyProof.Rows L2

def cPar3 (i j l : Nat) (a b c : CE) : CS := fun ρ h => ofR (a ρ h) ρ fun x h1 => ofR (b ρ h1) ρ fun y h2 => ofR (c ρ h2) ρ fun z h3 => .ok .nx (((ρ.set i (some x)).set j (some y)).set l (some z)) h3
section
variable {X : Cx} {Wx : WX} {a b c : Expr} {ca cb cc : CE} {pos : Pos}
end
theorem s_ty {X : Cx} {Wx : WX} {x : Str} {n : String} {pos : Pos} (hm : X.mg x = none) (hg : Gl X x) (hv : bootBuiltins x = some (.type n)) (hn : x ≠ "__name__" := by decide) (hdb : (x == ("__debug__" : Str)) = false := by decide) : SE X Wx (.Name x pos) (cK (.ty n)) := by
  refine ⟨fun pins s σ H Q I ⟨μ, ρ, h, r, rs, k⟩ => ?_⟩
  exact ld_blt I hg hm hv ⟨.ty n, H, I, rfl, k μ H _ r .refl (by simp only [RD])⟩ hn hdb
structure FT (K : PySem.W.Frag) (mg : Str → Option Value) (x qual : Str) (st : Stmt) (ps : List Str) (f : Addr) (fd : FuncData) : Prop where
  g : mg x = some (.ref f)
  fn : Fun K x qual st f fd
  b : Binds K fd ps []
  bt : ∀ (s : Shared) (us : List Value), us.length = ps.length → BindsTo s fd ⟨us, []⟩ (ps.zip us)
theorem FT.k {K : PySem.W.Frag} {mg : Str → Option Value} {x qual : Str} {st : Stmt} {ps : List Str} {f : Addr} {fd : FuncData} (T : FT K mg x qual st ps f fd) : PySem.W.keepIn K (.ref f) = true := T.fn.kp


theorem Room.u65 {k : Nat} {A : Around} (r : Room k A) : A.units + 65 < cLine := by have := r.un; omega
theorem Room.u64 {k : Nat} {A : Around} (r : Room k A) : A.units + 64 < cLine := r.units
end Sx

set_option Elab.async false
set_option linter.all false
set_option maxRecDepth 100000
namespace Sx
open PySem PySem.Spec PyProof.Rows L2
open PySem.W PySem.Calls PySem.HandSPX

theorem entry {K : Frag} {mg : Str → Option Value} {m : Fn} {ns : List Int} {H : Hp} {a : Addr} (hO : Only H) (hS : SqL K H a (ns.map V.int)) (hm : ∃ h', m [.flst (ns.map D.int)] [] = .ok (.bl true) h') :
    spOf ⟨K, mg⟩ 1 m [.ref a] H (fun v _ => v = .bl true) fun _ _ _ => False := by
  obtain ⟨h', e⟩ := hm
  have fz : FzL K H a (ns.map V.int) := by
    rcases hS with (q | q) | q
    · rcases hO a with z | ⟨o, xs, z⟩
      · rw [q] at z; cases z
      · rw [q] at z; cases z
    · exact .inl q
    · exact .inr q
  have rd : ∀ l : List Int, RDs ⟨K, mg⟩ [] H (l.map D.int) (l.map V.int) := fun l => by
    induction l with
    | nil => simp [RDs]
    | cons i l ih => exact RDs.cons (by simp only [RD]) ih
  refine ⟨[], [], [.flst (ns.map D.int)], ⟨rfl, List.nodup_nil, fun n a p e => by simp at e⟩, ?_, rfl, ?_⟩
  · refine RDs.cons ?_ RDs.nil
    simp only [RD]
    exact ⟨a, _, rfl, fz, rd ns⟩
  · rw [e]
    intro μ' H' v _ _ r
    simpa only [RD] using r
theorem walkW {l : PySem.W.OpenLaw} {n k : Nat} {q : Program} {loose : List Str} {XP : (Str → Option Value) → Heap → Prop} {YP : World → Heap → Prop} {d : DefRec} {x : Str} {m : Fn}
    (hn : l.most = some n) (hn2 : n ≤ sizeLine) (hdf : d.params.defaults = []) (hr : Room k callerA)
    (hm : ∀ ns : List Int, ns.length ≤ n → ∃ h', m [.flst (ns.map D.int)] [] = .ok (.bl true) h')
    (F : ∀ (w : World) (mg : Str → Option Value) (fa : Addr) (h : Heap), YP w h → h.Ns mainGlobals mg → mg d.name = some (.ref fa) →
      ∃ (K : PySem.W.Frag) (fd : FuncData), K.In h ∧ Binds K fd [x] [] ∧ (∀ base : Heap, K.In base → base.Ns mainGlobals mg → FnOk l.prog w K mg base (L2.CX l.prog w) k fa fd [x] (spOf ⟨K, mg⟩ 1 m)) ∧
        ∀ (s : Shared) (u : Value), BindsTo s fd ⟨[u], []⟩ [(x, u)]) :
    PySem.W.WalkO q loose XP YP l.row.toRowW d [] (fun f vs => PySem.call f vs) := by
  refine Att.attach_call hn hdf fun w s₀ s₁ mg mb fa o pm cd doc a vs ns G Y ho hd hcd hmg hobj hints hlen hg => ?_
  obtain ⟨K, fd, KX, _, hF, hb⟩ := F w mg fa _ Y G.T.g hmg
  exact law_call KX G.T.g G.T.b G.T.builtins G.T.nolimit hg hobj hints (Nat.le_trans hlen hn2) hr hF hb (fun H hO hS => entry hO hS (hm ns hlen)) fun H e s' h => by
    obtain ⟨_, _, _, _, _, _, _, _, _, _, _, _, z⟩ := h
    exact z
section
variable {P : Program} {K : Frag} {h : Heap} {mg : Str → Option Value}
theorem ft_mk (X : K.In h) (G : h.Ns mainGlobals mg) {x : Str} {st : Stmt} {ps : List Str} {f : Addr} {oc : Value} {od an : Option Addr} {osl : Array (Option Value)} {kV doc pm cdv ct : Value} (a : nsIn K mainGlobals x = some (some (.ref f)))
    (l : K.lookup f = some ⟨oc, od, .func (fnOf x x (defArgs st) (defBody st) (defScope st) .none kV doc pm an cdv ct), osl⟩) (c : codeIn K cdv x = true) (k : keepIn K (.ref f) = true)
    (hb : ∀ (kV doc pm : Value) (an : Option Addr) (cdv ct : Value) (us : List Value), us.length = ps.length → bindArgs (fnOf x x (defArgs st) (defBody st) (defScope st) .none kV doc pm an cdv ct) ⟨us, []⟩ = pure (ps.zip us)) : ∃ f fd, FT K mg x x st ps f fd :=
  ⟨f, _, mg_of X G a, fun_mk l c k, (fun_mk (st := st) l c k).binds hb, fun s us hl => .of_eq (hb kV doc pm an cdv ct us hl)⟩
structure ErrK (K : Frag) (c : Str) (C D fI : Addr) : Prop where
  a : nsIn K mainGlobals c = some (some (.ref C))
  cls : ∃ nm q N bs sn sub ab col dd k0 k1 k2 k3 k5, K.lookup C = some (excClassObj nm q C N bs (.ref D :: veTail) true sn sub ab col dd k0 k1 k2 k3 k5 "ValueError.__new__")
  sa : findIn K (.ref C) "__setattr__" = some (some (.builtin "object.__setattr__"))
  ga : findIn K (.ref C) "__getattribute__" = some (some (.builtin "BaseException.__getattribute__"))
  gg : findIn K (.ref C) "__getattr__" = some none
  noN : findIn K (.ref C) "what" = some none
  iC : findIn K (.ref C) "__init__" = some (some (.ref fI))
  kC : keepIn K (.ref C) = true
  tyC : typeIn K (.ref C) = some (.type "type")
theorem errk_mk {c : Str} {C D fI : Addr} {nm q : Str} {N : Addr} {bs : List Value} {sn : List Str} {sub : List Value} {ab : Bool} {col : Option Bool} {dd : Option Addr} {k0 k1 k2 k3 k5 : Option Value} (a : nsIn K mainGlobals c = some (some (.ref C)))
    (cls : K.lookup C = some (excClassObj nm q C N bs [.ref D, .type "ValueError", .type "Exception", .type "BaseException", .type "object"] true sn sub ab col dd k0 k1 k2 k3 k5 "ValueError.__new__"))
    (sa : findIn K (.ref C) "__setattr__" = some (some (.builtin "object.__setattr__"))) (ga : findIn K (.ref C) "__getattribute__" = some (some (.builtin "BaseException.__getattribute__"))) (gg : findIn K (.ref C) "__getattr__" = some none)
    (noN : findIn K (.ref C) "what" = some none) (iC : findIn K (.ref C) "__init__" = some (some (.ref fI))) (kC : keepIn K (.ref C) = true) (tyC : typeIn K (.ref C) = some (.type "type")) : ErrK K c C D fI :=
  ⟨a, ⟨nm, q, N, bs, sn, sub, ab, col, dd, k0, k1, k2, k3, k5, cls⟩, sa, ga, gg, noN, iC, kC, tyC⟩
theorem ErrK.cd {c : Str} {C D fI : Addr} (E : ErrK K c C D fI) : ∃ cd, clsIn K C = some cd ∧ cd.mro = .ref C :: .ref D :: veTail ∧ cd.hasDict = true := by
  obtain ⟨nm, q, N, bs, sn, sub, ab, col, dd, k0, k1, k2, k3, k5, e⟩ := E.cls
  exact ⟨_, by unfold clsIn; rw [e] <;> rfl, rfl, rfl⟩
theorem ErrK.sub {c : Str} {C D fI : Addr} (E : ErrK K c C D fI) (v : Value) : subIn K (.ref C) v = some ((Value.ref C :: Value.ref D :: veTail).contains v) := by
  obtain ⟨cd, h1, h2, _⟩ := E.cd
  show mroIn K C v = _
  unfold mroIn
  rw [h1, Option.bind_some, h2]
  rfl
theorem ve_in (C D : Addr) (T : String) (h : veTail.contains (.type T) = true) : (Value.ref C :: Value.ref D :: veTail).contains (.type T) = true := by
  simp only [List.contains_cons, h, Bool.or_true]
theorem ErrK.txt {c : Str} {C D fI : Addr} (E : ErrK K c C D fI) (X : K.In h) (G : h.Ns mainGlobals mg) (hCD : C ≠ D) : ErrTxt K mg c C D fI where
  gC := mg_of X G E.a
  cls := by
    obtain ⟨nm, q, N, bs, sn, sub, ab, col, dd, k0, k1, k2, k3, k5, e⟩ := E.cls
    exact ⟨nm, q, N, bs, _, sn, sub, ab, col, dd, k0, k1, k2, k3, k5, e, by show refsVE veTail = true; decide +kernel⟩
  sa := E.sa
  ga := E.ga
  gg := E.gg
  noN := E.noN
  iC := E.iC
  kC := E.kC
  exC := by rw [E.sub, ve_in]; decide +kernel
  veC := by rw [E.sub, ve_in]; decide +kernel
  tyC := E.tyC
  hdC := by
    obtain ⟨cd, h1, h2, h3⟩ := E.cd
    unfold hasDictIn
    rw [h1]
    exact h3
  sup := by
    obtain ⟨cd, h1, h2, h3⟩ := E.cd
    unfold ks_superIn
    rw [h1, Option.bind_some, h2]
    have n1 : (Value.ref C != Value.ref D) = true := by simpa using hCD
    have n2 : (Value.ref D != Value.ref D) = false := by simp
    rw [List.dropWhile_cons, if_pos n1, List.dropWhile_cons, n2, if_neg Bool.false_ne_true, List.drop_succ_cons, List.drop_zero]
    rfl
  subD := by
    rw [E.sub]
    simp
theorem ErrK.xf {c : Str} {C D fI : Addr} (E : ErrK K c C D fI) : XfC K C ∧ findIn K (.ref C) wWhat = some none := by
  refine ⟨⟨E.ga, E.gg, ?_, ?_⟩, E.noN⟩
  · rw [E.sub, ve_in]; decide +kernel
  · obtain ⟨cd, h1, h2, h3⟩ := E.cd
    unfold hasDictIn
    rw [h1]
    exact h3
end
end Sx

set_option Elab.async false
set_option linter.all false
set_option maxRecDepth 100000
namespace Sx
open PySem PySem.Spec PyProof.Rows L2
open PySem.W PySem.Calls PySem.HandSPX
section
variable {P : Program} {K : Frag} {h : Heap} {mg : Str → Option Value}
structure RefK (P : Program) (K : Frag) (D fI cc : Addr) : Prop where
  a : nsIn K mainGlobals "Refused" = some (some (.ref D))
  c : ∃ cd, clsIn K D = some cd
  f : ∃ (oc : Value) (od : Option Addr) (doc pm : Value) (an : Option Addr) (cda : Addr) (ct : Value) (osl : Array (Option Value)) (p : IniPos),
    K.lookup fI = some ⟨oc, od, .func (ksFn "__init__" "Refused.__init__" (iniA p) (iniB p) iniS .none .none doc pm an (.ref cda) ct cc), osl⟩ ∧ codeIn K (.ref cda) "Refused.__init__" = true ∧
    ∃ (ccl : Value) (cdd : Option Addr) (vs : Array Value) (ccs : Array (Option Value)) (file : Str) (tf : Tok), K.lookup cda = some ⟨ccl, cdd, .fields vs, ccs⟩ ∧ vs[2]? = some (.str file tf) ∧ ((P.main.file : Str) == file) = true
  cell : ∃ (cl : Value) (cld : Option Addr) (csl : Array (Option Value)), K.lookup cc = some ⟨cl, cld, .cell (some (.ref D)), csl⟩
  s : nsIn K mainGlobals "super" = some none
  top : (P.main.scope.names.lookup ("super" : Str)).isSome = false
  op : nsIn K cStatics "thirdparty.any" = some none
  tf : typeIn K (.ref fI) = some (.type "function")
  be : subIn K (.ref D) (.type "BaseException") = some true
  hd : hasDictIn K D = true
  ty : typeIn K (.ref D) = some (.type "type")
theorem refk_mk (p : IniPos) {D fI cc cda : Addr} {cd : ClassData} {oc : Value} {od : Option Addr} {doc pm : Value} {an : Option Addr} {ct : Value} {osl : Array (Option Value)} {ccl : Value} {cdd : Option Addr} {vs : Array Value} {ccs : Array (Option Value)} {file : Str} {tk : Tok} {cl : Value} {cld : Option Addr} {csl : Array (Option Value)}
    (a : nsIn K mainGlobals "Refused" = some (some (.ref D))) (c : clsIn K D = some cd) (i : findIn K (.ref D) "__init__" = some (some (.ref fI)))
    (l : K.lookup fI = some ⟨oc, od, .func (ksFn "__init__" "Refused.__init__" (iniA p) (iniB p) iniS .none .none doc pm an (.ref cda) ct cc), osl⟩) (co : codeIn K (.ref cda) "Refused.__init__" = true) (lc : K.lookup cda = some ⟨ccl, cdd, .fields vs, ccs⟩) (v : vs[2]? = some (.str file tk)) (fl : ((P.main.file : Str) == file) = true)
    (ce : K.lookup cc = some ⟨cl, cld, .cell (some (.ref D)), csl⟩) (s : nsIn K mainGlobals "super" = some none) (top : (P.main.scope.names.lookup ("super" : Str)).isSome = false) (op : nsIn K cStatics "thirdparty.any" = some none) (tf : typeIn K (.ref fI) = some (.type "function"))
    (be : subIn K (.ref D) (.type "BaseException") = some true) (hd : hasDictIn K D = true) (ty : typeIn K (.ref D) = some (.type "type")) : RefK P K D fI cc :=
  ⟨a, ⟨cd, c⟩, ⟨oc, od, doc, pm, an, cda, ct, osl, p, l, co, ccl, cdd, vs, ccs, file, tk, lc, v, fl⟩, ⟨cl, cld, csl, ce⟩, s, top, op, tf, be, hd, ty⟩
theorem RefK.base {D fI cc : Addr} (R : RefK P K D fI cc) (X : K.In h) (G : h.Ns mainGlobals mg) : BaseTxt P K mg D fI cc :=
  ⟨R.c, R.f, R.cell, mg_none_of X G R.s, R.top, R.op, R.tf⟩
theorem nd_snd {ps : List (Str × Addr)} (h : (ps.map (·.2)).Nodup) {a b : Str} {C : Addr} (h1 : (a, C) ∈ ps) (h2 : (b, C) ∈ ps) : a = b := by
  induction ps with
  | nil => cases h1
  | cons p ps ih =>
    rw [List.map_cons, List.nodup_cons] at h
    rcases List.mem_cons.mp h1 with e1 | e1 <;> rcases List.mem_cons.mp h2 with e2 | e2
    · rw [← e1] at e2; cases e2; rfl
    · exact absurd (List.mem_map.mpr ⟨_, e2, by rw [← e1]⟩) h.1
    · exact absurd (List.mem_map.mpr ⟨_, e1, by rw [← e2]⟩) h.1
    · exact ih h.2 e1 e2
theorem ef_mk (X : K.In h) (G : h.Ns mainGlobals mg) {D fI cc : Addr} {ps : List (Str × Addr)} (R : RefK P K D fI cc) (hE : ∀ p ∈ ps, ErrK K p.1 p.2 D fI) (hn : (D :: ps.map (·.2)).Nodup) (hs : (("Refused" : Str) :: ps.map (·.1)).Nodup) : EF K mg (ps.map (·.1)) := by
  rw [List.nodup_cons] at hn hs
  have at_ : ∀ {c C}, c ∈ ps.map (·.1) → mg c = some (.ref C) → (c, C) ∈ ps := fun {c C} hc hm => by
    obtain ⟨⟨c', C'⟩, h1, rfl⟩ := List.mem_map.mp hc
    have := (mg_of X G (hE _ h1).a).symm.trans hm
    cases this
    exact h1
  refine ⟨fun c hc C hC => (hE _ (at_ hc hC)).xf, fun c hc c' hc' C C' hC hC' => ?_⟩
  have E := hE _ (at_ hc hC)
  rcases List.mem_cons.mp hc' with rfl | hc2
  · have e := (mg_of X G R.a).symm.trans hC'
    cases e
    refine exm_ref R.be R.hd R.ty ?_
    rw [E.sub]
    simp
  · have E' := hE _ (at_ hc2 hC')
    refine exm_ref (by rw [E'.sub, ve_in]; decide +kernel) ?_ E'.tyC ?_
    · obtain ⟨cd, h1, h2, h3⟩ := E'.cd
      unfold hasDictIn
      rw [h1]
      exact h3
    · rw [E.sub]
      have nR : c' ≠ ("Refused" : Str) := fun z => hs.1 (z ▸ hc2)
      have nD : C' ≠ D := fun z => hn.1 (z ▸ List.mem_map.mpr ⟨_, at_ hc2 hC', rfl⟩)
      have nv : veTail.contains (Value.ref C') = false := by
        unfold veTail
        simp
      have ec : (Value.ref C' == Value.ref C) = decide (c' = c) := by
        by_cases z : c' = c
        · subst z
          have := hC.symm.trans hC'
          cases this
          simp
        · have : C' ≠ C := fun y => z (nd_snd hn.2 (at_ hc2 hC') (y ▸ at_ hc hC))
          simp [z, this]
      rw [List.contains_cons, List.contains_cons, ec, nv]
      have eD : (Value.ref C' == Value.ref D) = false := by simpa using nD
      rw [eD, decide_eq_false nR]
      rfl
theorem con_mk (X : K.In h) (G : h.Ns mainGlobals mg) {x : Str} {i : Int} {t : Tok} (a : nsIn K mainGlobals x = some (some (.int i t))) : ∃ t, mg x = some (.int i t) := ⟨t, mg_of X G a⟩
end
end Sx

set_option Elab.async false
set_option linter.all false
set_option maxRecDepth 100000
namespace Sx
open PySem PySem.Spec PyProof.Rows L2
section
variable {W : Wd} {μ : List Addr} {h : Hc} {H : Hp}
end
section
variable {X : Cx} {Wx : WX} {tg a b e : Expr} {ca cb ce : CE} {p pos : Pos}
end
theorem s_callM {X : Cx} {Wx : WX} {a : Expr} {es : List Expr} {cs : CA} {pos : Pos} {id : String} {x : Str} {p : Pos} {g : GL} (hc : CallR X (.builtin id) (lVs (wd X) g)) (hm : X.mg x = some (.builtin id)) (ha : SA X Wx (a :: es) cs) (hg : Gl X x := by rfl) (hdb : (x == ("__debug__" : Str)) = false := by decide)
    (he : starEach (a :: es) X.env = (false, eval a X.env) :: starEach es X.env := by rfl) (hpl : (backTo pos (starEach es X.env)).any (·.1) = false := by rfl) : SE X Wx (.Call (.Name x p) (a :: es) [] pos) (cC g cs) :=
  pe_mono (pe_callBfun hc hg hm ha hdb he hpl) fun _ _ _ k => useC k
end Sx

set_option Elab.async false
set_option linter.all false
set_option maxRecDepth 100000
namespace Sx
open PySem

@[irreducible] def wE {α : Type} (r : Res α) (Q : α → Hc → Prop) : Prop := match r with
  | .ok a h => Q a h
  | .exn _ _ _ => False
  | .stuck => False
@[irreducible] def wX {α : Type} (r : Res α) (Q : α → Hc → Prop) (E : Str → D → Hc → Prop) : Prop := match r with
  | .ok a h => Q a h
  | .exn c x h => E c x h
  | .stuck => False
@[irreducible] def wS (r : ResS) (Q : Fl → Rho → Hc → Prop) : Prop := match r with
  | .ok f ρ h => Q f ρ h
  | .stuck => False
section
variable {α β : Type} {r : Res α} {f : α → Hc → Res β} {g : α → Hc → ResS} {Q Q' : α → Hc → Prop} {R : β → Hc → Prop} {E : Str → D → Hc → Prop} {S S' : Fl → Rho → Hc → Prop} {ρ : Rho} {h : Hc}
theorem wE_ok {a : α} : wE (.ok a h) Q = Q a h := by unfold wE; rfl
theorem wE_no : wE (.stuck : Res α) Q = False := by unfold wE; rfl
theorem wE_xn {c : Str} {x : D} : wE (.exn c x h : Res α) Q = False := by unfold wE; rfl
theorem wX_ok {a : α} : wX (.ok a h) Q E = Q a h := by unfold wX; rfl
theorem wX_no : wX (.stuck : Res α) Q E = False := by unfold wX; rfl
theorem wX_xn {c : Str} {x : D} : wX (.exn c x h : Res α) Q E = E c x h := by unfold wX; rfl
theorem wS_ok {fl : Fl} : wS (.ok fl ρ h) S = S fl ρ h := by unfold wS; rfl
theorem wS_no : wS .stuck S = False := by unfold wS; rfl
theorem wE.mono (w : wE r Q) (k : ∀ a h, Q a h → Q' a h) : wE r Q' := by
  cases r with
  | ok a h => rw [wE_ok] at w ⊢; exact k a h w
  | exn c x h => rw [wE_xn] at w; exact w.elim
  | stuck => rw [wE_no] at w; exact w.elim
theorem wE.eq (w : wE r Q) : ∃ a h, r = .ok a h ∧ Q a h := by
  cases r with
  | ok a h => rw [wE_ok] at w; exact ⟨a, h, rfl, w⟩
  | exn c x h => rw [wE_xn] at w; exact w.elim
  | stuck => rw [wE_no] at w; exact w.elim
theorem wE.of {a : α} (e : r = .ok a h) (q : Q a h) : wE r Q := by rw [e, wE_ok]; exact q
theorem wE.x (w : wE r Q) : wX r Q E := by
  obtain ⟨a, h, rfl, q⟩ := w.eq
  rw [wX_ok]; exact q
theorem wS.eq {r : ResS} (w : wS r S) : ∃ f ρ h, r = .ok f ρ h ∧ S f ρ h := by
  cases r with
  | ok f ρ h => rw [wS_ok] at w; exact ⟨f, ρ, h, rfl, w⟩
  | stuck => rw [wS_no] at w; exact w.elim
theorem wS.mono {r : ResS} (w : wS r S) (k : ∀ f ρ h, S f ρ h → S' f ρ h) : wS r S' := by
  obtain ⟨f, ρ, h, rfl, q⟩ := w.eq
  rw [wS_ok]; exact k f ρ h q
end
theorem for_inv {t : TGT} {b : CS} {Q : Fl → Rho → Hc → Prop} (I : List D → Rho → Hc → Prop) (end_ : ∀ ρ h, I [] ρ h → Q .nx ρ h)
    (step : ∀ d r ρ h, I (d :: r) ρ h → ∃ ρ1, asg t d ρ = some ρ1 ∧ wS (b ρ1 h) fun f ρ2 h2 => match f with | .nx => I r ρ2 h2 | .ct => I r ρ2 h2 | .bk => Q .nx ρ2 h2 | f => Q f ρ2 h2) :
    ∀ (l : List D) (ρ : Rho) (h : Hc), I l ρ h → wS (cForB t b l ρ h) Q
  | [], ρ, h, i => by
    unfold cForB
    rw [wS_ok]; exact end_ ρ h i
  | d :: r, ρ, h, i => by
    obtain ⟨ρ1, e, w⟩ := step d r ρ h i
    simp only [cForB, e]
    obtain ⟨f, ρ2, h2, q, w⟩ := w.eq
    rw [q]
    cases f with
    | nx => exact for_inv I end_ step r ρ2 h2 w
    | ct => exact for_inv I end_ step r ρ2 h2 w
    | bk => exact wS_ok.mpr w
    | ret d => exact wS_ok.mpr w
    | exn c x => exact wS_ok.mpr w
theorem while_inv {t : CT} {b : CS} {Q : Fl → Rho → Hc → Prop} (I : Nat → Rho → Hc → Prop)
    (step : ∀ m ρ h, I m ρ h → wX (t ρ h) (fun x h1 => match x with
      | true => wS (b ρ h1) fun f ρ2 h2 => match f with | .nx => ∃ k, k < m ∧ I k ρ2 h2 | .ct => ∃ k, k < m ∧ I k ρ2 h2 | .bk => Q .nx ρ2 h2 | f => Q f ρ2 h2
      | false => Q .nx ρ h1) (fun c x h1 => Q (.exn c x) ρ h1)) :
    ∀ (n m : Nat) (ρ : Rho) (h : Hc), m < n → I m ρ h → wS (cWhile n t b ρ h) Q
  | 0, m, ρ, h, hm, _ => absurd hm (Nat.not_lt_zero _)
  | n + 1, m, ρ, h, hm, i => by
    have w := step m ρ h i
    unfold cWhile
    cases e : t ρ h with
    | stuck => rw [e, wX_no] at w; exact w.elim
    | exn c x h1 => rw [e, wX_xn] at w; exact wS_ok.mpr w
    | ok x h1 =>
      rw [e, wX_ok] at w
      cases x with
      | false => exact wS_ok.mpr w
      | true =>
        simp only [ofR]
        have w : wS (b ρ h1) _ := w
        obtain ⟨f, ρ2, h2, q, w⟩ := w.eq
        rw [q]
        cases f with
        | nx =>
          obtain ⟨k, hk, i2⟩ := w
          exact while_inv I step n k ρ2 h2 (by omega) i2
        | ct =>
          obtain ⟨k, hk, i2⟩ := w
          exact while_inv I step n k ρ2 h2 (by omega) i2
        | bk => exact wS_ok.mpr w
        | ret d => exact wS_ok.mpr w
        | exn c x => exact wS_ok.mpr w
theorem er_int {i : Int} : D.isErr (.int i) = false := id rfl
theorem er_bl {i : Bool} : D.isErr (.bl i) = false := id rfl
theorem er_str {i : Str} : D.isErr (.str i) = false := id rfl
theorem er_non : D.isErr .non = false := id rfl
theorem er_tup {i : List D} : D.isErr (.tup i) = false := id rfl
theorem er_flst {i : List D} : D.isErr (.flst i) = false := id rfl
theorem er_ref {i : Nat} : D.isErr (.ref i) = false := id rfl
theorem er_obj {c : Str} {n : List Str} {i : List D} : D.isErr (.obj c n i) = false := id rfl
theorem er_ty {i : String} : D.isErr (.ty i) = false := id rfl
theorem er_gl {i : Str} : D.isErr (.gl i) = false := id rfl
theorem get_set {h : Hc} {n : Nat} {x y : Bool × O} (e : h[n]? = some y) : (h.set n x)[n]? = some x := List.getElem?_set_self (List.getElem?_eq_some_iff.mp e).1
end Sx

set_option Elab.async false
set_option linter.all false
set_option maxRecDepth 100000
namespace Sx
open PySem
section
variable {α β : Type} {a b c : CE} {t u : CT} {x y : CS} {l : CA} {ρ ρ' : Rho} {h h' : Hc} {i j k n : Nat} {g g' : G2} {g1 : G1} {gl : GL} {gm : GM} {m : Fn} {d e : D} {ds es : List D} {p q : Int} {s : Str} {B : Bool}
theorem q_bok {v : α} {f : α → Hc → Res β} : Res.bind (.ok v h) f = f v h := id rfl
theorem q_bxn {v : D} {f : α → Hc → Res β} : Res.bind (.exn s v h) f = .exn s v h := id rfl
theorem q_ofok {v : α} {f : α → Hc → ResS} : ofR (.ok v h) ρ f = f v h := id rfl
theorem q_ofxn {v : D} {f : α → Hc → ResS} : ofR (.exn s v h) ρ f = .ok (.exn s v) ρ h := id rfl
theorem q_vo : VO.res (some (d, h)) = .ok d h := id rfl
theorem q_var : cVar i ρ h = match ρ[i]? with | some (some d) => if d.isErr then .stuck else .ok d h | _ => .stuck := id rfl
theorem q_k : cK d ρ h = .ok d h := id rfl
theorem q_c1 : c1 g1 a ρ h = (a ρ h).bind fun x h1 => (g1 x h1).res := id rfl
theorem q_c2 : c2 g a b ρ h = (a ρ h).bind fun x h1 => (b ρ h1).bind fun y h2 => (g x y h2).res := id rfl
theorem q_nil : cNil ρ h = .ok [] h := id rfl
theorem q_cons : cCons a l ρ h = (a ρ h).bind fun x h1 => (l ρ h1).bind fun xs h2 => .ok (x :: xs) h2 := id rfl
theorem q_c : cC gl l ρ h = (l ρ h).bind fun xs h1 => (gl xs h1).res := id rfl
theorem q_call : cCall m l ρ h = (l ρ h).bind m := id rfl
theorem q_callK {is : List Nat} : cCallK m is l ρ h = (l ρ h).bind fun xs h1 => m (pick is xs) h1 := id rfl
theorem q_b : cB a ρ h = (a ρ h).bind fun x h1 => match x with | .bl b => .ok b h1 | _ => .stuck := id rfl
theorem q_tru : cTru a ρ h = (a ρ h).bind fun x h1 => match truD x h1 with | some b => .ok b h1 | none => .stuck := id rfl
theorem q_not : cNot t ρ h = (t ρ h).bind fun b h1 => .ok (!b) h1 := id rfl
theorem q_and : cAnd t u ρ h = (t ρ h).bind fun x h1 => if x = true then u ρ h1 else .ok false h1 := by unfold cAnd; congr; funext x h1; cases x <;> rfl
theorem q_or : cOr t u ρ h = (t ρ h).bind fun x h1 => if x = true then .ok true h1 else u ρ h1 := by unfold cOr; congr; funext x h1; cases x <;> rfl
theorem q_ifE : cIfE t a b ρ h = (t ρ h).bind fun x h1 => if x = true then a ρ h1 else b ρ h1 := by unfold cIfE; congr; funext x h1; cases x <;> rfl
theorem q_andV : cAndV a b ρ h = (a ρ h).bind fun x h1 => match x with | .bl B => if B = true then b ρ h1 else .ok (.bl false) h1 | _ => .stuck := by
  unfold cAndV; congr; funext x h1
  cases x with
  | bl B => cases B <;> rfl
  | _ => rfl
theorem q_orV : cOrV a b ρ h = (a ρ h).bind fun x h1 => match x with | .bl B => if B = true then .ok (.bl true) h1 else b ρ h1 | _ => .stuck := by
  unfold cOrV; congr; funext x h1
  cases x with
  | bl B => cases B <;> rfl
  | _ => rfl
theorem q_notV : cNotV a ρ h = (a ρ h).bind fun x h1 => match x with | .bl b => .ok (.bl (!b)) h1 | _ => .stuck := id rfl
theorem q_chain : cChain g g' a b c ρ h = (a ρ h).bind fun x h1 => (b ρ h1).bind fun y h2 => (g x y h2).res.bind fun z h3 => match z with
    | .bl B => if B = true then (c ρ h3).bind fun w h4 => (g' y w h4).res else .ok (.bl false) h3
    | _ => .stuck := by
  unfold cChain; congr; funext x h1; congr; funext y h2; congr; funext z h3
  cases z with
  | bl B => cases B <;> rfl
  | _ => rfl
def thenS (r : ResS) (y : CS) : ResS := match r with
  | .ok .nx ρ' h' => y ρ' h'
  | r => r
theorem q_seq : cSeq x y ρ h = thenS (x ρ h) y := id rfl
theorem q_tnx : thenS (.ok .nx ρ h) y = y ρ h := id rfl
theorem q_trt : thenS (.ok (.ret d) ρ h) y = .ok (.ret d) ρ h := id rfl
theorem q_txn : thenS (.ok (.exn s d) ρ h) y = .ok (.exn s d) ρ h := id rfl
theorem q_tbk : thenS (.ok .bk ρ h) y = .ok .bk ρ h := id rfl
theorem q_tct : thenS (.ok .ct ρ h) y = .ok .ct ρ h := id rfl
theorem q_skip : cSkip ρ h = .ok .nx ρ h := id rfl
theorem q_drop : cDrop a ρ h = ofR (a ρ h) ρ fun _ h1 => .ok .nx ρ h1 := id rfl
theorem q_ret : cRet a ρ h = ofR (a ρ h) ρ fun d h1 => .ok (.ret d) ρ h1 := id rfl
theorem q_retN : cRetN ρ h = .ok (.ret .non) ρ h := id rfl
theorem q_bk : cBk ρ h = .ok .bk ρ h := id rfl
theorem q_ct : cCt ρ h = .ok .ct ρ h := id rfl
theorem q_set : cSet i a ρ h = ofR (a ρ h) ρ fun d h1 => .ok .nx (ρ.set i (some d)) h1 := id rfl
theorem q_par : cPar i j a b ρ h = ofR (a ρ h) ρ fun x h1 => ofR (b ρ h1) ρ fun y h2 => .ok .nx ((ρ.set i (some x)).set j (some y)) h2 := id rfl
theorem q_par3 : cPar3 i j k a b c ρ h = ofR (a ρ h) ρ fun x h1 => ofR (b ρ h1) ρ fun y h2 => ofR (c ρ h2) ρ fun z h3 => .ok .nx (((ρ.set i (some x)).set j (some y)).set k (some z)) h3 := id rfl
theorem q_asg {t : TGT} : cAsg t a ρ h = ofR (a ρ h) ρ fun d h1 => match asg t d ρ with | some ρ1 => .ok .nx ρ1 h1 | none => .stuck := id rfl
theorem q_if : cIf t x y ρ h = ofR (t ρ h) ρ fun z h1 => if z = true then x ρ h1 else y ρ h1 := by unfold cIf; congr; funext z h1; cases z <;> rfl
theorem q_raise : cRaise s a ρ h = ofR (a ρ h) ρ fun x h1 => .ok (.exn s x) ρ h1 := id rfl
theorem q_mt {ok : D → Hc → Bool} : cMt ok gm a l ρ h = (a ρ h).bind fun x h1 => if ok x h1 then (l ρ h1).bind fun ys h2 => (gm x ys h2).res else .stuck := id rfl
theorem q_mt0 {ok : D → Hc → Bool} : cMt0 ok g1 a ρ h = (a ρ h).bind fun x h1 => if ok x h1 then (g1 x h1).res else .stuck := id rfl
theorem q_itS : cItS a ρ h = (a ρ h).bind fun d h1 => match seqL d h1 with | some p => .ok p h1 | none => .stuck := id rfl
theorem q_end0 : endD (.ok .nx ρ h) = .ok .non h := id rfl
theorem q_endr : endD (.ok (.ret d) ρ h) = .ok d h := id rfl
theorem q_endx : endD (.ok (.exn s d) ρ h) = .exn s d h := id rfl
-- operations
theorem q_lt : gLt (.int p) (.int q) h = some (.bl (decide (p < q)), h) := id rfl
theorem q_le : gLe (.int p) (.int q) h = some (.bl (decide (p ≤ q)), h) := id rfl
theorem q_gt : gGt (.int p) (.int q) h = some (.bl (decide (q < p)), h) := id rfl
theorem q_ge : gGe (.int p) (.int q) h = some (.bl (decide (q ≤ p)), h) := id rfl
theorem q_sub : gSub (.int p) (.int q) h = some (.int (p - q), h) := id rfl
theorem q_add : gAdd (.int p) (.int q) h = some (.int (p + q), h) := id rfl
theorem q_addT (z : ds.length + es.length ≤ sizeLine) : gAdd (.tup ds) (.tup es) h = some (.tup (ds ++ es), h) := if_pos z
theorem q_mul (z : mulOk p q = true) : gMul (.int p) (.int q) h = some (.int (p * q), h) := if_pos z
theorem q_div (z : divOk q = true) : gDiv (.int p) (.int q) h = some (.int (p.fdiv q), h) := if_pos z
theorem q_mod (z : ¬ q = 0) : gMod (.int p) (.int q) h = some (.int (p.fmod q), h) := if_neg z
theorem q_neg : gNeg (.int p) h = some (.int (-p), h) := id rfl
theorem q_inti : gInt [.int p] h = some (.int p, h) := id rfl
theorem q_intb : gInt [.bl B] h = some (.int (if B = true then 1 else 0), h) := by cases B <;> rfl
theorem q_max : gMax [.int p, .int q] h = some (.int (if q > p then q else p), h) := id rfl
theorem q_min : gMin [.int p, .int q] h = some (.int (if q < p then q else p), h) := id rfl
theorem q_lst (z : ds.length ≤ sizeLine) : gLstD ds h = some (.ref h.length, h ++ [(false, .lst ds)]) := if_pos z
theorem q_tup (z : ds.length ≤ sizeLine) : gTupD ds h = some (.tup ds, h) := if_pos z
theorem q_lenT : gLen [.tup ds] h = some (.int ds.length, h) := id rfl
theorem q_lenF : gLen [.flst ds] h = some (.int ds.length, h) := id rfl
theorem q_lenR {f : Bool} (z : h[n]? = some (f, .lst ds)) : gLen [.ref n] h = some (.int ds.length, h) := by simp only [gLen, asSeq, z]
theorem q_truT : truD (.tup ds) h = some (!ds.isEmpty) := id rfl
theorem q_truF : truD (.flst ds) h = some (!ds.isEmpty) := id rfl
theorem q_truB : truD (.bl B) h = some B := id rfl
theorem q_truI : truD (.int p) h = some (p != 0) := id rfl
theorem q_ixT : gIx (.tup ds) (.int p) h = match L2.atI ds p with | some d => some (d, h) | none => none := id rfl
theorem q_ixF : gIx (.flst ds) (.int p) h = match L2.atI ds p with | some d => some (d, h) | none => none := id rfl
theorem q_ixR {f : Bool} (z : h[n]? = some (f, .lst ds)) : gIx (.ref n) (.int p) h = match L2.atI ds p with | some d => some (d, h) | none => none := by
  simp only [gIx, asSeq, z] <;> (cases L2.atI ds p <;> rfl)
theorem at_nat {l : List D} (z : l[i]? = some d) : L2.atI l (i : Int) = some d := by
  have hl := (List.getElem?_eq_some_iff.mp z).1
  unfold L2.atI L2.ixN
  have h1 : (0 : Int) ≤ (i : Int) := by omega
  have h2 : (i : Int) < (l.length : Nat) := by omega
  rw [if_pos h1, if_pos h2]
  simpa using z
theorem at_0 {l : List D} : L2.atI (d :: l) 0 = some d := at_nat (i := 0) rfl
theorem at_1 {l : List D} : L2.atI (d :: e :: l) 1 = some e := at_nat (i := 1) rfl
end
end Sx

set_option Elab.async false
set_option linter.all false
set_option maxRecDepth 100000
namespace Sx
open PySem
abbrev iL (l : List Int) : List D := l.map D.int
abbrev iT (l : List Int) : D := .tup (iL l)
theorem intsOf_iL : ∀ l : List Int, intsOf (iL l) = some l
  | [] => id rfl
  | i :: l => by
    show (match intsOf (iL l) with | some r => some (i :: r) | none => none) = _
    rw [intsOf_iL l]
theorem blsOf_bL : ∀ l : List Bool, blsOf (l.map D.bl) = some l
  | [] => id rfl
  | i :: l => by
    show (match blsOf (l.map D.bl) with | some r => some (i :: r) | none => none) = _
    rw [blsOf_bL l]
theorem mapO_int (h : Hc) (n : Nat) : ∀ l : List Int, mapO (toP h n) (iL l) = some (l.map PyData.int)
  | [] => id rfl
  | i :: l => by
    have e : toP h n (.int i) = some (.int i) := by cases n <;> rfl
    have ih := mapO_int h n l
    simp only [iL] at ih
    simp only [iL, List.map_cons, mapO, e, ih]
theorem lay_int : ∀ l : List Int, PyData.canLayAll0 (l.map PyData.int) = true
  | [] => by simp [PyData.canLayAll0]
  | i :: l => by simp [PyData.canLayAll0, PyData.canLay0, lay_int l]
theorem dep_int : ∀ l : List Int, PyData.depthAll (l.map PyData.int) = 0
  | [] => by simp [PyData.depthAll]
  | i :: l => by simp [PyData.depthAll, PyData.depth, dep_int l]
theorem sh_int (i : Int) : SeqAt.shaped (.int i) = true := by simp [SeqAt.shaped, PyData.canLay0, PyData.depth]
theorem sh_tup (l : List Int) : SeqAt.shaped (.tuple (l.map PyData.int)) = true := by
  unfold SeqAt.shaped
  simp [PyData.canLay0, PyData.depth, lay_int, dep_int]
theorem sh_lst (l : List Int) : SeqAt.shaped (.list (l.map PyData.int)) = true := by
  unfold SeqAt.shaped
  simp [PyData.canLay0, PyData.depth, lay_int, dep_int]
section
variable {h : Hc} {a b : List Int} {i j : Int} {n m : Nat} {f g : Bool}
theorem toS_int : toS (.int i) h = some (.int i) := by
  show (match some (PyData.int i) with | some p => if SeqAt.shaped p then some p else none | none => none) = _
  simp only [sh_int, if_true]
theorem toS_tup : toS (iT a) h = some (.tuple (a.map PyData.int)) := by
  unfold toS toP
  rw [mapO_int]
  simp only [sh_tup, if_true]
theorem toS_ref (e : h[n]? = some (f, .lst (iL a))) : toS (.ref n) h = some (.list (a.map PyData.int)) := by
  unfold toS toP
  rw [e]
  simp only [mapO_int, sh_lst, if_true]
theorem eqv_int : PyData.eqv (.int i) (.int j) = decide (i = j) := by
  simp only [PyData.eqv]
  rfl
theorem eqvs_int : ∀ a b : List Int, PyData.eqvAll (a.map PyData.int) (b.map PyData.int) = decide (a = b)
  | [], [] => by simp [PyData.eqvAll]
  | [], _ :: _ => by simp [PyData.eqvAll]
  | _ :: _, [] => by simp [PyData.eqvAll]
  | x :: a, y :: b => by
    simp [PyData.eqvAll, eqv_int, eqvs_int a b]
theorem eqD_int : eqD (.int i) (.int j) h = some (decide (i = j)) := by
  simp only [eqD, toS_int, eqv_int]
theorem eqD_ref (e : h[n]? = some (f, .lst (iL a))) (e2 : h[m]? = some (g, .lst (iL b))) : eqD (.ref n) (.ref m) h = some (decide (a = b)) := by
  simp only [eqD, toS_ref e, toS_ref e2]
  simp [PyData.eqv, eqvs_int]
theorem q_eqI : gEq (.int i) (.int j) h = some (.bl (decide (i = j)), h) := by simp only [gEq, eqD_int]
theorem q_neI : gNe (.int i) (.int j) h = some (.bl (!decide (i = j)), h) := by simp only [gNe, eqD_int]
theorem q_eqR (e : h[n]? = some (f, .lst (iL a))) (e2 : h[m]? = some (g, .lst (iL b))) : gEq (.ref n) (.ref m) h = some (.bl (decide (a = b)), h) := by simp only [gEq, eqD_ref e e2]
theorem q_neR (e : h[n]? = some (f, .lst (iL a))) (e2 : h[m]? = some (g, .lst (iL b))) : gNe (.ref n) (.ref m) h = some (.bl (!decide (a = b)), h) := by simp only [gNe, eqD_ref e e2]
theorem q_sumT : gSum [iT a] h = some (.int a.sum, h) := by simp only [gSum, asSeq, intsOf_iL]
theorem q_allR {l : List Bool} (e : h[n]? = some (f, .lst (l.map D.bl))) : gAll [.ref n] h = some (.bl (l.all id), h) := by
  simp only [gAll, isTup, Bool.false_eq_true, if_false, asSeq, e, blsOf_bL]
theorem q_tupR {ds : List D} (e : h[n]? = some (f, .lst ds)) : gTuple [.ref n] h = some (.tup ds, h) := by simp only [gTuple, asSeq, e]
theorem q_app {ds : List D} {d : D} (e : h[n]? = some (false, .lst ds)) (z : ds.length < sizeLine) : gAppend (.ref n) [d] h = some (.non, h.set n (false, .lst (ds ++ [d]))) := by
  simp only [gAppend, wrL, e, z, if_true]
theorem ok_lst {ds : List D} (e : h[n]? = some (f, .lst ds)) : isLst (.ref n) h = true := by simp only [isLst, e]
end
theorem ulkS_nil {h1 : Hc} {r : ResS} : ulkS h1 [] r = r := by cases r <;> rfl
theorem q_for {ci : CI} {t : TGT} {b : CS} {ρ : Rho} {h h1 : Hc} {l : List D} (e : ci ρ h = .ok (l, []) h1) : cFor ci t b ρ h = cForB t b l ρ h1 := by
  unfold cFor
  rw [e]
  exact ulkS_nil
theorem q_thenw {r : ResS} {y : CS} {S : Fl → Rho → Hc → Prop} : wS (thenS r y) S = wS r fun f ρ h => match f with | .nx => wS (y ρ h) S | f => S f ρ h := by
  cases r with
  | stuck => exact wS_no.trans wS_no.symm
  | ok f ρ h => rw [wS_ok (S := fun f ρ h => match f with | .nx => _ | f => _)]; cases f <;> first | rfl | exact wS_ok
theorem wE_end {r : ResS} {Q : D → Hc → Prop} (w : wS r fun f _ h => match f with | .nx => Q .non h | .ret d => Q d h | _ => False) : wE (endD r) Q := by
  obtain ⟨f, ρ, h, e, q⟩ := w.eq
  subst e
  cases f with
  | nx => exact wE_ok.mpr q
  | ret d => exact wE_ok.mpr q
  | _ => exact q.elim
theorem wE_run {n N : Nat} {b : CS} {ds : List D} {h : Hc} {Q : D → Hc → Prop} (e : ds.length = n) (w : wS (b (ds.map some ++ List.replicate (N - n) none) h) fun f _ h => match f with | .nx => Q .non h | .ret d => Q d h | _ => False) : wE (runD n N b ds h) Q := by
  unfold runD
  rw [if_pos e]
  exact wE_end w
theorem wS.of {r : ResS} {f : Fl} {ρ : Rho} {h : Hc} {S : Fl → Rho → Hc → Prop} (e : r = .ok f ρ h) (q : S f ρ h) : wS r S := by rw [e, wS_ok]; exact q
theorem wS_step {x y : CS} {ρ ρ' : Rho} {h h' : Hc} {S : Fl → Rho → Hc → Prop} (e : x ρ h = .ok .nx ρ' h') (w : wS (y ρ' h') S) : wS (cSeq x y ρ h) S := by
  rw [q_seq, e, q_tnx]
  exact w
theorem wS_loop {x y : CS} {ρ : Rho} {h : Hc} {S : Fl → Rho → Hc → Prop} (w : wS (x ρ h) fun f ρ h => match f with | .nx => wS (y ρ h) S | f => S f ρ h) : wS (cSeq x y ρ h) S := by
  rw [q_seq, q_thenw]
  exact w
theorem wS_ret {a : CE} {ρ : Rho} {h h' : Hc} {d : D} {S : Fl → Rho → Hc → Prop} (e : a ρ h = .ok d h') (w : S (.ret d) ρ h') : wS (cRet a ρ h) S := by
  rw [q_ret, e, q_ofok, wS_ok]
  exact w
theorem sz_0 : 0 < sizeLine := by decide
theorem sz_1 : 1 ≤ sizeLine := by decide
theorem sz_2 : 2 ≤ sizeLine := by decide
theorem sz_3 : 3 ≤ sizeLine := by decide
theorem sz_4 : 4 ≤ sizeLine := by decide
theorem sz_5 : 5 ≤ sizeLine := by decide
theorem sz_6 : 6 ≤ sizeLine := by decide
theorem sz_7 : 7 ≤ sizeLine := by decide
theorem sz_8 : 8 ≤ sizeLine := by decide
theorem sz_9 : 9 ≤ sizeLine := by decide
theorem sz_10 : 10 ≤ sizeLine := by decide
theorem sz_11 : 11 ≤ sizeLine := by decide
theorem sz_12 : 12 ≤ sizeLine := by decide
theorem sz_13 : 13 ≤ sizeLine := by decide
theorem sz_14 : 14 ≤ sizeLine := by decide
theorem asg_nm {i : Nat} {d : D} {ρ : Rho} : asg (.nm i) d ρ = some (ρ.set i (some d)) := id rfl
theorem asg_t2 {i j : Nat} {d e : D} {ρ : Rho} : asg (.tp [.nm i, .nm j]) (.tup [d, e]) ρ = some ((ρ.set i (some d)).set j (some e)) := id rfl
theorem asg_t3 {i j k : Nat} {d e f : D} {ρ : Rho} : asg (.tp [.nm i, .nm j, .nm k]) (.tup [d, e, f]) ρ = some (((ρ.set i (some d)).set j (some e)).set k (some f)) := id rfl
theorem seqL_t {ds : List D} {h : Hc} : seqL (.tup ds) h = some (ds, []) := id rfl
theorem q_addR {h : Hc} {m n : Nat} {f g : Bool} {ds es : List D} (e1 : h[m]? = some (f, .lst ds)) (e2 : h[n]? = some (g, .lst es)) (z : ds.length + es.length ≤ sizeLine) : gAdd (.ref m) (.ref n) h = some (.ref h.length, h ++ [(false, .lst (ds ++ es))]) := by
  simp only [gAdd, e1, e2]
  rw [if_pos z]
theorem get_new {h : Hc} {p : Bool × O} : (h ++ [p])[h.length]? = some p := by simp
theorem set_new {h : Hc} {p q : Bool × O} : (h ++ [p]).set h.length q = h ++ [q] := by simp
end Sx

set_option Elab.async false
set_option linter.all false
set_option maxRecDepth 100000
namespace Sx
open PySem
section
variable {α : Type} {t : TGT} {tt : CT} {e : CE} {ρ : Rho} {vs : List Nat} {ci : CI} {h h1 h2 : Hc} {l xs : List D}
theorem q_comp (e1 : ci ρ h = .ok (l, []) h1) (z : l.length < sizeLine) (e2 : cCompB t tt e (wipeD ρ vs) l h1 = .ok xs h2) : cComp vs ci t tt e ρ h = .ok (.ref h2.length) (h2 ++ [(false, .lst xs)]) := by
  unfold cComp
  rw [e1]
  show (if decide (l.length < sizeLine) = true then _ else _) = _
  rw [if_pos (by simpa using z)]
  show (Res.bind (ulkR h1 [] (noX (cCompB t tt e (wipeD ρ vs) l h1))) _) = _
  rw [e2]
  rfl
theorem comp_all (mk F : α → D) : ∀ (l : List α), (∀ a ∈ l, ∃ ρ1, asg t (mk a) ρ = some ρ1 ∧ e ρ1 h = .ok (F a) h) → cCompB t cYes e ρ (l.map mk) h = .ok (l.map F) h
  | [], _ => rfl
  | a :: r, q => by
    obtain ⟨ρ1, e1, e2⟩ := q a (by simp)
    simp only [List.map_cons, cCompB, e1, cYes, Res.bind, e2, comp_all mk F r (fun x hx => q x (by simp [hx]))]
theorem comp_some (mk F : α → D) (P : α → Bool) : ∀ (l : List α), (∀ a ∈ l, ∃ ρ1, asg t (mk a) ρ = some ρ1 ∧ tt ρ1 h = .ok (P a) h ∧ e ρ1 h = .ok (F a) h) → cCompB t tt e ρ (l.map mk) h = .ok ((l.filter P).map F) h
  | [], _ => rfl
  | a :: r, q => by
    obtain ⟨ρ1, e1, e2, e3⟩ := q a (by simp)
    have ih := comp_some mk F P r (fun x hx => q x (by simp [hx]))
    simp only [List.map_cons, cCompB, e1, e2, Res.bind]
    cases p : P a with
    | true => simp only [e3, Res.bind, ih, List.filter_cons, p, if_true, List.map_cons]
    | false => simp only [ih, List.filter_cons, p, Bool.false_eq_true, if_false]
theorem comp_inv (I : List D → List D → Hc → Prop) (step : ∀ d r acc h, I (d :: r) acc h → ∃ ρ1, asg t d ρ = some ρ1 ∧ wE (e ρ1 h) fun x h' => I r (acc ++ [x]) h') :
    ∀ (l acc : List D) (h : Hc), I l acc h → wE (cCompB t cYes e ρ l h) fun xs h' => I [] (acc ++ xs) h'
  | [], acc, h, i => by simpa [cCompB, wE_ok] using i
  | d :: r, acc, h, i => by
    obtain ⟨ρ1, e1, w⟩ := step d r acc h i
    obtain ⟨x, h', e2, i2⟩ := w.eq
    obtain ⟨xs, h3, e3, i3⟩ := (comp_inv I step r (acc ++ [x]) h' i2).eq
    refine wE.of (a := x :: xs) (h := h3) ?_ (by simpa using i3)
    simp only [cCompB, e1, cYes, Res.bind, e2, e3]
end
theorem q_cutT {x : CE} {lo hi : Option CE} {ρ : Rho} {h : Hc} : cCut x lo hi ρ h = (x ρ h).bind fun d h1 => (cPart lo ρ h1).bind fun l h2 => (cPart hi ρ h2).bind fun u h3 => (gSl d l u h3).res := id rfl
theorem q_pn {ρ : Rho} {h : Hc} : cPart none ρ h = .ok none h := id rfl
theorem q_ps {c : CE} {ρ : Rho} {h : Hc} : cPart (some c) ρ h = (c ρ h).bind fun e h2 => match e with | .int i => .ok (some i) h2 | _ => .stuck := id rfl
theorem q_slT {ds : List D} {l u : Option Int} {h : Hc} : gSl (.tup ds) l u h = some (.tup (cutD ds l u), h) := id rfl
theorem isi_int {i : Int} {h : Hc} : gIsi [.int i, .ty "int"] h = some (.bl true, h) := by simp [gIsi, tyOf, isiB]
theorem isi_intb {i : Int} {h : Hc} : gIsi [.int i, .ty "bool"] h = some (.bl false, h) := by simp [gIsi, tyOf, isiB]
theorem isi_tup {ds : List D} {h : Hc} : gIsi [.tup ds, .ty "tuple"] h = some (.bl true, h) := by simp [gIsi, tyOf, isiB]
theorem q_itR1 {a : CE} {ρ : Rho} {h h1 : Hc} {n : Nat} (e : a ρ h = .ok (.int (n : Nat)) h1) (hn : n ≤ 1000) : cItR1 a ρ h = .ok ((List.range n).map fun (i : Nat) => .int (i : Int), []) h1 := by
  unfold cItR1
  have c : (decide (-(2 ^ 62) ≤ ((n : Nat) : Int)) && decide (((n : Nat) : Int) < 2 ^ 62)) = true := by simp only [Bool.and_eq_true, decide_eq_true_eq]; omega
  simp only [e, q_bok, c, if_true, Int.toNat_natCast, Int.zero_add]
theorem q_itR2 {a b : CE} {ρ : Rho} {h h1 h2 : Hc} {i j : Int} (e : a ρ h = .ok (.int i) h1) (e2 : b ρ h1 = .ok (.int j) h2) (hi : -1000 ≤ i) (hi2 : i ≤ 1000) (hj : -1000 ≤ j) (hj2 : j ≤ 1000) :
    cItR2 a b ρ h = .ok ((List.range (j - i).toNat).map fun (k : Nat) => .int (i + (k : Int)), []) h2 := by
  unfold cItR2
  have c : (decide (-(2 ^ 62) ≤ i) && decide (i < 2 ^ 62) && (decide (-(2 ^ 62) ≤ j) && decide (j < 2 ^ 62))) = true := by simp only [Bool.and_eq_true, decide_eq_true_eq]; omega
  simp only [e, e2, q_bok, c, if_true]
theorem comp_w {t : TGT} {tt : CT} {e : CE} {ρ : Rho} {vs : List Nat} {ci : CI} {h h1 : Hc} {l : List D} {Q : List D → Hc → Prop} (e1 : ci ρ h = .ok (l, []) h1) (z : l.length < sizeLine) (w : wE (cCompB t tt e (wipeD ρ vs) l h1) Q) :
    ∃ (xs : List D) (h2 : Hc), cComp vs ci t tt e ρ h = .ok (.ref h2.length) (h2 ++ [(false, .lst xs)]) ∧ Q xs h2 := by
  obtain ⟨xs, h2, e2, k⟩ := w.eq
  exact ⟨xs, h2, q_comp e1 z e2, k⟩
theorem q_mulR {h : Hc} {n k : Nat} {f : Bool} {ds : List D} (e : h[n]? = some (f, .lst ds)) (hk : k ≤ 1000) (z : ds.length ≤ 1000) : gMul (.ref n) (.int (k : Nat)) h = some (.ref h.length, h ++ [(false, .lst (repD k ds))]) := by
  have c : (decide (-(2 ^ 63) ≤ ((k : Nat) : Int)) && decide (((k : Nat) : Int) < 2 ^ 63) && decide (ds.length * ((k : Nat) : Int).toNat ≤ sizeLine)) = true := by
    have h1 : ds.length * k ≤ 1000 * 1000 := Nat.mul_le_mul z hk
    have h2 : (1000 * 1000 : Nat) ≤ sizeLine := by decide
    simp only [Bool.and_eq_true, decide_eq_true_eq, Int.toNat_natCast]
    omega
  simp only [gMul, e, c, if_true]
theorem set_same : ∀ (h : Hc) (n : Nat) (p : Bool × O), h[n]? = some p → h.set n p = h
  | [], _, _, e => by simp at e
  | x :: h, 0, p, e => by simp at e; simp [e]
  | x :: h, n + 1, p, e => by
    simp only [List.getElem?_cons_succ] at e
    simp only [List.set_cons_succ, set_same h n p e]
theorem lck1 {h : Hc} {w : Nat} {p : Bool × O} (e : h[w]? = some p) : lckL [w] h = h.set w (true, p.2) := by simp only [lckL, lock1, e]
theorem lck1_ne {h : Hc} {w i : Nat} {p : Bool × O} (e : h[w]? = some p) (ne : i ≠ w) : (lckL [w] h)[i]? = h[i]? := by rw [lck1 e]; exact List.getElem?_set_ne (Ne.symm ne)
theorem ulk_lck {h : Hc} {w : Nat} {p : Bool × O} (e : h[w]? = some p) : ulkL h [w] (lckL [w] h) = h := by
  rw [lck1 e]
  simp only [ulkL, e, List.set_set]
  exact set_same h w p e
theorem q_compR {t : TGT} {tt : CT} {e : CE} {ρ : Rho} {vs : List Nat} {ci : CI} {h : Hc} {l xs : List D} {w : Nat} {p : Bool × O} (hw : h[w]? = some p) (e1 : ci ρ h = .ok (l, [w]) h) (z : l.length < sizeLine) (e2 : cCompB t tt e (wipeD ρ vs) l (lckL [w] h) = .ok xs (lckL [w] h)) :
    cComp vs ci t tt e ρ h = .ok (.ref h.length) (h ++ [(false, .lst xs)]) := by
  unfold cComp
  rw [e1]
  show (if decide (l.length < sizeLine) = true then _ else _) = _
  rw [if_pos (by simpa using z)]
  show (Res.bind (ulkR h [w] (noX (cCompB t tt e (wipeD ρ vs) l (lckL [w] h)))) _) = _
  rw [e2]
  show Res.ok (D.ref (ulkL h [w] (lckL [w] h)).length) (ulkL h [w] (lckL [w] h) ++ _) = _
  rw [ulk_lck hw]
theorem seqL_r {h : Hc} {w : Nat} {f : Bool} {ds : List D} (e : h[w]? = some (f, .lst ds)) : seqL (.ref w) h = some (ds, [w]) := by simp only [seqL, e]
end Sx

set_option Elab.async false
set_option linter.all false
set_option maxRecDepth 100000
namespace Sx
open PySem
mutual
inductive PD : D → PyData → Prop
  | int (i : Int) : PD (.int i) (.int i)
  | str (s : Str) : PD (.str s) (.str s)
  | non : PD .non .none
  | tup {ds : List D} {ps : List PyData} : PDs ds ps → PD (.tup ds) (.tuple ps)
inductive PDs : List D → List PyData → Prop
  | nil : PDs [] []
  | cons {d : D} {p : PyData} {ds : List D} {ps : List PyData} : PD d p → PDs ds ps → PDs (d :: ds) (p :: ps)
end
mutual
theorem PD.eqv {x y : D} {p q : PyData} : PD x p → PD y q → (PyData.eqv p q = true ↔ x = y)
  | .int i, .int j => by rw [eqv_int]; simp
  | .int i, .str t => by simp [PyData.eqv]
  | .int i, .non => by simp [PyData.eqv]
  | .int i, .tup _ => by simp [PyData.eqv]
  | .str s, .int j => by simp [PyData.eqv]
  | .str s, .str t => by simp [PyData.eqv]
  | .str s, .non => by simp [PyData.eqv]
  | .str s, .tup _ => by simp [PyData.eqv]
  | .non, .int j => by simp [PyData.eqv]
  | .non, .str t => by simp [PyData.eqv]
  | .non, .non => by simp [PyData.eqv]
  | .non, .tup _ => by simp [PyData.eqv]
  | .tup a, .int j => by simp [PyData.eqv]
  | .tup a, .str t => by simp [PyData.eqv]
  | .tup a, .non => by simp [PyData.eqv]
  | .tup a, .tup b => by
    have := PDs.eqv a b
    simpa [PyData.eqv] using this
theorem PDs.eqv {xs ys : List D} {ps qs : List PyData} : PDs xs ps → PDs ys qs → (PyData.eqvAll ps qs = true ↔ xs = ys)
  | .nil, .nil => by simp [PyData.eqvAll]
  | .nil, .cons _ _ => by simp [PyData.eqvAll]
  | .cons _ _, .nil => by simp [PyData.eqvAll]
  | .cons a as, .cons b bs => by
    have h1 := PD.eqv a b
    have h2 := PDs.eqv as bs
    simp [PyData.eqvAll, h1, h2]
end
def pu : Nat → D → Bool
  | _, .int _ => true
  | _, .str s => PyData.strOk s
  | _, .non => true
  | n + 1, .tup ds => ds.all (pu n)
  | _, _ => false
theorem pu_PD : ∀ (n : Nat) (d : D), pu n d = true → ∃ p : PyData, PD d p ∧ p.canLay0 = true ∧ p.depth ≤ n ∧ ∀ (h : Hc) (m : Nat), n ≤ m → toP h m d = some p := by
  intro n
  induction n with
  | zero =>
    intro d e
    cases d with
    | int i => exact ⟨_, .int i, by simp [PyData.canLay0], by simp [PyData.depth], fun h m _ => by cases m <;> rfl⟩
    | str i => exact ⟨_, .str i, by simpa [PyData.canLay0, pu] using e, by simp [PyData.depth], fun h m _ => by cases m <;> rfl⟩
    | non => exact ⟨_, .non, by simp [PyData.canLay0], by simp [PyData.depth], fun h m _ => by cases m <;> rfl⟩
    | _ => simp [pu] at e
  | succ n ih =>
    intro d e
    cases d with
    | int i => exact ⟨_, .int i, by simp [PyData.canLay0], by simp [PyData.depth], fun h m _ => by cases m <;> rfl⟩
    | str i => exact ⟨_, .str i, by simpa [PyData.canLay0, pu] using e, by simp [PyData.depth], fun h m _ => by cases m <;> rfl⟩
    | non => exact ⟨_, .non, by simp [PyData.canLay0], by simp [PyData.depth], fun h m _ => by cases m <;> rfl⟩
    | tup ds =>
      have key : ∀ l : List D, l.all (pu n) = true → ∃ ps, PDs l ps ∧ PyData.canLayAll0 ps = true ∧ PyData.depthAll ps ≤ n ∧ ∀ (h : Hc) (m : Nat), n ≤ m → mapO (toP h m) l = some ps := by
        intro l
        induction l with
        | nil => exact fun _ => ⟨[], .nil, by simp [PyData.canLayAll0], by simp [PyData.depthAll], fun h m _ => rfl⟩
        | cons d l il =>
          intro hl
          simp only [List.all_cons, Bool.and_eq_true] at hl
          obtain ⟨p, a1, a2, a3, a4⟩ := ih d hl.1
          obtain ⟨ps, b1, b2, b3, b4⟩ := il hl.2
          refine ⟨p :: ps, .cons a1 b1, by simp [PyData.canLayAll0, a2, b2], ?_, fun h m hm => by simp only [mapO, a4 h m hm, b4 h m hm]⟩
          simp only [PyData.depthAll]
          omega
      obtain ⟨ps, a1, a2, a3, a4⟩ := key ds (by simpa [pu] using e)
      refine ⟨.tuple ps, .tup a1, by simpa [PyData.canLay0] using a2, by simp only [PyData.depth]; omega, fun h m hm => ?_⟩
      obtain ⟨k, rfl⟩ : ∃ k, m = k + 1 := ⟨m - 1, by omega⟩
      simp only [toP, a4 h k (by omega)]
    | _ => simp [pu] at e
theorem pu_toS {d : D} (e : pu 9 d = true) : ∃ p : PyData, PD d p ∧ ∀ h : Hc, toS d h = some p := by
  obtain ⟨p, a, b, c, f⟩ := pu_PD 9 d e
  refine ⟨p, a, fun h => ?_⟩
  unfold toS
  rw [f h 9 (Nat.le_refl _)]
  have s : SeqAt.shaped p = true := by
    unfold SeqAt.shaped
    rw [b, Bool.true_and]
    exact decide_eq_true (by omega)
  simp only [s, if_true]
section
variable {x y : D} {h : Hc}
theorem eqD_pu (hx : pu 9 x = true) (hy : pu 9 y = true) : ∃ b : Bool, eqD x y h = some b ∧ (b = true ↔ x = y) := by
  obtain ⟨p, a, e⟩ := pu_toS hx
  obtain ⟨q, b, f⟩ := pu_toS hy
  exact ⟨PyData.eqv p q, by simp only [eqD, e h, f h], PD.eqv a b⟩
theorem q_eqS (hx : pu 9 x = true) : gEq x x h = some (.bl true, h) := by
  obtain ⟨b, e, f⟩ := eqD_pu (h := h) hx hx
  simp only [gEq, e, f.mpr rfl]
end
theorem pu_iL (n : Nat) : ∀ l : List Int, (iL l).all (pu n) = true
  | [] => rfl
  | i :: l => by
    have := pu_iL n l
    simp only [iL, List.map_cons, List.all_cons, pu, Bool.true_and] at this ⊢
    cases n <;> simpa [pu] using this
theorem pu_iT (n : Nat) (l : List Int) : pu (n + 1) (iT l) = true := by
  simpa only [iT, pu] using pu_iL n l
theorem wS_forR {ci : CI} {t : TGT} {b : CS} {ρ : Rho} {h h1 : Hc} {l : List D} {w : Nat} {p : Bool × O} {Q : Fl → Rho → Hc → Prop} (e : ci ρ h = .ok (l, [w]) h1) (hw : h1[w]? = some p)
    (k : wS (cForB t b l ρ (lckL [w] h1)) fun f ρ2 h2 => Q f ρ2 (h2.set w p)) : wS (cFor ci t b ρ h) Q := by
  obtain ⟨f, ρ2, h2, e2, q⟩ := k.eq
  refine wS.of (f := f) (ρ := ρ2) (h := h2.set w p) ?_ q
  unfold cFor
  rw [e]
  show ulkS h1 [w] (cForB t b l ρ (lckL [w] h1)) = _
  rw [e2]
  simp only [ulkS, ulkL, hw]
def Ap (h h' : Hc) : Prop := ∃ t, h' = h ++ t
theorem Ap.refl {h : Hc} : Ap h h := ⟨[], by simp⟩
theorem Ap.trans {h h1 h2 : Hc} (a : Ap h h1) (b : Ap h1 h2) : Ap h h2 := by
  obtain ⟨t, rfl⟩ := a
  obtain ⟨u, rfl⟩ := b
  exact ⟨t ++ u, by simp⟩
theorem Ap.app {h h1 : Hc} (a : Ap h h1) (l : Hc) : Ap h (h1 ++ l) := a.trans ⟨l, rfl⟩
theorem Ap.new {h : Hc} (l : Hc) : Ap h (h ++ l) := ⟨l, rfl⟩
theorem Ap.get {h h1 : Hc} {i : Nat} {p : Bool × O} (a : Ap h h1) (e : h[i]? = some p) : h1[i]? = some p := by
  obtain ⟨t, rfl⟩ := a
  rw [List.getElem?_append_left (List.getElem?_eq_some_iff.mp e).1]; exact e
theorem Ap.len {h h1 : Hc} (a : Ap h h1) : h.length ≤ h1.length := by
  obtain ⟨t, rfl⟩ := a
  rw [List.length_append]; omega
theorem Ap.put {h h1 : Hc} {i : Nat} (a : Ap h h1) (hi : h.length ≤ i) (p : Bool × O) : Ap h (h1.set i p) := by
  obtain ⟨t, rfl⟩ := a
  exact ⟨t.set (i - h.length) p, by rw [List.set_append_right _ _ hi]⟩
theorem cut_from {l : List D} {d : Nat} (hd : d ≤ l.length) : cutD l (some (d : Int)) none = l.drop d := by
  unfold cutD HT.sIx
  have h1 : ¬ (d : Int) < 0 := by omega
  simp only [h1, if_false]
  have m : min d l.length = d := Nat.min_eq_left hd
  simp [m]
  apply List.take_of_length_le
  simp
theorem q_popat {h : Hc} {n k : Nat} {ds : List D} {d : D} (e : h[n]? = some (false, .lst ds)) (hk : ds[k]? = some d) (z : k < 2 ^ 62) : gPopAt (.ref n) [.int (k : Nat)] h = some (d, h.set n (false, .lst (ds.eraseIdx k))) := by
  have hl := (List.getElem?_eq_some_iff.mp hk).1
  have c : (decide (-(2 ^ 63) ≤ ((k : Nat) : Int)) && decide (((k : Nat) : Int) < 2 ^ 63)) = true := by
    simp only [Bool.and_eq_true, decide_eq_true_eq]; omega
  have s : seqIndex? ((k : Nat) : Int) ds.length = some k := by
    unfold seqIndex?
    simp
    omega
  simp only [gPopAt, wrL, e, c, if_true, s, hk]
theorem erase_map (l : List Int) (i : Nat) : (iL l).eraseIdx i = iL (l.eraseIdx i) := by
  simp only [iL]
  induction l generalizing i with
  | nil => rfl
  | cons x l ih => cases i with
    | zero => rfl
    | succ i => simp [ih]
theorem pus_toS {ds : List D} {h : Hc} {n : Nat} {f : Bool} (e : h[n]? = some (f, .lst ds)) (p : ds.all (pu 8) = true) : ∃ ps, PDs ds ps ∧ toS (.ref n) h = some (.list ps) := by
  obtain ⟨q, a, b, c, k⟩ := pu_PD 9 (.tup ds) (by simpa [pu] using p)
  cases a with
  | tup a =>
    rename_i ps
    refine ⟨ps, a, ?_⟩
    have k9 := k h 9 (Nat.le_refl _)
    simp only [toP] at k9
    cases em : mapO (toP h 8) ds with
    | none => rw [em] at k9; cases k9
    | some qs =>
      rw [em] at k9
      cases k9
      have s : SeqAt.shaped (.list ps) = true := by
        unfold SeqAt.shaped
        simp only [PyData.canLay0, PyData.depth] at b c ⊢
        rw [b, Bool.true_and]
        exact decide_eq_true (by omega)
      unfold toS
      simp only [toP, e, em, s, if_true]
section
variable {ds es : List D} {h : Hc} {n m : Nat} {f g : Bool}
theorem eqD_refs (e1 : h[n]? = some (f, .lst ds)) (e2 : h[m]? = some (g, .lst es)) (p : ds.all (pu 8) = true) (q : es.all (pu 8) = true) : ∃ b : Bool, eqD (.ref n) (.ref m) h = some b ∧ (b = true ↔ ds = es) := by
  obtain ⟨ps, a, k1⟩ := pus_toS e1 p
  obtain ⟨qs, b, k2⟩ := pus_toS e2 q
  refine ⟨PyData.eqv (.list ps) (.list qs), by simp only [eqD, k1, k2], ?_⟩
  have := PDs.eqv a b
  simpa [PyData.eqv] using this
theorem q_eqRS (e1 : h[n]? = some (f, .lst ds)) (e2 : h[m]? = some (g, .lst ds)) (p : ds.all (pu 8) = true) : gEq (.ref n) (.ref m) h = some (.bl true, h) := by
  obtain ⟨b, e, k⟩ := eqD_refs e1 e2 p p
  simp only [gEq, e, k.mpr rfl]
theorem q_eqRN (e1 : h[n]? = some (f, .lst ds)) (e2 : h[m]? = some (g, .lst es)) (p : ds.all (pu 8) = true) (q : es.all (pu 8) = true) (ne : ds ≠ es) : gEq (.ref n) (.ref m) h = some (.bl false, h) := by
  obtain ⟨b, e, k⟩ := eqD_refs e1 e2 p q
  have : b = false := by
    cases b with
    | false => rfl
    | true => exact absurd (k.mp rfl) ne
  simp only [gEq, e, this]
end
end Sx

set_option Elab.async false
set_option linter.all false
set_option maxRecDepth 100000
namespace Sx
open PySem PySem.Spec PyProof.Rows L2
def intsV : List Value → Option (List Int)
  | [] => some []
  | .int i _ :: r => match intsV r with | some l => some (i :: l) | none => none
  | _ => none
structure ConT (K : PySem.W.Frag) (mg : Str → Option Value) (x : Str) (is : List Int) : Prop where
  has : ∃ (A : Addr) (o : Obj) (its : Array Value) (n : Nat), mg x = some (.ref A) ∧ K.lookup A = some o ∧ o.cls = .type "tuple" ∧ o.dict = none ∧ o.data = .seq its n ∧ its.size ≤ sizeLine ∧ intsV its.toList = some is
end Sx

set_option Elab.async false
set_option linter.all false
set_option maxRecDepth 100000
namespace Sx
open PySem PySem.Spec PyProof.Rows L2
abbrev KD := List (L2.Key × D)
def keyD : D → Option L2.Key
  | .int i => some (.inl i)
  | .str s => some (.inr s)
  | _ => none
def dGet : KD → L2.Key → Option D
  | [], _ => none
  | (j, d) :: r, k => if j = k then some d else dGet r k
def dHas : KD → L2.Key → Bool
  | [], _ => false
  | (j, _) :: r, k => decide (j = k) || dHas r k
def dPut (l : KD) (k : L2.Key) (d : D) : KD := if dHas l k = true then l.map fun kv => if kv.1 = k then (kv.1, d) else kv else l ++ [(k, d)]
def dDrop : KD → L2.Key → KD
  | [], _ => []
  | (j, d) :: r, k => if j = k then dDrop r k else (j, d) :: dDrop r k
section
variable {W : Wb} {μ : List Addr} {h : Hc} {H : Hp}
def RKs (W : Wb) (μ : List Addr) (H : Hp) : KD → List (L2.Key × V) → Prop
  | [], l => l = []
  | (k, d) :: r, l => ∃ v t, l = (k, v) :: t ∧ RD W μ H d v ∧ RKs W μ H r t
theorem RKs.of : ∀ {l : KD} {vs : List V}, RDs W μ H (l.map (·.2)) vs → RKs W μ H l ((l.map (·.1)).zip vs)
  | [], vs, r => by simp [RKs]
  | (k, d) :: l, vs, r => by
    simp only [List.map_cons, RDs] at r
    obtain ⟨v, t, rfl, r1, r2⟩ := r
    exact ⟨v, _, rfl, r1, RKs.of r2⟩
theorem RKs.to : ∀ {l : KD} {kv : List (L2.Key × V)}, RKs W μ H l kv → ∃ vs, kv = (l.map (·.1)).zip vs ∧ RDs W μ H (l.map (·.2)) vs
  | [], kv, r => ⟨[], by simpa [RKs] using r, by simp [RDs]⟩
  | (k, d) :: l, kv, r => by
    obtain ⟨v, t, rfl, r1, r2⟩ := r
    obtain ⟨vs, e, q⟩ := RKs.to r2
    exact ⟨v :: vs, by rw [e]; rfl, RDs.cons r1 q⟩
theorem RKs.len : ∀ {l : KD} {kv : List (L2.Key × V)}, RKs W μ H l kv → kv.length = l.length
  | [], kv, r => by have r : kv = [] := r; rw [r]; rfl
  | (k, d) :: l, kv, r => by
    obtain ⟨v, t, rfl, r1, r2⟩ := r
    simp [RKs.len r2]
theorem RKs.get : ∀ {l : KD} {kv : List (L2.Key × V)} {k : L2.Key}, RKs W μ H l kv → (∀ d, dGet l k = some d → ∃ v, valV kv k = some v ∧ RD W μ H d v) ∧ (dGet l k = none → valV kv k = none)
  | [], kv, k, r => by
    have r : kv = [] := r
    subst r
    exact ⟨fun d e => (by cases e), fun _ => rfl⟩
  | (j, d) :: l, kv, k, r => by
    obtain ⟨v, t, rfl, r1, r2⟩ := r
    obtain ⟨g1, g2⟩ := RKs.get (k := k) r2
    by_cases c : j = k
    · refine ⟨fun d' e => ⟨v, ?_, ?_⟩, fun e => ?_⟩
      · simp [valV, c]
      · simp only [dGet, if_pos c] at e; cases e; exact r1
      · simp only [dGet, if_pos c] at e; cases e
    · have ev : valV ((j, v) :: t) k = valV t k := by simp [valV, List.find?_cons, c]
      refine ⟨fun d' e => ?_, fun e => ?_⟩
      · simp only [dGet, if_neg c] at e
        rw [ev]; exact g1 d' e
      · simp only [dGet, if_neg c] at e
        rw [ev]; exact g2 e
theorem RKs.has : ∀ {l : KD} {kv : List (L2.Key × V)} {k : L2.Key}, RKs W μ H l kv → (kv.any fun p => decide (p.1 = k)) = dHas l k
  | [], kv, k, r => by have r : kv = [] := r; subst r; rfl
  | (j, d) :: l, kv, k, r => by
    obtain ⟨v, t, rfl, r1, r2⟩ := r
    simp only [List.any_cons, dHas, RKs.has (k := k) r2]
theorem RKs.app : ∀ {l m : KD} {kv kw : List (L2.Key × V)}, RKs W μ H l kv → RKs W μ H m kw → RKs W μ H (l ++ m) (kv ++ kw)
  | [], m, kv, kw, r, q => by have r : kv = [] := r; subst r; exact q
  | (j, d) :: l, m, kv, kw, r, q => by
    obtain ⟨v, t, rfl, r1, r2⟩ := r
    exact ⟨v, _, rfl, r1, RKs.app r2 q⟩
theorem RKs.mapped {k : L2.Key} {d : D} {v : V} (rd : RD W μ H d v) : ∀ {l : KD} {kv : List (L2.Key × V)}, RKs W μ H l kv → RKs W μ H (l.map fun p => if p.1 = k then (p.1, d) else p) (kv.map fun p => if p.1 = k then (p.1, v) else p)
  | [], kv, r => by have r : kv = [] := r; subst r; exact rfl
  | (j, e) :: l, kv, r => by
    obtain ⟨w, t, rfl, r1, r2⟩ := r
    simp only [List.map_cons]
    by_cases c : j = k
    · simp only [if_pos c]; exact ⟨v, _, rfl, rd, RKs.mapped rd r2⟩
    · simp only [if_neg c]; exact ⟨w, _, rfl, r1, RKs.mapped rd r2⟩
theorem RKs.put {l : KD} {kv : List (L2.Key × V)} {k : L2.Key} {d : D} {v : V} (r : RKs W μ H l kv) (rd : RD W μ H d v) : RKs W μ H (dPut l k d) (putK kv k v) := by
  unfold dPut putK
  rw [RKs.has r]
  split
  · exact RKs.mapped rd r
  · exact RKs.app r ⟨v, [], rfl, rd, rfl⟩
theorem RKs.drop : ∀ {l : KD} {kv : List (L2.Key × V)} {k : L2.Key}, RKs W μ H l kv → RKs W μ H (dDrop l k) (dropK kv k)
  | [], kv, k, r => by have r : kv = [] := r; subst r; exact rfl
  | (j, d) :: l, kv, k, r => by
    obtain ⟨v, t, rfl, r1, r2⟩ := r
    have ih := RKs.drop (k := k) r2
    unfold dropK at ih ⊢
    by_cases c : j = k
    · simp only [dDrop, if_pos c, List.filter_cons, c, ne_eq, not_true_eq_false, decide_false, Bool.false_eq_true, if_false]
      exact ih
    · simp only [dDrop, if_neg c, List.filter_cons, ne_eq, c, not_false_eq_true, decide_true, if_true]
      exact ⟨v, _, rfl, r1, ih⟩
theorem key_ok {d : D} {v : V} {k : L2.Key} (r : RD W μ H d v) (e : keyD d = some k) : v = kV k := by
  cases d with
  | int i => simp only [RD] at r; cases e; exact r
  | str i => simp only [RD] at r; cases e; exact r
  | _ => cases e
theorem R.dk (x : R W μ h H) {n : Nat} {v : V} {f : Bool} {l : KD} (r : RD W μ H (.ref n) v) (e : h[n]? = some (f, .dic l)) : ∃ a kv, v = .ref a ∧ μ[n]? = some a ∧ Rd H a (.dK kv) ∧ RKs W μ H l kv := by
  simp only [RD] at r
  obtain ⟨a, e1, rfl⟩ := r
  obtain ⟨vs, e2, e3⟩ := x.ob n a _ e1 e
  refine ⟨a, _, rfl, e1, ?_, RKs.of e3⟩
  rcases e2 with e2 | ⟨_, e2⟩
  · exact .inl e2
  · exact .inr e2
theorem R.dkw (x : R W μ h H) {n : Nat} {v : V} {l : KD} (r : RD W μ H (.ref n) v) (e : h[n]? = some (false, .dic l)) : ∃ a kv, v = .ref a ∧ μ[n]? = some a ∧ H a = some (.dK kv) ∧ RKs W μ H l kv := by
  simp only [RD] at r
  obtain ⟨a, e1, rfl⟩ := r
  obtain ⟨vs, e2, e3⟩ := x.ob n a _ e1 e
  refine ⟨a, _, rfl, e1, ?_, RKs.of e3⟩
  rcases e2 with e2 | ⟨z, _⟩
  · exact e2
  · cases z
end
section
variable {W : Wd} {Wx : WX} {μ : List Addr} {h : Hc} {H : Hp} {Q : V → Hp → Prop}
theorem kO.dic {l : KD} {kv : List (L2.Key × V)} (k : kO W μ h H Q (some (.ref h.length, h ++ [(false, .dic l)]))) (x : R W μ h H) (r : RKs W μ H l kv) {p : Addr} (hp : H p = none) : Q (.ref p) (upd H p (.dK kv)) := by
  obtain ⟨vs, rfl, r'⟩ := r.to
  obtain ⟨a, b⟩ := x.dic hp r'
  refine k _ _ _ a b ?_
  simp only [RD]
  exact ⟨p, by rw [← x.len]; simp, rfl⟩
theorem kO.putD {l : KD} {kv : List (L2.Key × V)} {n : Nat} {a : Addr} {o : O} {d : D} {v : V} (k : kO W μ h H Q (some (d, h.set n (false, .dic l)))) (x : R W μ h H) (e : μ[n]? = some a) (e2 : h[n]? = some (false, o)) (r : RKs W μ H l kv) (rd : RD W μ H d v) : Q v (upd H a (.dK kv)) := by
  obtain ⟨vs, rfl, r'⟩ := r.to
  obtain ⟨y, b⟩ := x.putD e e2 r'
  exact k _ _ _ y b (RD.ext b x d v rd)
end
def cDic0 : CE := fun _ h => .ok (.ref h.length) (h ++ [(false, .dic [])])
section
variable {X : Cx} {Wx : WX} {a b e o i : Expr} {ca cb ce co ci : CE} {pos tpos apos cpos : Pos}
theorem s_dic0 : SE X Wx (.Dict [] [] pos) cDic0 := by
  refine pe_mono pe_dnewK fun σ H Q ⟨μ, ρ, h, r, rs, k⟩ => ?_
  intro p hp
  have k : kO (wd X) μ h H Q (some (.ref h.length, h ++ [(false, .dic [])])) := kO.of k
  exact kO.dic k r (l := []) (kv := []) rfl hp
end
end Sx

set_option Elab.async false
set_option linter.all false
set_option maxRecDepth 100000
namespace Sx
open PySem PySem.Spec PyProof.Rows L2
section
variable {X : Cx} {Wx : WX} {a b e o i : Expr} {ca cb ce co ci : CE} {pos tpos apos cpos : Pos}
def insI (x : Int) : List Int → List Int
  | [] => [x]
  | y :: l => if x ≤ y then x :: y :: l else y :: insI x l
def sortI : List Int → List Int
  | [] => []
  | x :: l => insI x (sortI l)
theorem insI_perm (x : Int) : ∀ l : List Int, (insI x l).Perm (x :: l)
  | [] => List.Perm.refl _
  | y :: l => by
    unfold insI
    split
    · exact List.Perm.refl _
    · exact ((insI_perm x l).cons y).trans (List.Perm.swap _ _ _)
theorem sortI_perm : ∀ l : List Int, (sortI l).Perm l
  | [] => List.Perm.refl _
  | x :: l => (insI_perm x _).trans ((sortI_perm l).cons x)
theorem insI_sorted (x : Int) : ∀ l : List Int, l.Pairwise (· ≤ ·) → (insI x l).Pairwise (· ≤ ·)
  | [], _ => by simp [insI]
  | y :: l, h => by
    unfold insI
    have h' := List.pairwise_cons.mp h
    split
    · rename_i c
      refine List.pairwise_cons.mpr ⟨fun z hz => ?_, h⟩
      rcases List.mem_cons.mp hz with rfl | hz
      · exact c
      · exact Int.le_trans c (h'.1 z hz)
    · rename_i c
      refine List.pairwise_cons.mpr ⟨fun z hz => ?_, insI_sorted x l h'.2⟩
      rcases List.mem_cons.mp ((insI_perm x l).mem_iff.mp hz) with rfl | hz
      · omega
      · exact h'.1 z hz
theorem sortI_sorted : ∀ l : List Int, (sortI l).Pairwise (· ≤ ·)
  | [] => List.Pairwise.nil
  | x :: l => insI_sorted x _ (sortI_sorted l)
theorem sorted_uniq : ∀ {a b : List Int}, a.Perm b → a.Pairwise (· ≤ ·) → b.Pairwise (· ≤ ·) → a = b
  | [], b, p, _, _ => (List.nil_perm.mp p).symm
  | x :: a, [], p, _, _ => by simp at p
  | x :: a, y :: b, p, h1, h2 => by
    have h1' := List.pairwise_cons.mp h1
    have h2' := List.pairwise_cons.mp h2
    have m1 : x ∈ y :: b := p.mem_iff.mp (by simp)
    have m2 : y ∈ x :: a := p.mem_iff.mpr (by simp)
    have e : x = y := by
      rcases List.mem_cons.mp m1 with z | z
      · exact z
      · rcases List.mem_cons.mp m2 with w | w
        · exact w.symm
        · exact Int.le_antisymm (h1'.1 y w) (h2'.1 x z)
    subst e
    rw [sorted_uniq (List.Perm.cons_inv p) h1'.2 h2'.2]
theorem sortI_uniq {ys l : List Int} (p : ys.Perm l) (s : ys.Pairwise (· ≤ ·)) : ys = sortI l := sorted_uniq (p.trans (sortI_perm l).symm) s (sortI_sorted l)
def keysI : KD → Option (List Int)
  | [] => some []
  | (.inl i, _) :: r => match keysI r with | some l => some (i :: l) | none => none
  | _ :: _ => none
def gSorted : GL := fun xs h => match xs with
  | [.ref n] => match h[n]? with
    | some (_, .dic l) => match keysI l with
      | some ks => if ks.length < 64 then some (.ref h.length, h ++ [(false, .lst ((sortI ks).map D.int))]) else none
      | _ => none
    | some (_, .lst ds) => match intsOf ds with
      | some ns => some (.ref h.length, h ++ [(false, .lst ((sortI ns).map D.int))])
      | _ => none
    | _ => none
  | _ => none
theorem keysI_ok {W : Wb} {μ : List Addr} {H : Hp} : ∀ {l : KD} {kv : List (L2.Key × V)} {ks : List Int}, RKs W μ H l kv → keysI l = some ks → kv.map (·.1) = ks.map Sum.inl
  | [], kv, ks, r, e => by have r : kv = [] := r; subst r; cases e; rfl
  | (.inl i, d) :: l, kv, ks, r, e => by
    obtain ⟨v, t, rfl, r1, r2⟩ := r
    simp only [keysI] at e
    cases q : keysI l with
    | none => rw [q] at e; cases e
    | some m =>
      rw [q] at e
      cases e
      simp [keysI_ok r2 q]
  | (.inr i, d) :: l, kv, ks, r, e => by cases e
theorem k_sorted (hc : X.calm = true) : CallR X (.builtin "sorted") (lVs (wd X) gSorted) := by
  intro pins s σ H xs us Q I r k
  obtain ⟨μ, h, ds, x, rs, k⟩ := k
  unfold gSorted at k
  split at k
  · rename_i n
    obtain ⟨v, rfl, rd⟩ := rds1 rs
    split at k
    · rename_i f l e
      split at k
      · rename_i ks ek
        split at k
        · rename_i hz
          obtain ⟨a, kv, rfl, e1, e2, rk⟩ := x.dk rd e
          exact call_sortedDI hc pins s σ H _ us Q I r ⟨a, kv, ks, rfl, e2, keysI_ok rk ek, hz, fun ys p pm st hp => by
            rw [sortI_uniq pm st]
            exact k.lst x (RDs.ints _) hp⟩
        · exact False.elim k
      · exact False.elim k
    · rename_i f es e
      split at k
      · rename_i ns en
        simp only [RD] at rd
        obtain ⟨a, e1, rfl⟩ := rd
        obtain ⟨vs, e2, e3⟩ := x.ob n a _ e1 e
        obtain ⟨rfl, _⟩ := intsOf_ok e3 en
        exact cr_sortedI pins s σ H _ us Q I r ⟨a, ns, rfl, SqL.of e2, fun ys p pm st hp => by
          rw [sortI_uniq pm st]
          exact k.lst x (RDs.ints _) hp⟩
      · exact False.elim k
    · exact False.elim k
  · exact False.elim k
end
end Sx

set_option Elab.async false
set_option linter.all false
set_option maxRecDepth 100000
namespace Sx
open PySem PySem.Spec PyProof.Rows L2
def kC2 (W : Wd) (μ1 : List Addr) (h1 : Hc) (H1 : Hp) (p : Addr) (Q : V → Hp → Prop) : Res (List D) → Prop
  | .ok xs h3 => xs.length < sizeLine ∧ kC W μ1 h1 H1 p Q (.ok xs h3)
  | _ => False
def er (p : Addr) (H : Hp) : Hp := fun a => if a = p then none else H a
theorem er_ne {p a : Addr} {H : Hp} (h : a ≠ p) : er p H a = H a := if_neg h
theorem er_le {p a : Addr} {H : Hp} {o : HO} (e : er p H a = some o) : H a = some o := by
  unfold er at e
  split at e
  · cases e
  · exact e
section
variable {W : Wb} {μ : List Addr} {h : Hc} {H : Hp} {p : Addr} {ws : List V}
theorem er_keep (hp : H p = some (.lst ws)) {a : Addr} {o : HO} (e : H a = some o) (hm : ∀ zs, o ≠ .lst zs) : er p H a = some o := by
  rw [er_ne]
  · exact e
  · rintro rfl
    rw [hp] at e
    injection e with e
    exact hm _ e.symm
mutual
theorem RD.er (hp : H p = some (.lst ws)) : ∀ (d : D) (v : V), RD W μ H d v → RD W μ (er p H) d v
  | .non, v, e => by simpa only [RD] using e
  | .bl _, v, e => by simpa only [RD] using e
  | .int _, v, e => by simpa only [RD] using e
  | .str _, v, e => by simpa only [RD] using e
  | .tup ds, v, e => by
    simp only [RD] at e ⊢
    obtain ⟨a, vs, e1, e2, e3⟩ := e
    refine ⟨a, vs, e1, ?_, RDs.er hp ds vs e3⟩
    rcases e2 with ⟨o, e2, dd⟩ | e2
    · exact .inl ⟨o, er_keep hp e2 (fun _ z => by cases z), dd⟩
    · exact .inr e2
  | .ref n, v, e => by simpa only [RD] using e
  | .flst ds, v, e => by
    simp only [RD] at e ⊢
    obtain ⟨a, vs, e1, e2, e3⟩ := e
    refine ⟨a, vs, e1, ?_, RDs.er hp ds vs e3⟩
    rcases e2 with ⟨o, e2⟩ | e2
    · exact .inl ⟨o, er_keep hp e2 (fun _ z => by cases z)⟩
    · exact .inr e2
  | .obj c ns ds, v, e => by
    simp only [RD] at e ⊢
    obtain ⟨a, C, dx, vs, e1, e2, e3, e4, e5⟩ := e
    exact ⟨a, C, dx, vs, e1, e2, er_keep hp e3 (fun _ z => by cases z), e4, RDs.er hp ds vs e5⟩
  | .ty _, v, e => by simpa only [RD] using e
  | .gl _, v, e => by simpa only [RD] using e
  | .err _ _, v, e => by simp only [RD] at e
  | .clo f c q vs ds, v, e => by
    simp only [RD] at e ⊢
    obtain ⟨e1, e2, e3⟩ := e
    exact ⟨e1, er_keep hp e2 (fun _ z => by unfold LamX.CodeO at z; cases z), RDs.er hp ds vs e3⟩
theorem RDs.er (hp : H p = some (.lst ws)) : ∀ (ds : List D) (vs : List V), RDs W μ H ds vs → RDs W μ (er p H) ds vs
  | [], vs, e => by simpa only [RDs] using e
  | d :: ds, vs, e => by
    simp only [RDs] at e ⊢
    obtain ⟨v, r, e1, e2, e3⟩ := e
    exact ⟨v, r, e1, RD.er hp d v e2, RDs.er hp ds r e3⟩
end
theorem R.er (x : R W μ h H) (hp : H p = some (.lst ws)) (hn : p ∉ μ) : R W μ h (er p H) := by
  refine ⟨x.len, x.nd, fun n a q e1 e2 => ?_⟩
  have na : a ≠ p := fun z => hn (z ▸ List.mem_of_getElem? e1)
  have r := x.ob n a q e1 e2
  obtain ⟨f, o⟩ := q
  cases o with
  | lst ds =>
    obtain ⟨vs, r1, r2⟩ := r
    exact ⟨vs, by rw [er_ne na]; exact r1, RDs.er hp ds vs r2⟩
  | dic kvs =>
    obtain ⟨vs, r1, r2⟩ := r
    exact ⟨vs, by rw [er_ne na]; exact r1, RDs.er hp _ vs r2⟩
  | tab y q =>
    obtain ⟨ps, r1, r2, r3⟩ := r
    refine ⟨ps, by rw [er_ne na]; exact r1, r2, fun pos cv z => ?_⟩
    obtain ⟨c, z1, z2⟩ := r3 pos cv z
    exact ⟨c, z1, er_keep hp z2 (fun _ z => by unfold LamX.CodeO at z; cases z)⟩
  | dcd kvs => exact r.keepD (er_ne na) (fun d v => RD.er hp d v)
  | dif kvs => exact r.keepF (er_ne na) (fun d v => RD.er hp d v)
theorem Ext.er {μ1 : List Addr} {h1 : Hc} {H1 : Hp} (E : Ext μ h H μ1 h1 H1) (hp : H p = none) : Ext μ h H μ1 h1 (er p H1) :=
  ⟨E.pre, fun a o e k => by
    rw [er_ne (ne_of_none e hp)]
    exact E.frame a o e k, fun a z => by
    rw [er_ne (fun q => z (by rw [q]; exact hp))]
    exact E.dom a z, E.hc⟩
theorem SqL.er {K : PySem.W.Frag} {a : Addr} {xs : List V} (h : SqL K (er p H) a xs) : SqL K H a xs := by
  rcases h with (h | ⟨o, h⟩) | h
  · exact .inl (.inl (er_le h))
  · exact .inl (.inr ⟨o, er_le h⟩)
  · exact .inr h
theorem SqT.er {K : PySem.W.Frag} {a : Addr} {xs : List V} (h : SqT K (er p H) a xs) : SqT K H a xs := by
  rcases h with (h | ⟨o, h⟩) | h
  · exact .inl (.inl (er_le h))
  · exact .inl (.inr ⟨o, er_le h⟩)
  · exact .inr h
end
section
variable {X : Cx} {Wx : WX} {tg it elt tg1 it1 : Expr} {ifs ifs1 : List Expr} {tp : Bool} {ci : CI} {ci1 : CE} {t t1 : TGT} {tt tt1 : CT} {ce : CE} {scope : Scope} {own : List (Str × Nat)} {vs1 : List Nat} {pos : Pos}
theorem kC2.start {μ μ1 : List Addr} {h h1 : Hc} {H H1 : Hp} {σ : L2.St} {Q : V → Hp → Prop} {ls : List Nat} {p : Addr} {r : Res (List D)} {W : Wd} (x : R W μ h H) (x1 : R W μ1 h1 H1) (E : Ext μ h H μ1 h1 H1) (hp : H1 p = none)
    (k : kR (RD W) W Wx μ h H σ Q ((ulkR h1 ls (noX r)).bind fun xs h2 => if decide (xs.length < sizeLine) then .ok (.ref h2.length) (h2 ++ [(false, .lst xs)]) else .stuck)) : kC2 W μ1 (lckL ls h1) H1 p Q (preR [] r) := by
  cases r with
  | ok xs h3 =>
    have k : kR (RD W) W Wx μ h H σ Q (if decide (xs.length < sizeLine) then .ok (.ref (ulkL h1 ls h3).length) ((ulkL h1 ls h3) ++ [(false, .lst xs)]) else .stuck) := k
    by_cases c : xs.length < sizeLine
    · rw [if_pos (decide_eq_true c)] at k
      exact ⟨by simpa using c, kC.start (r := .ok xs h3) (Wx := Wx) (σ := σ) x x1 E hp k⟩
    · rw [if_neg (by simpa using c)] at k
      exact False.elim k
  | exn c x h => exact False.elim k
  | stuck => exact False.elim k
end
end Sx

set_option Elab.async false
set_option linter.all false
set_option maxRecDepth 100000
namespace Sx
open PySem PySem.Spec PySem.Calls PyProof.Rows PySem.W
section
variable {prog : Program} {w : World} {A : Around} {E : Value → Shared → Prop} {s : Shared}
theorem collect_tup {l : Addr} {vs : List Value} {Q : List Value → Shared → Prop} (hl : IsTup s.heap l vs.toArray)
    (h : Q vs { s with heap := (s.heap.push (seqObj "list" #[] 0)).update s.heap.objs.size (Obj.mapSeq (· ++ vs.toArray)) }) (hsz : vs.length ≤ sizeLine) :
    wpAny (model prog w) A (collect (.ref l)) Q E s := by
  obtain ⟨o, ho, hc, n, hd⟩ := id hl
  unfold collect
  refine wpAny_bind (wpAny_runValue (codeAny_builtin entry_proto_collect' ?_))
  show wpAny _ _ (do again (.builtin "list.__iadd__" ⟨[← newList [], .ref l], []⟩)) _ _ s
  refine wpAny_bind (wpAny_newList (wpAny_pure ⟨Code.quiet_builtin _ (by decide +kernel), codeAny_builtin entry_list_iadd' ?_⟩))
  show wpAny _ _ (Builtin.List.listExtendWith (.ref s.heap.objs.size) (.ref l) (.ref s.heap.objs.size)) _ _ { s with heap := s.heap.push (seqObj "list" #[] 0) }
  unfold Builtin.List.listExtendWith
  have ho' : (s.heap.push (seqObj "list" #[] 0)).get? l = some o := Heap.get?_push_of_some _ ho
  refine wpAny_bind (wpAny_typeOf (T := "tuple") ⟨o, ho', hc⟩ ?_)
  have ht : (Value.type "tuple" == Value.type "tuple") = true := by rfl
  rw [if_pos (by rw [ht]; simp)]
  refine wpAny_bind (listItems_at ho' hd ?_)
  refine wpAny_bind (listItems_at (xs := #[]) (n := 0) (Heap.get?_push_size _ rfl) rfl ?_)
  rw [if_neg (by simp)]
  refine wpAny_bind (listUpdate_at (xs := #[]) (n := 0) (Heap.get?_push_size _ rfl) rfl ?_ (Nat.zero_le _) (by show (#[] ++ vs.toArray).size ≤ sizeLine + 1; simp only [Array.size_append, List.size_toArray, List.length_nil]; omega))
  refine wpAny_pure ?_
  show wpAny (model prog w) A (do
      let o ← load s.heap.objs.size
      match o.data with
      | .seq xs _ => pure xs.toList
      | _ => unsupported "internal:collect") Q E { s with heap := (s.heap.push (seqObj "list" #[] 0)).update s.heap.objs.size (Obj.mapSeq (· ++ vs.toArray)) }
  refine wpAny_bind (wpAny_load (get?_update_seq (Heap.get?_push_size _ rfl) _) ?_)
  show wpAny _ _ (pure ((#[] : Array Value) ++ vs.toArray).toList) Q E _
  refine wpAny_pure ?_
  simpa using h
def SqH (h : Heap) (l : Addr) (vs : List Value) : Prop := h.IsList l vs.toArray ∨ IsTup h l vs.toArray
theorem collect_sq {l : Addr} {vs : List Value} {Q : List Value → Shared → Prop} (hl : SqH s.heap l vs)
    (h : Q vs { s with heap := (s.heap.push (seqObj "list" #[] 0)).update s.heap.objs.size (Obj.mapSeq (· ++ vs.toArray)) }) (hsz : vs.length ≤ sizeLine) :
    wpAny (model prog w) A (collect (.ref l)) Q E s := by
  rcases hl with hl | hl
  · exact collect_list hl h hsz
  · exact collect_tup hl h hsz
theorem sorted_of_sortT {l : Addr} {vs : List Value} {Q : Value → Shared → Prop} (hl : SqH s.heap l vs) (hL : vs.length ≤ sizeLine)
    (body : ∀ E' : Value → Shared → Prop, wpAny (model prog w) A.in1.in1 (Builtin.«list.sort» ⟨[.ref (s.heap.objs.size + 1)], []⟩) (fun f s' => f = .done (.ret .none) ∧ Q (.ref (s.heap.objs.size + 1)) s') E' { s with heap := copyHeap s.heap vs }) :
    wpAny (model prog w) A (call (.builtin "sorted") [.ref l] []) Q E s := by
  refine call_function_entry_kw kind_sorted plain_sorted entry_sorted (args_sorted1 _) ?_
  unfold Builtin.«sorted»
  refine wpAny_bind (m := checkCount "sorted" 1 1 _) (wpAny_pure ?_)
  refine wpAny_bind (collect_sq hl ?_ hL)
  refine wpAny_bind (wpAny_newList ?_ hL)
  have hsz : ((s.heap.push (seqObj "list" #[] 0)).update s.heap.objs.size (Obj.mapSeq (· ++ vs.toArray))).objs.size = s.heap.objs.size + 1 := by
    rw [Heap.size_update, size_push']
  show wpAny _ _ _ _ _ { s with heap := copyHeap s.heap vs }
  rw [hsz]
  refine wpAny_bind (wpAny_holding (wpAny_call_entry_kw slot_list_sort ⟨_, copyHeap_at s.heap vs, rfl⟩ entry_list_sort ?body (args_list_sort _)))
  case body =>
    show wpAny (model prog w) A.in1.in1 (Builtin.«list.sort» ⟨[.ref (s.heap.objs.size + 1)], []⟩) _ _ _
    refine wpAny_mono (body _) (fun f s' hf => ?_) fun _ _ e => e
    obtain ⟨rfl, hq⟩ := hf
    exact ⟨_, rfl, wpAny_pure ⟨_, rfl, hq⟩⟩
end
section
open PySem.SeqAt
variable {prog : Program} {w : World} {A : Around} {E : Value → Shared → Prop} {s : Shared}
theorem tup_call_lt {Q : Value → Shared → Prop} {l b : Addr} {items items2 : Array Value} {e r : Nat → Bool} (hl : s.heap.IsTuple l items) (hb : s.heap.IsTuple b items2)
    (he : ∀ j (h1 : j < items.size) (h2 : j < items2.size), EqAt A.in1 s items[j] items2[j] (e j)) (hr : ∀ j (h1 : j < items.size) (h2 : j < items2.size), e j = false → RcLt A.in1 s items[j] items2[j] (r j))
    (h : Q (.bool (firstLt e r (decide (items.size < items2.size)) (List.range (min items.size items2.size)))) s) : wpAny (model prog w) A (call (.builtin "tuple.__lt__") [.ref l, .ref b]) Q E s := by
  obtain ⟨⟨cls, dd, data, sl⟩, ho, hc, n, hd⟩ := id hl
  obtain ⟨⟨cls2, dd2, data2, sl2⟩, ho2, hc2, n2, hd2⟩ := id hb
  simp only at hc hd hc2 hd2
  subst hc hd hc2 hd2
  exact call_meets PySem.F.slot_tuple_lt ⟨_, ho, rfl⟩ PySem.F.entry_tuple_lt (PySem.F.args_tuple_lt_2 _ _) (tuple_ltAt l b items items2 n n2 dd dd2 sl sl2 e r) ⟨ho, ho2, he, hr, h⟩
theorem tup_one_lt {xs ys : List PyData} {a b : Value} {as bs : List Addr} {Q : Bool → Shared → Prop} (ra : Reads s.heap a (.tuple xs) as) (rb : Reads s.heap b (.tuple ys) bs) (h : alike (.tuple xs) (.tuple ys) = true)
    (hu : A.units + min (PyData.tuple xs).depth (PyData.tuple ys).depth < cLine) (hq : Q (dataLt (.tuple xs) (.tuple ys)) s) : wpAny (model prog w) A (oneLt' true a b) Q E s := by
  have hal : alikeAll xs ys = true := by simpa [alike] using h
  cases ra with
  | @tuple l o vs n _ as₁ h1 h2 h3 h4 =>
    cases rb with
    | @tuple l' o' vs' n' _ bs₁ k1 k2 k3 k4 =>
      have n1 : vs.size = xs.length := by simpa using ReadsAll.length _ _ _ h4
      have n2 : vs'.size = ys.length := by simpa using ReadsAll.length _ _ _ k4
      rw [dataLt_tuple, ← firstLt_toks xs ys hal, ← n1, ← n2] at hq
      rw [oneLt'_eq]
      simp only [if_true]
      refine wpAny_bind (wpAny_cRoomFor (room_here hu) ?_)
      refine wpAny_bind (wpAny_callSpecialIfBound?_slot (T := "tuple") ⟨_, h1, h2⟩ PySem.F.slot_tuple_lt (tup_call_lt (e := pairEq xs ys) (r := fun j => dataLt (xs.getD j .none) (ys.getD j .none)) ⟨_, h1, h2, _, h3⟩ ⟨_, k1, k2, _, k3⟩ (fun j j1 j2 => ?_) (fun j j1 j2 hj => ?_) ?_))
      · have := eqAt_alikeAll xs ys A.in1 s vs.toList vs'.toList _ _ h4 k4 hal (room_in hu) j (by simpa using j1) (by simpa using j2)
        simpa using this
      · have := rcLt_alikeAll xs ys A.in1 s vs.toList vs'.toList _ _ h4 k4 hal (room_in hu) j (by simpa using j1) (by simpa using j2) hj
        simpa using this
      · exact wpAny_truthy_bool hq
def neT : PyData → Bool
  | .tuple (_ :: _) => true
  | _ => false
theorem firsts_any {M : Model} : ∀ {vs : List Value} {ds : List PyData}, EachIs (fun v d => ∃ as, Reads s.heap v d as) vs ds → (∀ d ∈ ds, ∃ xs, d = .tuple xs) → ∀ {Q : List (Option Value) → Shared → Prop},
    (∀ fs : List (Option Value), fs.map (·.isSome) = ds.map neT → Q fs s) → wpAny M A (vs.mapM firstOfTuple') Q E s
  | _, _, .nil, _, Q, h => by rw [List.mapM_nil]; exact wpAny_pure (h [] rfl)
  | _, _, .cons (b := d) ⟨as, r⟩ t, ht, Q, h => by
    obtain ⟨xs, rfl⟩ := ht d (by simp)
    cases r with
    | @tuple l o its n _ _ h1 h2 h3 h4 =>
      rw [List.mapM_cons]
      refine wpAny_bind ?_
      rw [kas_first_eq]
      refine wpAny_bind (Looks.here (show Looks M s.heap (typeOf (.ref l)) o.cls from (Looks.ld h1).andThen .now) ?_)
      rw [h2, if_neg (by first | decide | simp)]
      refine wpAny_bind (listItems_at h1 h3 (wpAny_pure ?_))
      refine wpAny_bind (firsts_any t (fun d hd => ht d (List.mem_cons_of_mem _ hd)) fun fs hf => wpAny_pure (h _ ?_))
      rw [List.map_cons, List.map_cons, hf]
      congr 1
      have n1 : its.size = xs.length := by simpa using ReadsAll.length _ _ _ h4
      cases xs with
      | nil =>
        have : its[0]? = none := by rw [Array.getElem?_eq_none]; simpa using Nat.le_of_eq n1
        rw [this]; rfl
      | cons x xs =>
        have : its[0]? = some (its[0]'(by rw [n1]; simp)) := Array.getElem?_eq_getElem _
        rw [this]; rfl
theorem mixed_kind {vs : List Value} {ds : List PyData} {Q : SortKind → Shared → Prop} (h2 : 2 ≤ vs.length) (e : EachIs (fun v d => ∃ as, Reads s.heap v d as) vs ds) (ht : ∀ d ∈ ds, ∃ xs, d = .tuple xs) (no : ds.all neT = false)
    (h : Q (if neT (ds.headD .none) then general' else oneType') s) : wpAny (model prog w) A (keyKind' vs.toArray) Q E s := by
  rw [keyKind'_eq, List.mapM_toArray, map_eq_pure_bind]
  refine wpAny_bind (wpAny_bind (firsts_any e ht fun fs hf => wpAny_pure ?_))
  have a1 : (fs.toArray.all fun x => x.isSome) = false := by
    have : fs.all (fun x => x.isSome) = ds.all neT := by
      have q : (fs.map (·.isSome)).all id = (ds.map neT).all id := by rw [hf]
      rw [List.all_map, List.all_map] at q
      exact q
    rw [List.all_toArray, this, no]
  rw [if_neg (by rw [a1]; simp)]
  have hd0 : (fs.toArray[0]?.bind id).isSome = neT (ds.headD .none) := by
    cases fs with
    | nil =>
      cases ds with
      | nil => rfl
      | cons d ds => simp at hf
    | cons f fs =>
      cases ds with
      | nil => simp at hf
      | cons d ds =>
        simp only [List.map_cons, List.cons.injEq] at hf
        simpa using hf.1
  rw [hd0]
  cases c : neT (ds.headD .none) with
  | true =>
    rw [c] at h
    simp only [if_true] at h ⊢
    exact wpAny_pure h
  | false =>
    rw [c] at h
    simp only [Bool.false_eq_true, if_false] at h ⊢
    obtain ⟨v₁, v₂, rest, rfl⟩ : ∃ v₁ v₂ rest, vs = v₁ :: v₂ :: rest := by
      match vs, h2 with
      | [], h2 => simp at h2
      | [_], h2 => simp at h2
      | v₁ :: v₂ :: rest, _ => exact ⟨v₁, v₂, rest, rfl⟩
    rw [oneTypeOnly'_eq, List.mapM_toArray, map_eq_pure_bind]
    refine wpAny_bind (wpAny_bind (wpAny_bind (kas_mapM (r := Value.type "tuple") _ (fun v hv Q' hq => ?_) (wpAny_pure ?_))))
    · obtain ⟨d, hd, as, r⟩ := e.left v hv
      obtain ⟨xs, rfl⟩ := ht d hd
      exact (looks_reads r).here hq
    · have hall : ((List.map (fun _ => Value.type "tuple") (v₁ :: v₂ :: rest)).toArray.all fun x => x == Value.type "tuple") = true := by
        simp only [List.all_toArray, List.all_map, List.all_eq_true]
        intro _ _
        rfl
      have h0 : (List.map (fun _ => Value.type "tuple") (v₁ :: v₂ :: rest)).toArray[0]? = some (Value.type "tuple") := by simp
      rw [h0]
      simp only [hall, if_true]
      exact wpAny_pure (wpAny_pure h)
theorem SortsTup {vs : List Value} {ds : List PyData} (e : EachIs (fun v d => ∃ as, Reads s.heap v d as) vs ds) (hal : AllAlike ds) (ht : ∀ d ∈ ds, ∃ xs, d = .tuple xs) (hu : ∀ d, d ∈ ds → A.units + d.depth < cLine) : SortsAt prog w A s (dataKind s.heap ds) vs := by
  cases no : ds.all neT with
  | true =>
    refine SortsAt.data e hal (.inl fun d hd => ?_) hu
    have := List.all_eq_true.mp no d hd
    obtain ⟨xs, rfl⟩ := ht d hd
    cases xs with
    | nil => cases this
    | cons x r => exact ⟨x, r, rfl⟩
  | false =>
    have room : ∀ {d d' : PyData}, d ∈ ds → A.units + min d.depth d'.depth < cLine := fun {d d'} hd => Nat.lt_of_le_of_lt (Nat.add_le_add_left (Nat.min_le_left _ _) _) (hu d hd)
    refine ⟨fun v hv => ?_, if neT (ds.headD .none) then general' else oneType', ?_, fun h2 E Q hq => mixed_kind h2 e ht no hq⟩
    · obtain ⟨d, hd, as, r⟩ := e.left v hv
      exact ⟨_, dataKind_some hal hd r⟩
    · intro E x y a b Q ha hb hq
      obtain ⟨d, as, hd, ra, rfl⟩ := dataKind_inv ha
      obtain ⟨d', as', hd', rb, rfl⟩ := dataKind_inv hb
      have hdd := hal d hd d' hd'
      have hroom := room (d' := d') hd
      have hq' : Q (dataLt d d') s := hq
      obtain ⟨xs, rfl⟩ := ht d hd
      obtain ⟨ys, rfl⟩ := ht d' hd'
      cases c : neT (ds.headD .none) with
      | true =>
        simp only [if_true]
        show wpAny (model prog w) A (oneLt' false x y) Q E s
        exact oneLt_alike (f := false) (fun z => absurd z (by simp)) ra rb hdd (by simp) hroom hq'
      | false =>
        simp only [Bool.false_eq_true, if_false]
        rw [keyLt'_oneType]
        exact tup_one_lt ra rb hdd hroom hq'
end
section
variable {prog : Program} {w : World} {A : Around} {E : Value → Shared → Prop} {s : Shared}
theorem sorted_dataT {β : Type} {vs : List Value} {bs : List β} {enc : β → PyData} {R : Value → β → Prop} {l : Addr} {Q : Value → Shared → Prop} (hl : SqH s.heap l vs) (e : EachIs R vs bs) (er : EachIs (fun v b => ∃ as, Reads s.heap v (enc b) as) vs bs) (hal : AllAlike (bs.map enc)) (hk : (∀ d ∈ bs.map enc, ∃ xs, d = .tuple xs) ∨ Sortable (bs.map enc)) (hL : bs.length ≤ sizeLine)
    (hu : ∀ b, b ∈ bs → A.units + 2 + (enc b).depth < cLine) (h : ∀ out, out.length = bs.length → EachIs R out (bs.mergeSort (dataLe false enc)) → Q (.ref (s.heap.objs.size + 1)) { s with heap := sortedAll s.heap vs (List.toArray out) }) :
    wpAny (model prog w) A (call (.builtin "sorted") [.ref l]) Q E s := by
  have er' : EachIs (fun v b => ∃ as, Reads (sortingHeap (copyHeap s.heap vs) (s.heap.objs.size + 1) vs) v (enc b) as) vs bs := er.mono fun _ _ ⟨as, r⟩ => ⟨as, PyProof.Rows.Reads.keeps (fun _ _ => sorting_copy_old) r⟩
  have hLv : vs.length ≤ sizeLine := by rw [e.length]; exact hL
  refine sorted_of_sortT hl hLv fun _ => list_sort_vals (s := { s with heap := copyHeap s.heap vs }) (copyHeap_at s.heap vs)
    (hk.elim (fun hk => SortsTup (s := { s with heap := sortingHeap (copyHeap s.heap vs) (s.heap.objs.size + 1) vs }) (each_map (R := fun v d => ∃ as, Reads (sortingHeap (copyHeap s.heap vs) (s.heap.objs.size + 1) vs) v d as) enc er') hal hk (bound_map hu)) fun hk => SortsAt.data (s := { s with heap := sortingHeap (copyHeap s.heap vs) (s.heap.objs.size + 1) vs }) (each_map (R := fun v d => ∃ as, Reads (sortingHeap (copyHeap s.heap vs) (s.heap.objs.size + 1) vs) v d as) enc er') hal hk (bound_map hu)) hLv ⟨rfl, ?_⟩
  exact h _ (by rw [sortVals_length false rfl]; exact e.length) (sortVals_data false e er' hal)
theorem dataLe_tups {β : Type} (x : β → List Int) : dataLe false (fun b => .tuple ((x b).map .int)) = fun p q => decide (x p ≤ x q) := by
  have e := dataLe_rows x
  rw [← e]
  funext p q
  show (!dataLt (.tuple ((x q).map .int)) (.tuple ((x p).map .int))) = (!dataLt (.list ((x q).map .int)) (.list ((x p).map .int)))
  rw [dataLt_list, dataLt_tuple]
end
end Sx

set_option Elab.async false
set_option linter.all false
set_option maxRecDepth 100000
namespace Sx
open PySem PySem.Spec PyProof.Rows L2
def rowI : D → Option (List Int)
  | .tup es => intsOf es
  | _ => none
def rowsOf : List D → Option (List (List Int))
  | [] => some []
  | d :: r => match rowI d with
    | some l => match rowsOf r with
      | some ls => some (l :: ls)
      | none => none
    | none => none
def leR (a b : List Int) : Bool := decide (a ≤ b)
def sortR (ls : List (List Int)) : List (List Int) := ls.mergeSort leR
def dataB (ps : List PyData) : Bool := (ps.all fun p => ps.all fun q => PySem.W.alike p q) && ((ps.all fun p => match p with | .tuple _ => true | _ => false) || (ps.all fun p => match p with | .none => false | .tuple _ => false | _ => true)) && ps.all fun p => decide (p.depth ≤ 50)
def srtX (ds : List D) (h : Hc) : VO := match mapO (toP h 8) ds with
  | some ps => if dataB ps then some (.ref h.length, h ++ [(false, .lst (((ds.zip ps).mergeSort fun a b => !PySem.W.dataLt b.2 a.2).map (·.1)))]) else none
  | none => none
def srtD (ds : List D) (h : Hc) : VO := match intsOf ds with
  | some ns => some (.ref h.length, h ++ [(false, .lst ((sortI ns).map D.int))])
  | none => match rowsOf ds with
    | some ls => some (.ref h.length, h ++ [(false, .lst ((sortR ls).map fun l => .tup (l.map D.int)))])
    | none => srtX ds h
def gSrt : GL := fun xs h => match gSorted xs h with
  | some r => some r
  | none => match xs with
    | [.tup ds] => srtD ds h
    | [.ref n] => match h[n]? with
      | some (_, .lst ds) => srtD ds h
      | _ => none
    | _ => none
theorem mapO_ints (h : Hc) (n : Nat) : ∀ l : List Int, mapO (toP h n) (l.map D.int) = some (l.map PyData.int)
  | [] => id rfl
  | i :: l => by
    have e : toP h n (.int i) = some (.int i) := by cases n <;> rfl
    simp only [List.map_cons, mapO, e, mapO_ints h n l]
theorem intsOf_eq : ∀ {ds : List D} {ns : List Int}, intsOf ds = some ns → ds = ns.map D.int
  | [], ns, e => by injection e with e; subst e; rfl
  | .int i :: ds, ns, e => by
    have e : (match intsOf ds with | some r => some (i :: r) | none => none) = some ns := e
    cases q : intsOf ds with
    | none => rw [q] at e; cases e
    | some r =>
      rw [q] at e
      injection e with e
      subst e
      rw [intsOf_eq q]; rfl
  | .non :: _, _, e => by cases e
  | .bl _ :: _, _, e => by cases e
  | .str _ :: _, _, e => by cases e
  | .tup _ :: _, _, e => by cases e
  | .flst _ :: _, _, e => by cases e
  | .ref _ :: _, _, e => by cases e
  | .obj _ _ _ :: _, _, e => by cases e
  | .ty _ :: _, _, e => by cases e
  | .gl _ :: _, _, e => by cases e
  | .err _ _ :: _, _, e => by cases e
theorem rowI_eq {d : D} {l : List Int} (e : rowI d = some l) : d = .tup (l.map D.int) := by
  cases d with
  | tup es =>
    simp only [rowI] at e
    rw [intsOf_eq e]
  | _ => cases e
section
variable {X : Cx} {pins : List (Addr × Obj)} {s : Shared} {σ : L2.St} {H : Hp} {μ : List Addr} {h : Hc} {Q : VK}
theorem rows_bs (I : Inv X pins σ H s) (x : R (wd X) μ h H) : ∀ {ds : List D} {vs : List V} {its : List Value} {ls : List (List Int)}, RDs (wd X) μ H ds vs → Vals vs its → rowsOf ds = some ls →
    ∃ bs : List (V × List Int), bs.map (·.1) = vs ∧ bs.map (·.2) = ls ∧ PySem.W.EachIs (fun v b => RelV b.1 v) its bs ∧ PySem.W.EachIs (fun v b => ∃ as, Reads s.heap v (.tuple (b.2.map .int)) as) its bs ∧ ∀ b ∈ bs, RD (wd X) μ H (.tup (b.2.map D.int)) b.1
  | [], vs, its, ls, r, v, e => by
    simp only [RDs] at r; subst r
    cases v
    injection e with e; subst e
    exact ⟨[], rfl, rfl, .nil, .nil, by simp⟩
  | d :: ds, vs, its, ls, r, v, e => by
    simp only [RDs] at r
    obtain ⟨y, t, rfl, r1, r2⟩ := r
    cases v with
    | cons v1 v2 =>
      simp only [rowsOf] at e
      cases q : rowI d with
      | none => rw [q] at e; cases e
      | some l =>
        rw [q] at e
        cases q2 : rowsOf ds with
        | none => rw [q2] at e; cases e
        | some l2 =>
          rw [q2] at e
          injection e with e
          subst e
          obtain ⟨bs, e1, e2, e3, e4, e5⟩ := rows_bs I x r2 v2 q2
          obtain rfl := rowI_eq q
          have tp : toP h 1 (.tup (l.map D.int)) = some (.tuple (l.map .int)) := by simp only [toP, mapO_ints]
          obtain ⟨as, rd⟩ := Dp.reads I _ y _ (toP_dp x 1 _ y _ r1 tp) v1
          refine ⟨(y, l) :: bs, by rw [List.map_cons, e1], by rw [List.map_cons, e2], .cons v1 e3, .cons ⟨as, rd⟩ e4, fun b hb => ?_⟩
          rcases List.mem_cons.mp hb with z | z
          · subst z; exact r1
          · exact e5 b z
theorem data_bs (I : Inv X pins σ H s) (x : R (wd X) μ h H) : ∀ {ds : List D} {vs : List V} {its : List Value} {ps : List PyData}, RDs (wd X) μ H ds vs → Vals vs its → mapO (toP h 8) ds = some ps →
    ∃ bs : List (V × D × PyData), bs.map (·.1) = vs ∧ bs.map (·.2) = ds.zip ps ∧ bs.map (·.2.2) = ps ∧ PySem.W.EachIs (fun v b => RelV b.1 v) its bs ∧ PySem.W.EachIs (fun v b => ∃ as, Reads s.heap v b.2.2 as) its bs ∧ ∀ b ∈ bs, RD (wd X) μ H b.2.1 b.1
  | [], vs, its, ps, r, v, e => by
    simp only [RDs] at r; subst r
    cases v
    injection e with e; subst e
    exact ⟨[], rfl, rfl, rfl, .nil, .nil, by simp⟩
  | d :: ds, vs, its, ps, r, v, e => by
    simp only [RDs] at r
    obtain ⟨y, t, rfl, r1, r2⟩ := r
    cases v with
    | cons v1 v2 =>
      simp only [mapO] at e
      cases q : toP h 8 d with
      | none => rw [q] at e; cases e
      | some p =>
        rw [q] at e
        cases q2 : mapO (toP h 8) ds with
        | none => rw [q2] at e; cases e
        | some p2 =>
          rw [q2] at e
          injection e with e
          subst e
          obtain ⟨bs, e1, e2, e3, e4, e5, e6⟩ := data_bs I x r2 v2 q2
          obtain ⟨as, rd⟩ := Dp.reads I _ y _ (toP_dp x 8 _ y _ r1 q) v1
          refine ⟨(y, d, p) :: bs, by rw [List.map_cons, e1], by rw [List.map_cons, e2, List.zip_cons_cons], by rw [List.map_cons, e3], .cons v1 e4, .cons ⟨as, rd⟩ e5, fun b hb => ?_⟩
          rcases List.mem_cons.mp hb with z | z
          · subst z; exact r1
          · exact e6 b z
theorem rds_data {W : Wd} : ∀ (bs : List (V × D × PyData)), (∀ b ∈ bs, RD W μ H b.2.1 b.1) → RDs W μ H (bs.map fun b => b.2.1) (bs.map (·.1))
  | [], _ => RDs.nil
  | b :: bs, k => RDs.cons (k b (by simp)) (rds_data bs fun c hc => k c (by simp [hc]))
theorem each_valsD : ∀ {out : List Value} {bs : List (V × D × PyData)}, PySem.W.EachIs (fun v b => RelV b.1 v) out bs → Vals (bs.map (·.1)) out
  | _, _, .nil => .nil
  | _, _, .cons a b => .cons a (each_valsD b)
theorem dataB_ok {ps : List PyData} (e : dataB ps = true) : PySem.W.AllAlike ps ∧ ((∀ d ∈ ps, ∃ xs, d = .tuple xs) ∨ PySem.W.Sortable ps) ∧ ∀ p ∈ ps, p.depth ≤ 50 := by
  unfold dataB at e
  simp only [Bool.and_eq_true, Bool.or_eq_true, List.all_eq_true, decide_eq_true_eq] at e
  obtain ⟨⟨e1, e2⟩, e3⟩ := e
  refine ⟨fun d hd d' hd' => e1 d hd d' hd', ?_, e3⟩
  rcases e2 with e2 | e2
  · refine .inl fun d hd => ?_
    have := e2 d hd
    split at this
    · exact ⟨_, rfl⟩
    · cases this
  · refine .inr (.inr fun d hd => ?_)
    have := e2 d hd
    split at this
    · cases this
    · cases this
    · rename_i h1 h2
      exact ⟨h1, h2⟩
theorem each_vals : ∀ {out : List Value} {bs : List (V × List Int)}, PySem.W.EachIs (fun v b => RelV b.1 v) out bs → Vals (bs.map (·.1)) out
  | _, _, .nil => .nil
  | _, _, .cons a b => .cons a (each_vals b)
theorem each_ints : ∀ {its : List Value} {ns : List Int}, Vals (ns.map V.int) its → PySem.W.EachIs (fun v (i : Int) => RelV (.int i) v) its ns
  | _, [], r => by cases r; exact .nil
  | _, n :: ns, r => by
    rw [List.map_cons] at r
    cases r with
    | cons a b => exact .cons a (each_ints b)
theorem ints_each : ∀ {its : List Value} {ns : List Int}, PySem.W.EachIs (fun v (i : Int) => RelV (.int i) v) its ns → Vals (ns.map V.int) its
  | _, _, .nil => .nil
  | _, _, .cons a b => .cons a (ints_each b)
theorem rds_rows {W : Wd} : ∀ (bs : List (V × List Int)), (∀ b ∈ bs, RD W μ H (.tup (b.2.map D.int)) b.1) → RDs W μ H (bs.map fun b => .tup (b.2.map D.int)) (bs.map (·.1))
  | [], _ => RDs.nil
  | b :: bs, k => RDs.cons (k b (by simp)) (rds_rows bs fun c hc => k c (by simp [hc]))
theorem srt_core (hu : X.A.units + 64 < cLine) (I : Inv X pins σ H s) (x : R (wd X) μ h H) {ds : List D} {vs : List V} {its : List Value} {a : Addr} (r : RDs (wd X) μ H ds vs) (v : Vals vs its) (hl : SqH s.heap a its) (hz : vs.length ≤ sizeLine) (k : kO (wd X) μ h H Q (srtD ds h)) :
    wpAny (model X.prog X.w) X.A (call (.builtin "sorted") [.ref a]) (EP X pins σ Q) X.xe s := by
  have lv := v.length
  unfold srtD at k
  cases e : intsOf ds with
  | some ns =>
    rw [e] at k
    obtain ⟨rfl, _⟩ := intsOf_ok r e
    have ei := each_ints v
    refine sorted_dataT (enc := fun i : Int => .int i) hl ei (ei.mono fun u i ru => ?_) ?_ (.inr (.inr ?_)) (by simpa using hz) (fun i hi => by simp only [PyData.depth]; omega) fun out hlen ho => ?_
    · obtain ⟨t, rfl⟩ := ru
      exact ⟨[], .int _ _⟩
    · intro d hd d' hd'
      obtain ⟨i, _, rfl⟩ := List.mem_map.mp hd
      obtain ⟨j, _, rfl⟩ := List.mem_map.mp hd'
      rfl
    · intro d hd
      obtain ⟨i, _, rfl⟩ := List.mem_map.mp hd
      exact ⟨by simp, by simp⟩
    · rw [PySem.W.dataLe_int (fun i : Int => i)] at ho
      have es : ns.mergeSort (fun a b => decide (a ≤ b)) = sortI ns := by
        refine sortI_uniq (List.mergeSort_perm ..) ?_
        have := List.pairwise_mergeSort (le := fun (a b : Int) => decide (a ≤ b)) (fun a b c h1 h2 => by simp at h1 h2 ⊢; omega) (fun a b => by simp; omega) ns
        exact this.imp fun h => of_decide_eq_true h
      rw [es] at ho
      have vo := ints_each ho
      obtain ⟨ep, he'⟩ := PyProof.Rows.sortedAll_at s.heap its out.toArray
      have hlen2 : ((sortI ns).map V.int).length ≤ sizeLine := by
        rw [List.length_map, (sortI_perm ns).length_eq]; simpa using hz
      exact ⟨.ref _, upd H (s.heap.objs.size + 1) (.lst ((sortI ns).map V.int)), I.laid (t' := s.toks) (fun _ _ => PyProof.Rows.sortedAll_old) (Nat.le_succ _) ⟨hlen2, out, ep, vo, he'⟩, rfl, k.lst x (RDs.ints _) (I.hok.fresh (Nat.le_succ _))⟩
  | none =>
    rw [e] at k
    cases e2 : rowsOf ds with
    | none =>
      rw [e2] at k
      have k : kO (wd X) μ h H Q (srtX ds h) := k
      unfold srtX at k
      cases e3 : mapO (toP h 8) ds with
      | none => rw [e3] at k; exact False.elim k
      | some ps =>
        rw [e3] at k
        simp only at k
        split at k
        · rename_i hb
          obtain ⟨bs, b1, b2, b3, b4, b5, b6⟩ := data_bs I x r v e3
          obtain ⟨k1, k2, k3⟩ := dataB_ok hb
          have bl : bs.length = vs.length := by rw [← b1, List.length_map]
          have em : bs.map (fun b => b.2.2) = ps := b3
          refine sorted_dataT (enc := fun b : V × D × PyData => b.2.2) hl b4 b5 (by rw [em]; exact k1) (by rw [em]; exact k2) (by omega) (fun b hb => ?_) fun out hlen ho => ?_
          · have := k3 b.2.2 (by rw [← em]; exact List.mem_map.mpr ⟨b, hb, rfl⟩)
            omega
          · have vo := each_valsD ho
            have pm := List.mergeSort_perm bs (PySem.W.dataLe false fun b : V × D × PyData => b.2.2)
            have ed : (bs.mergeSort (PySem.W.dataLe false fun b : V × D × PyData => b.2.2)).map (fun b => b.2.1) = ((ds.zip ps).mergeSort fun a b => !PySem.W.dataLt b.2 a.2).map (·.1) := by
              have q : (bs.mergeSort (PySem.W.dataLe false fun b : V × D × PyData => b.2.2)).map (·.2) = (ds.zip ps).mergeSort fun a b => !PySem.W.dataLt b.2 a.2 := by
                rw [← b2]
                exact List.map_mergeSort fun a _ b _ => rfl
              rw [← q, List.map_map]; rfl
            have rr := rds_data (W := wd X) (μ := μ) (H := H) (bs.mergeSort (PySem.W.dataLe false fun b : V × D × PyData => b.2.2)) fun b hb => b6 b (pm.mem_iff.mp hb)
            rw [ed] at rr
            generalize (bs.mergeSort (PySem.W.dataLe false fun b : V × D × PyData => b.2.2)).map (·.1) = zs at vo rr
            obtain ⟨ep, he'⟩ := PyProof.Rows.sortedAll_at s.heap its out.toArray
            have hlen2 : zs.length ≤ sizeLine := by rw [vo.length, hlen]; omega
            exact ⟨.ref _, upd H (s.heap.objs.size + 1) (.lst zs), I.laid (t' := s.toks) (fun _ _ => PyProof.Rows.sortedAll_old) (Nat.le_succ _) ⟨hlen2, out, ep, vo, he'⟩, rfl, k.lst x rr (I.hok.fresh (Nat.le_succ _))⟩
        · exact False.elim k
    | some ls =>
      rw [e2] at k
      obtain ⟨bs, b1, b2, b3, b4, b5⟩ := rows_bs I x r v e2
      have bl : bs.length = vs.length := by rw [← b1, List.length_map]
      refine sorted_dataT (enc := fun b : V × List Int => .tuple (b.2.map .int)) hl b3 b4 ?_ (.inl ?_) (by omega) (fun b hb => ?_) fun out hlen ho => ?_
      · intro d hd d' hd'
        obtain ⟨i, _, rfl⟩ := List.mem_map.mp hd
        obtain ⟨j, _, rfl⟩ := List.mem_map.mp hd'
        have al : ∀ a b : List Int, PySem.W.alikeAll (a.map .int) (b.map .int) = true := by
          intro a
          induction a with
          | nil => intro b; simp [PySem.W.alikeAll]
          | cons x a ih =>
            intro b
            cases b with
            | nil => simp [PySem.W.alikeAll]
            | cons y b => simp [PySem.W.alikeAll, PySem.W.alike, ih]
        simp only [PySem.W.alike]
        exact al _ _
      · intro d hd
        obtain ⟨b, hb, rfl⟩ := List.mem_map.mp hd
        exact ⟨_, rfl⟩
      · have : ∀ l : List Int, PyData.depthAll (l.map .int) = 0 := by
          intro l
          induction l with
          | nil => simp [PyData.depthAll]
          | cons i l ih => simp [PyData.depthAll, PyData.depth, ih]
        simp only [PyData.depth, this]
        omega
      · rw [dataLe_tups (fun b : V × List Int => b.2)] at ho
        have vo := each_vals ho
        have pm := List.mergeSort_perm bs (fun p q : V × List Int => decide (p.2 ≤ q.2))
        have em : (bs.mergeSort (fun p q : V × List Int => decide (p.2 ≤ q.2))).map (·.2) = sortR ls := by
          rw [← b2]
          exact List.map_mergeSort fun a _ b _ => rfl
        have rr := rds_rows (W := wd X) (μ := μ) (H := H) (bs.mergeSort (fun p q : V × List Int => decide (p.2 ≤ q.2))) fun b hb => b5 b (pm.mem_iff.mp hb)
        have ed : (bs.mergeSort (fun p q : V × List Int => decide (p.2 ≤ q.2))).map (fun b => D.tup (b.2.map D.int)) = (sortR ls).map fun l => .tup (l.map D.int) := by
          rw [← em, List.map_map]; rfl
        rw [ed] at rr
        generalize (bs.mergeSort (fun p q : V × List Int => decide (p.2 ≤ q.2))).map (·.1) = zs at vo rr
        obtain ⟨ep, he'⟩ := PyProof.Rows.sortedAll_at s.heap its out.toArray
        have hlen2 : zs.length ≤ sizeLine := by rw [vo.length, hlen]; omega
        exact ⟨.ref _, upd H (s.heap.objs.size + 1) (.lst zs), I.laid (t' := s.toks) (fun _ _ => PyProof.Rows.sortedAll_old) (Nat.le_succ _) ⟨hlen2, out, ep, vo, he'⟩, rfl, k.lst x rr (I.hok.fresh (Nat.le_succ _))⟩
end
theorem k_srt {X : Cx} (hu : X.A.units + 64 < cLine) (hc : X.calm = true) : CallR X (.builtin "sorted") (lVs (wd X) gSrt) := by
  intro pins s σ H xs us Q I r k
  obtain ⟨μ, h, ds, x, rs, k⟩ := k
  unfold gSrt at k
  cases e : gSorted ds h with
  | some p =>
    rw [e] at k
    exact k_sorted hc pins s σ H xs us Q I r ⟨μ, h, ds, x, rs, by rw [e]; exact k⟩
  | none =>
    rw [e] at k
    rcases ds with _ | ⟨d, _ | ⟨d2, r2⟩⟩
    · exact False.elim k
    · cases d with
      | tup es =>
        obtain ⟨v, rfl, rd⟩ := rds1 rs
        simp only [RD] at rd
        obtain ⟨a, vs, rfl, t, r1⟩ := rd
        obtain ⟨its, rv, ht, hz⟩ := I.tuple t.seq
        rw [Vals.ref1 r]
        exact srt_core hu I x r1 rv (.inr ht) hz k
      | ref n =>
        obtain ⟨v, rfl, rd⟩ := rds1 rs
        cases eh : h[n]? with
        | none => simp only [eh] at k; exact False.elim k
        | some p =>
          obtain ⟨f, o⟩ := p
          cases o with
          | dic _ => simp only [eh] at k; exact False.elim k
          | tab _ => simp only [eh] at k; exact False.elim k
          | dcd _ => simp only [eh] at k; exact False.elim k
          | dif _ => simp only [eh] at k; exact False.elim k
          | lst es =>
            simp only [eh] at k
            simp only [RD] at rd
            obtain ⟨a, e1, rfl⟩ := rd
            obtain ⟨vs, e2, e3⟩ := x.ob n a _ e1 eh
            obtain ⟨its, rv, ht, hz⟩ := I.list (SqL.of e2)
            rw [Vals.ref1 r]
            exact srt_core hu I x e3 rv (.inl ht.isList) (by simpa using hz) k
      | _ => exact False.elim k
    · cases d <;> exact False.elim k
section
variable {X : Cx} {e kx : Expr} {te tk : TE} {pos p2 : Pos}
end
end Sx

set_option Elab.async false
set_option linter.all false
set_option maxRecDepth 100000
namespace Sx
open PySem PySem.Spec PyProof.Rows L2
def gExt : GM := fun x ys h => match gExtend x ys h with
  | some r => some r
  | none => match wrL x h, ys with
    | some (n, ds), [.tup es] => if ds.length + es.length ≤ sizeLine then some (.non, h.set n (false, .lst (ds ++ es))) else none
    | _, _ => none
section
variable {X : Cx}
theorem mt_extT {x y : V} {v : Value} {us : List Value} {pins : List (Addr × Obj)} {s : Shared} {σ : L2.St} {H : Hp} {Q : VK} {a b : Addr} {xs zs : List V} (I : Inv X pins σ H s) (rx : RelV (.ref a) v) (rv : Vals [V.ref b] us) (hH : H a = some (.lst xs)) (hb : SqT X.K H b zs) (hz : xs.length + zs.length ≤ sizeLine)
    (q : Q .non (upd H a (.lst (xs ++ zs)))) : wpAny (model X.prog X.w) X.A (call (.builtin "list.extend") (v :: us)) (EP X pins σ Q) X.xe s := by
  cases rx
  obtain ⟨u, rfl, ru⟩ := rv.one
  cases ru
  obtain ⟨z, its, n, r, hl, e⟩ := I.lstM hH
  obtain ⟨its2, r2, ht, z2⟩ := I.tuple hb
  have l2 := r2.length
  obtain ⟨o2, ho2, hc2, n2, hd2⟩ := id ht
  have hsz : its.toArray.size + its2.toArray.size ≤ sizeLine := by rw [List.size_toArray, List.size_toArray]; omega
  refine wpAny_call_entry PySem.F.slot_list_extend ⟨_, e, rfl⟩ PySem.F.entry_list_extend ?_ (PySem.F.args_list_extend_2 _ _)
  unfold Builtin.«list.extend»
  refine wpAny_bind (m := PySem.selfAndOne "list.extend" _) (wpAny_pure ?_)
  show wpAny _ _ (Builtin.List.listExtendWith (.ref a) (.ref b) .none) _ _ s
  unfold Builtin.List.listExtendWith
  refine wpAny_bind (wpAny_typeOf (T := "tuple") ⟨o2, ho2, hc2⟩ ?_)
  have htt : (Value.type "tuple" == Value.type "tuple") = true := by rfl
  rw [if_pos (by rw [htt]; simp)]
  refine wpAny_bind (listItems_at ho2 hd2 ?_)
  refine wpAny_bind (listItems_at e rfl ?_)
  have hlong : ¬ (!its.toArray.isEmpty && Builtin.List.listTooLong (its.toArray.size + its2.toArray.size)) = true := by
    rw [notLongL hsz, Bool.and_false]
    exact Bool.false_ne_true
  rw [if_neg hlong]
  refine wpAny_bind (listUpdate_at e rfl ?_ (by rw [List.size_toArray]; omega) (by rw [Array.size_append]; omega))
  refine wpAny_pure ⟨.none, rfl, ?_⟩
  refine ⟨.non, _, I.lset (t' := s.toks) (its' := its ++ its2) hH e (by simp) (r.append r2) ?_, rfl, q⟩
  rw [List.length_append]
  exact hz
theorem m_ext : MtR X "list.extend" (lVm (wd X) gExt) := by
  intro pins s σ H x xs v us Q I rx rxs k
  obtain ⟨μ, h, dx, ds, r, d1, d2, k⟩ := k
  unfold gExt at k
  cases e : gExtend dx ds h with
  | some p =>
    rw [e] at k
    exact m_extend pins s σ H x xs v us Q I rx rxs ⟨μ, h, dx, ds, r, d1, d2, by rw [e]; exact k⟩
  | none =>
    rw [e] at k
    cases e2 : wrL dx h with
    | none => simp only [e2] at k; exact False.elim k
    | some p =>
      obtain ⟨n, l⟩ := p
      simp only [e2] at k
      rcases ds with _ | ⟨d, _ | ⟨d3, r3⟩⟩
      · exact False.elim k
      · cases d with
        | tup es =>
          simp only at k
          split at k
          · rename_i hz
            obtain ⟨a, vs, rfl, m1, m2, m3, m4⟩ := wrL_at r d1 e2
            obtain ⟨w, rfl, rw_⟩ := rd1 d2
            simp only [RD] at rw_
            obtain ⟨b, zs, rfl, t, rz⟩ := rw_
            exact mt_extT (x := .non) (y := .non) I rx rxs m3 t.seq (by rw [← m4.len, ← rz.len]; exact hz) (k.put r m1 m2 (RDs.append m4 rz) (by simp only [RD]))
          · exact False.elim k
        | _ => exact False.elim k
      · cases d <;> exact False.elim k
end
end Sx

set_option Elab.async false
set_option linter.all false
set_option maxRecDepth 100000
namespace Sx
open PySem
section
variable {h h1 h2 h3 : Hc} {n m : Nat} {f : Bool} {l : KD} {k : Int} {d : D} {ρ : Rho} {ds es : List D}
theorem any_int (i : Int) : ∀ l : List Int, (l.map PyData.int).any (fun z => PyData.eqv z (.int i)) = decide (i ∈ l)
  | [] => by simp
  | x :: l => by
    rw [List.map_cons, List.any_cons, any_int i l, eqv_int]
    by_cases c : x = i
    · subst c; simp
    · have : ¬ i = x := fun z => c z.symm
      simp [c, this]
theorem q_inR {a : List Int} {i : Int} (e : h[n]? = some (f, .lst (iL a))) : gIn (.int i) (.ref n) h = some (.bl (decide (i ∈ a)), h) := by
  simp only [gIn, inD, toS_int, toS_ref e, any_int]
theorem q_inT {a : List Int} {i : Int} : gIn (.int i) (iT a) h = some (.bl (decide (i ∈ a)), h) := by
  simp only [gIn, inD, toS_int, toS_tup, any_int]
abbrev rL (l : List (List Int)) : List D := l.map iT
theorem rowI_iT {l : List Int} : rowI (iT l) = some l := intsOf_iL l
theorem rowsOf_r0 : ∀ {l : List (List Int)}, rowsOf (rL l) = some l
  | [] => rfl
  | r :: l => by
    have ih := rowsOf_r0 (l := l)
    simp only [rL] at ih
    simp only [rL, List.map_cons, rowsOf, rowI_iT, ih]
theorem rowsOf_rL {l : List (List Int)} (_ : ∀ r ∈ l, r ≠ []) : rowsOf (rL l) = some l := rowsOf_r0
theorem ints_rL {l : List (List Int)} (ne : l ≠ []) : intsOf (rL l) = none := by
  obtain ⟨x, r, rfl⟩ := List.exists_cons_of_ne_nil ne
  rfl
theorem q_srtT {l : List (List Int)} (ne : l ≠ []) (k : ∀ r ∈ l, r ≠ []) : gSrt [.tup (rL l)] h = some (.ref h.length, h ++ [(false, .lst (rL (sortR l)))]) := by
  have e : gSorted [.tup (rL l)] h = none := rfl
  unfold gSrt srtD
  rw [e]
  simp only [ints_rL ne, rowsOf_rL k]
end
theorem leR_total (a b : List Int) : (leR a b || leR b a) = true := by
  unfold leR
  rcases Std.le_total (a := a) (b := b) with h | h
  · simp [h]
  · simp [h]
theorem leR_trans (a b c : List Int) (h1 : leR a b = true) (h2 : leR b c = true) : leR a c = true := by
  unfold leR at *
  exact decide_eq_true (Std.le_trans (of_decide_eq_true h1) (of_decide_eq_true h2))
theorem sortR_sorted (l : List (List Int)) : (sortR l).Pairwise (fun a b => leR a b = true) := List.pairwise_mergeSort leR_trans leR_total l
theorem sortR_perm (l : List (List Int)) : (sortR l).Perm l := List.mergeSort_perm l leR
section
variable {t t1 : TGT} {tt tt1 : CT} {e ci1 : CE} {ρ : Rho} {vs vs1 : List Nat} {ci : CI}
end
end Sx

set_option Elab.async false
set_option linter.all false
set_option maxRecDepth 100000
namespace Sx
open PySem PySem.Spec PyProof.Rows L2
theorem rat_add (p q : Rat) : p + q = ((p.num * q.den + q.num * p.den : Int) : Rat) / ((p.den * q.den : Nat) : Rat) := by
  rw [Rat.add_def, Rat.normalize_eq_mkRat, Rat.mkRat_eq_div]
def Bd (k : Nat) (q : Rat) : Prop := q.num.natAbs < 2 ^ k ∧ q.den < 2 ^ k
theorem Bd.up {j k : Nat} {q : Rat} (b : Bd j q) (h : j ≤ k) : Bd k q :=
  have p : 2 ^ j ≤ 2 ^ k := Nat.pow_le_pow_right (by omega) h
  ⟨Nat.lt_of_lt_of_le b.1 p, Nat.lt_of_lt_of_le b.2 p⟩
theorem Bd.mk {k : Nat} {n : Int} {d : Nat} (h : 0 < d) (b1 : n.natAbs < 2 ^ k) (b2 : d < 2 ^ k) : Bd k ((n : Rat) / (d : Rat)) := by
  constructor
  · rw [← Rat.mkRat_eq_div, Rat.num_mkRat, if_neg (by omega)]
    exact Nat.lt_of_le_of_lt (Int.natAbs_ediv_le_natAbs _ _) b1
  · rw [← Rat.mkRat_eq_div, Rat.den_mkRat, if_neg (by omega)]
    exact Nat.lt_of_le_of_lt (Nat.div_le_self _ _) b2
theorem lt_mul {a b j k : Nat} (h1 : a < 2 ^ j) (h2 : b < 2 ^ k) : a * b < 2 ^ (j + k) := by
  rw [Nat.pow_add]
  rcases Nat.eq_zero_or_pos b with rfl | p
  · rw [Nat.mul_zero]; exact Nat.mul_pos (Nat.two_pow_pos _) (Nat.two_pow_pos _)
  · exact Nat.lt_of_lt_of_le (Nat.mul_lt_mul_of_pos_right h1 p) (Nat.mul_le_mul_left _ (Nat.le_of_lt h2))
theorem add_lt {a b c d : Int} {j k : Nat} (h1 : a.natAbs < 2 ^ j) (h2 : b.natAbs < 2 ^ k) (h3 : c.natAbs < 2 ^ k) (h4 : d.natAbs < 2 ^ j) : (a * b + c * d).natAbs < 2 ^ (j + k + 1) := by
  have e : 2 ^ (j + k + 1) = 2 ^ (j + k) + 2 ^ (j + k) := by rw [Nat.pow_succ]; omega
  have l1 := lt_mul h1 h2
  have l2 := lt_mul h3 h4
  rw [Nat.add_comm k j] at l2
  have t := Int.natAbs_add_le (a * b) (c * d)
  rw [Int.natAbs_mul, Int.natAbs_mul] at t
  omega
theorem Bd.add {j k : Nat} {p q : Rat} (a : Bd j p) (b : Bd k q) : Bd (j + k + 1) (p + q) := by
  rw [rat_add]
  have e : 2 ^ (j + k + 1) = 2 ^ (j + k) + 2 ^ (j + k) := by rw [Nat.pow_succ]; omega
  have h3 := lt_mul a.2 b.2
  exact .mk (Nat.mul_pos p.den_pos q.den_pos) (add_lt a.1 b.2 b.1 a.2) (by omega)
theorem Bd.neg {k : Nat} {q : Rat} (b : Bd k q) : Bd k (-q) := by
  refine ⟨?_, ?_⟩
  · rw [Rat.neg_num, Int.natAbs_neg]; exact b.1
  · rw [Rat.neg_den]; exact b.2
theorem Bd.sub {j k : Nat} {p q : Rat} (a : Bd j p) (b : Bd k q) : Bd (j + k + 1) (p - q) := by
  rw [Rat.sub_eq_add_neg]
  exact a.add b.neg
end Sx

set_option Elab.async false
set_option linter.all false
set_option maxRecDepth 100000
namespace Sx
open PySem PySem.Spec PyProof.Rows L2
open PySem.W PySem.Calls PySem.HandSPX
structure FnT (P : Program) (w : World) (K : Frag) (mg : Str → Option Value) (base : Heap) (fa : Addr) (fd : FuncData) (ps : List Str) (sp : Sp) : Prop where
  run : ∀ (s : Shared) (H : Hp) (args : Args) (us : List Value) (vs : List V) (Q : VK) (E : XK),
    Env0 P w K mg base callerA [] s H → BindsTo s fd args (ps.zip us) → Vals vs us → sp vs H Q E →
    codeAny (model P w) callerA (.call (.ref fa) args) (CR (L2.CX P w) [] P w H s Q E) s
end Sx
namespace Sx
open PySem PySem.Spec PyProof.Rows L2
open PySem.W PySem.Calls PySem.HandSPX
structure Trk (s : Shared) (cs : List (Addr × Addr)) (a : Addr) (xs : List V) (K : Frag) (H : Hp) : Prop where
  tab : ∀ p ∈ cs, H p.2 = some (.tbl #[])
  one : ∀ b, H b = none ∨ b ∈ cs.map (·.2) ∨ (b = a ∧ ∃ o, H b = some (.frz o (.lst xs)))
  scr : SqL K H a xs
  kn : H a ≠ none → K.lookup a = none
section
variable {P : Program} {w : World} {K : Frag} {mg mb : Str → Option Value} {fa a : Addr} {cs : List (Addr × Addr)} {fd : FuncData} {x : Str} {sp : Sp} {s : Shared} {vs : List Value} {ns : List Int} {H : Hp}
abbrev lstO (vs : List Value) : Obj := { cls := .type "list", data := .seq vs.toArray }
abbrev tabO (ps : Array Value) : Obj := { cls := .none, data := .fields ps }
theorem Trk.free (t : Trk s cs a (ns.map V.int) K H) (ha : s.heap.get? a = some (lstO vs)) (hT : ∀ p ∈ cs, s.heap.get? p.2 = some (tabO #[])) {b : Addr} {o : Obj} (e : s.heap.get? b = some o)
    (n1 : ∀ l n, o.data ≠ .seq l n) (n2 : o.data ≠ .fields #[]) : H b = none := by
  rcases t.one b with z | z | ⟨rfl, _⟩
  · exact z
  · obtain ⟨p, hp, rfl⟩ := List.mem_map.mp z
    rw [hT p hp] at e
    injection e with e
    subst e
    exact absurd rfl n2
  · rw [ha] at e
    injection e with e
    subst e
    exact absurd rfl (n1 _ _)
theorem Trk.kin (t : Trk s cs a (ns.map V.int) K H) (KX : K.In s.heap) (nT : ∀ p ∈ cs, K.lookup p.2 = none) : K.In (hidT s.heap H) := fun b o e => by
  refine hidT_get (KX b o e) ?_
  rcases t.one b with z | z | ⟨rfl, ob, z⟩
  · exact z
  · obtain ⟨p, hp, rfl⟩ := List.mem_map.mp z
    rw [nT p hp] at e
    cases e
  · have q := t.kn (by rw [z]; exact Option.some_ne_none _)
    rw [q] at e
    cases e
end
end Sx
namespace Sx
open PySem PySem.Spec PyProof.Rows L2
open PySem.W PySem.Calls PySem.HandSPX
def TabsAt (K : Frag) (h : Heap) (cs : List (Addr × Addr)) : Prop := (∀ p ∈ cs, h.get? p.2 = some (tabO #[])) ∧ (∀ p ∈ cs, K.lookup p.2 = none) ∧ ∀ p ∈ cs, CodeHd h p.1 p.2
theorem TabsAt.nil {K : Frag} {h : Heap} : TabsAt K h [] := ⟨by simp, by simp, by simp⟩
end Sx

set_option Elab.async false
set_option linter.all false
set_option maxRecDepth 100000
namespace Sx
open PySem
theorem ok_append {a b : Str} (h1 : PyData.strOk a = true) (h2 : PyData.strOk b = true) : PyData.strOk (a ++ b) = true := by
  unfold PyData.strOk at *
  show (a.cps ++ b.cps).all _ = true
  simp only [Array.all_append, h1, h2, Bool.and_self]
theorem ok_of (s : String) : PyData.strOk (Str.ofString s) = true := by
  unfold PyData.strOk
  rw [Str.ofString_eq_toList]
  simp only [List.all_toArray, List.all_map, List.all_eq_true, Function.comp, decide_eq_true_eq]
  intro c _
  have := c.valid
  unfold Char.toNat
  rcases this with h | h
  · have : c.val.toNat < 0xd800 := h
    omega
  · have := h.2
    have : c.val.toNat < 0x110000 := this
    omega
theorem ok_join {sep : Str} (hs : PyData.strOk sep = true) : ∀ l : List Str, (∀ x ∈ l, PyData.strOk x = true) → PyData.strOk (Str.join sep l) = true
  | [], _ => by show PyData.strOk Str.empty = true; decide +kernel
  | [x], h => h x (by simp)
  | x :: y :: l, h => by
    show PyData.strOk (x ++ sep ++ Str.join sep (y :: l)) = true
    exact ok_append (ok_append (h x (by simp)) hs) (ok_join hs (y :: l) fun z hz => h z (by simp [hz]))
theorem ok_tuple {l : List Str} (h : ∀ x ∈ l, PyData.strOk x = true) : PyData.strOk (tupleText l) = true := by
  unfold tupleText
  exact ok_append (ok_append (ok_of _) (ok_join (ok_of _) l h)) (ok_of _)
mutual
inductive Sh : D → Nat → Prop
  | int {i : Int} : i.natAbs.log2 < 1920 → Sh (.int i) 1921
  | non : Sh .non 4
  | str {s : Str} : PyData.showable (.str s) = true → PyData.strOk (PyData.shown (.str s)) = true → Sh (.str s) (PyData.shown (.str s)).length
  | tup {ds : List D} {n : Nat} : ShL ds n → Sh (.tup ds) (n + 2)
inductive ShL : List D → Nat → Prop
  | nil : ShL [] 0
  | cons {d : D} {ds : List D} {a b : Nat} : Sh d a → ShL ds b → ShL (d :: ds) (a + 2 + b)
end
mutual
theorem Sh.shown : ∀ {d : D} {n : Nat} {p : PyData}, Sh d n → PD d p → p.showable = true ∧ p.shown.length ≤ n ∧ PyData.strOk p.shown = true
  | _, _, _, .int (i := i) h, .int _ => by
    refine ⟨by simpa [PyData.showable] using h, ?_, by simpa only [PyData.shown] using ok_of _⟩
    have e := int_text_length_le (k := 1920) (by decide) h
    simp only [PyData.shown]
    have e2 : (Str.ofString (toString i)).length = (toString i).length := by
      rw [Str.ofString_eq_toList]
      simp [Str.length, String.length_toList]
    omega
  | _, _, _, .non, .non => by
    refine ⟨by simp [PyData.showable], ?_, by simpa only [PyData.shown] using ok_of _⟩
    simp only [PyData.shown]
    decide
  | _, _, _, .str h1 h2, .str _ => ⟨h1, Nat.le_refl _, h2⟩
  | _, _, _, .tup hs, .tup ps => by
    obtain ⟨a, b, c⟩ := ShL.shown hs ps
    refine ⟨by simpa [PyData.showable] using a, ?_, by simpa only [PyData.shown] using ok_tuple c⟩
    simp only [PyData.shown]
    exact Nat.le_trans (fmt_text _) (by omega)
theorem ShL.shown : ∀ {ds : List D} {n : Nat} {ps : List PyData}, ShL ds n → PDs ds ps → PyData.showableAll ps = true ∧ piled (PyData.shownAll ps) ≤ n ∧ ∀ x ∈ PyData.shownAll ps, PyData.strOk x = true
  | _, _, _, .nil, .nil => by simp [PyData.showableAll, PyData.shownAll, piled]
  | _, _, _, .cons h hs, .cons q qs => by
    obtain ⟨a, b, c⟩ := Sh.shown h q
    obtain ⟨a2, b2, c2⟩ := ShL.shown hs qs
    refine ⟨by simp [PyData.showableAll, a, a2], ?_, ?_⟩
    · simp only [PyData.shownAll]
      rw [piled_cons]
      omega
    · intro x hx
      simp only [PyData.shownAll, List.mem_cons] at hx
      rcases hx with rfl | hx
      · exact c
      · exact c2 x hx
end
theorem ShL.map {α : Type} {f : α → D} {c : Nat} : ∀ {l : List α}, (∀ x ∈ l, Sh (f x) c) → ShL (l.map f) (l.length * (c + 2))
  | [], _ => by simpa using ShL.nil
  | x :: l, h => by
    have := ShL.cons (h x (by simp)) (ShL.map (l := l) fun y hy => h y (by simp [hy]))
    rw [List.map_cons, List.length_cons]
    have e : (l.length + 1) * (c + 2) = c + 2 + l.length * (c + 2) := by rw [Nat.add_mul]; omega
    rw [e]; exact this
end Sx

set_option Elab.async false
set_option linter.all false
set_option maxRecDepth 100000
namespace Sx
open PySem PySem.Spec PyProof.Rows L2
end Sx

set_option Elab.async false
set_option linter.all false
set_option maxRecDepth 100000
namespace Sx
open PySem PySem.Spec PyProof.Rows L2
inductive DK where | keys | vals | items
def keyO : L2.Key → D
  | .inl i => .int i
  | .inr s => .str s
def isDK (u : HO) : Prop := (∃ kv, u = .dK kv) ∨ ∃ o kv, u = .frz o (.dK kv)
section
variable {W : Wb} {μ : List Addr} {h : Hc} {H : Hp} {d : Addr} {u u' : HO}
theorem tp_dk {vs : List V} {a : Addr} (e : H d = some u) (i : isDK u) (x : TpL W.K H a vs) : TpL W.K (upd H d u') a vs := by
  rcases x with ⟨o, e2, d2⟩ | x
  · refine .inl ⟨o, ?_, d2⟩
    rw [upd_ne]; exact e2
    rintro rfl
    rw [e] at e2; cases e2
    rcases i with ⟨kv, i⟩ | ⟨o, kv, i⟩ <;> cases i
  · exact .inr x
theorem fz_dk {vs : List V} {a : Addr} (e : H d = some u) (i : isDK u) (x : FzL W.K H a vs) : FzL W.K (upd H d u') a vs := by
  rcases x with ⟨o, e2⟩ | x
  · refine .inl ⟨o, ?_⟩
    rw [upd_ne]; exact e2
    rintro rfl
    rw [e] at e2; cases e2
    rcases i with ⟨kv, i⟩ | ⟨o, kv, i⟩ <;> cases i
  · exact .inr x
mutual
theorem RD.dk (e : H d = some u) (i : isDK u) : ∀ (x : D) (v : V), RD W μ H x v → RD W μ (upd H d u') x v
  | .non, v, r => by simpa only [RD] using r
  | .bl _, v, r => by simpa only [RD] using r
  | .int _, v, r => by simpa only [RD] using r
  | .str _, v, r => by simpa only [RD] using r
  | .tup ds, v, r => by
    simp only [RD] at r ⊢
    obtain ⟨a, vs, e1, e2, e3⟩ := r
    exact ⟨a, vs, e1, tp_dk e i e2, RDs.dk e i ds vs e3⟩
  | .ref n, v, r => by simpa only [RD] using r
  | .flst ds, v, r => by
    simp only [RD] at r ⊢
    obtain ⟨a, vs, e1, e2, e3⟩ := r
    exact ⟨a, vs, e1, fz_dk e i e2, RDs.dk e i ds vs e3⟩
  | .obj c ns ds, v, r => by
    simp only [RD] at r ⊢
    obtain ⟨a, C, dx, vs, e1, e2, e3, e4, e5⟩ := r
    refine ⟨a, C, dx, vs, e1, e2, ?_, e4, RDs.dk e i ds vs e5⟩
    rw [upd_ne]; exact e3
    rintro rfl
    rw [e] at e3; cases e3
    rcases i with ⟨kv, i⟩ | ⟨o, kv, i⟩ <;> cases i
  | .ty _, v, r => by simpa only [RD] using r
  | .gl _, v, r => by simpa only [RD] using r
  | .err _ _, v, r => by simp only [RD] at r
  | .clo f c q vs ds, v, r => by
    simp only [RD] at r ⊢
    obtain ⟨e1, e2, e3⟩ := r
    refine ⟨e1, ?_, RDs.dk e i ds vs e3⟩
    rw [upd_ne]; exact e2
    rintro rfl
    rw [e] at e2; cases e2
    rcases i with ⟨kv, i⟩ | ⟨o, kv, i⟩ <;> cases i
theorem RDs.dk (e : H d = some u) (i : isDK u) : ∀ (ds : List D) (vs : List V), RDs W μ H ds vs → RDs W μ (upd H d u') ds vs
  | [], vs, r => by simpa only [RDs] using r
  | x :: ds, vs, r => by
    simp only [RDs] at r ⊢
    obtain ⟨v, w, e1, e2, e3⟩ := r
    exact ⟨v, w, e1, RD.dk e i x v e2, RDs.dk e i ds w e3⟩
end
theorem RV.dk {W : Wd} {x : D} {v : V} (e : H d = some u) (i : isDK u) (r : RV W μ H x v) : RV W μ (upd H d u') x v := by
  rcases r with r | ⟨c, y, rfl, a, C, dd, w, e1, e2, e3, e4, e5, e6⟩
  · exact .inl (RD.dk e i x v r)
  · refine .inr ⟨c, y, rfl, a, C, dd, w, e1, e2, e3, ?_, RD.dk e i y w e5, e6⟩
    rw [upd_ne]; exact e4
    rintro rfl
    rw [e] at e4; cases e4
    rcases i with ⟨kv, i⟩ | ⟨o, kv, i⟩ <;> cases i
theorem RS.dk {W : Wd} {ρ : Rho} {σ : L2.St} (e : H d = some u) (i : isDK u) (r : RS W μ H ρ σ) : RS W μ (upd H d u') ρ σ :=
  ⟨r.1, fun j x q => let ⟨v, a, b⟩ := r.2 j x q; ⟨v, a, RV.dk e i b⟩⟩
theorem ro_dk {b : Addr} {p : Bool × O} (e : H d = some u) (i : isDK u) (nb : b ≠ d) (x : RO W μ H b p) : RO W μ (upd H d u') b p := by
  obtain ⟨l, o⟩ := p
  cases o with
  | lst ds =>
    obtain ⟨vs, e1, e2⟩ := x
    exact ⟨vs, by rw [upd_ne nb]; exact e1, RDs.dk e i ds vs e2⟩
  | dic kvs =>
    obtain ⟨vs, e1, e2⟩ := x
    exact ⟨vs, by rw [upd_ne nb]; exact e1, RDs.dk e i _ vs e2⟩
  | tab y q =>
    obtain ⟨ps, e1, e2, e3⟩ := x
    refine ⟨ps, by rw [upd_ne nb]; exact e1, e2, fun pos cv z => ?_⟩
    obtain ⟨c, z1, z2⟩ := e3 pos cv z
    refine ⟨c, z1, ?_⟩
    rw [upd_ne]; exact z2
    rintro rfl
    rw [e] at z2; cases z2
    rcases i with ⟨kv, i⟩ | ⟨o, kv, i⟩ <;> cases i
  | dcd kvs => exact x.keepD (upd_ne nb) (fun d v => RD.dk e i d v)
  | dif kvs => exact x.keepF (upd_ne nb) (fun d v => RD.dk e i d v)
theorem R.frz {l : KD} {kv : List (L2.Key × V)} {n : Nat} {f : Bool} {o : Obj} (x : R W μ h H) (e1 : μ[n]? = some d) (e2 : h[n]? = some (f, .dic l)) (e3 : H d = some (.dK kv)) (rk : RKs W μ H l kv) : R W μ (lckL [n] h) (upd H d (.frz o (.dK kv))) := by
  have i : isDK (.dK kv) := .inl ⟨kv, rfl⟩
  refine ⟨by rw [lock_len, x.len], x.nd, fun m b p q1 q2 => ?_⟩
  rw [lock_get] at q2
  by_cases hm : m = n
  · subst hm
    rw [if_pos (by simp), e2] at q2
    cases q2
    rw [e1] at q1
    cases q1
    obtain ⟨vs, rfl, rv⟩ := rk.to
    exact ⟨vs, .inr ⟨rfl, o, upd_same⟩, RDs.dk e3 i _ _ rv⟩
  · rw [if_neg (by simpa using hm)] at q2
    have nb : b ≠ d := fun z => hm (getElem?_inj_nodup x.nd q1 (by rw [z]; exact e1))
    exact ro_dk e3 i nb (x.ob m b p q1 q2)
end
section
variable {W : Wd} {μ : List Addr} {h : Hc} {H : Hp} {d : Addr} {o : Obj} {l : KD} {kv : List (L2.Key × V)} {n : Nat}
theorem RKs.nth {W : Wb} {μ : List Addr} {H : Hp} : ∀ {l : KD} {kv : List (L2.Key × V)} {i : Nat} {k : L2.Key} {v : V}, RKs W μ H l kv → kv[i]? = some (k, v) → ∃ x, l[i]? = some (k, x) ∧ RD W μ H x v
  | [], kv, i, k, v, r, e => by have r : kv = [] := r; subst r; simp at e
  | (k0, x0) :: l, kv, i, k, v, r, e => by
    obtain ⟨v0, t, rfl, r1, r2⟩ := r
    cases i with
    | zero =>
      simp at e
      obtain ⟨rfl, rfl⟩ := e
      exact ⟨x0, rfl, r1⟩
    | succ i =>
      simp only [List.getElem?_cons_succ] at e ⊢
      exact RKs.nth r2 e
theorem keyO_ok {W : Wb} {μ : List Addr} {H : Hp} (k : L2.Key) : RD W μ H (keyO k) (kV k) := by
  cases k with
  | inl i => simp only [keyO, RD]; rfl
  | inr s => simp only [keyO, RD]; rfl
end
section
variable {X : Cx} {Wx : WX} {e : Expr} {ce : CE} {apos cpos : Pos} {tg : Expr}
end
def kL (X : Cx) (μ : List Addr) (h : Hc) (H : Hp) (D : Ends) : ResS → Prop
  | .ok f ρ' h' => ∀ μ' H' σ', R (wd X) μ' h' H' → Ext μ h H μ' h' H' → RS (wd X) μ' H' ρ' σ' → (match f with
    | .nx => D.nx σ' H'
    | .bk => D.bk σ' H'
    | .ct => D.ct σ' H'
    | .ret d => ∀ v, RD (wd X) μ' H' d v → D.rt v H'
    | .exn _ _ => False)
  | .stuck => False
theorem kL.shift {X : Cx} {μ μ1 : List Addr} {h h1 : Hc} {H H1 : Hp} {D : Ends} {r : ResS} (x : R (wd X) μ h H) (E : Ext μ h H μ1 h1 H1) (k : kL X μ h H D r) : kL X μ1 h1 H1 D r := by
  cases r with
  | stuck => exact k
  | ok f ρ h' => exact fun μ' H' σ' y F rs => k μ' H' σ' y (E.trans x F) rs
section
variable {X : Cx} {Wx : WX} {tg it : Expr} {k : DK} {ce : CE} {t : TGT} {body : List Stmt} {cb : CS} {pos : Pos}
end
end Sx

set_option Elab.async false
set_option linter.all false
set_option maxRecDepth 100000
namespace Sx
open PySem PySem.Spec PyProof.Rows L2
open PySem.W PySem.Calls
section
variable {X : Cx} {pins : List (Addr × Obj)} {σ : L2.St} {H : Hp} {s : Shared}
end
end Sx

set_option Elab.async false
set_option linter.all false
set_option maxRecDepth 100000
namespace Sx
open PySem PySem.Spec PyProof.Rows L2
open PySem.W PySem.Calls PySem.HandSPX
def LamF (K : Frag) (mg : Str → Option Value) (base : Heap) (y : Str) : Prop := ∃ fy oc od fd osl c, mg y = some (.ref fy) ∧ K.lookup fy = some ⟨oc, od, .func fd, osl⟩ ∧ fd.code = .ref c ∧ LamX.TabB base mg c (theTab K fy)
section
variable {P : Program} {w : World} {K : Frag} {mg : Str → Option Value} {base : Heap}
end
structure LamK (K : Frag) (h : Heap) (mg : Str → Option Value) (y : Str) (p : Addr × Addr) : Prop where
  at_ : ∃ fy oc od fd osl, mg y = some (.ref fy) ∧ K.lookup fy = some ⟨oc, od, .func fd, osl⟩ ∧ fd.code = .ref p.1 ∧ theTab K fy = p.2
  hd : CodeHd h p.1 p.2
  em : h.get? p.2 = some (tabO #[])
  out : K.lookup p.2 = none
theorem LamK.f {K : Frag} {h base : Heap} {mg : Str → Option Value} {y : Str} {p : Addr × Addr} (x : LamK K h mg y p) (t : LamX.TabB base mg p.1 p.2) : LamF K mg base y := by
  obtain ⟨fy, oc, od, fd, osl, h1, h2, h3, h4⟩ := x.at_
  exact ⟨fy, oc, od, fd, osl, p.1, h1, h2, h3, by rw [h4]; exact t⟩
def tabH (ys : List (Str × Str)) : Hc := ys.map fun y => (false, .tab y.1 y.2)
inductive LamKs (K : Frag) (h : Heap) (mg : Str → Option Value) : List (Str × Str) → List (Addr × Addr) → Prop
  | nil : LamKs K h mg [] []
  | cons {y q : Str} {p : Addr × Addr} {ys : List (Str × Str)} {ps : List (Addr × Addr)} (x : LamK K h mg y p) (r : LamKs K h mg ys ps) : LamKs K h mg ((y, q) :: ys) (p :: ps)
theorem LamKs.at {K : Frag} {h : Heap} {mg : Str → Option Value} {ys : List (Str × Str)} {ps : List (Addr × Addr)} (x : LamKs K h mg ys ps) : TabsAt K h ps := by
  induction x with
  | nil => exact .nil
  | cons x r ih =>
    obtain ⟨i1, i2, i3⟩ := ih
    refine ⟨fun p hp => ?_, fun p hp => ?_, fun p hp => ?_⟩
    all_goals rcases List.mem_cons.mp hp with rfl | hp
    · exact x.em
    · exact i1 p hp
    · exact x.out
    · exact i2 p hp
    · exact x.hd
    · exact i3 p hp
theorem LamKs.ro {K : Frag} {h : Heap} {mg : Str → Option Value} {ys : List (Str × Str)} {ps : List (Addr × Addr)} (x : LamKs K h mg ys ps) {H : Hp} {μ : List Addr} (hH : ∀ p ∈ ps, H p.2 = some (.tbl #[])) :
    (ps.map (·.2)).length = (tabH ys).length ∧ ∀ (n : Nat) (a : Addr) (p : Bool × O), (ps.map (·.2))[n]? = some a → (tabH ys)[n]? = some p → RO ⟨K, mg⟩ μ H a p := by
  induction x with
  | nil => exact ⟨rfl, fun n a p e => by simp at e⟩
  | @cons y q p ys ps x r ih =>
    obtain ⟨i1, i2⟩ := ih fun p hp => hH p (List.mem_cons_of_mem _ hp)
    refine ⟨by simpa [tabH] using i1, fun n a o e1 e2 => ?_⟩
    cases n with
    | zero =>
      simp only [tabH, List.map_cons, List.getElem?_cons_zero, Option.some.injEq] at e1 e2
      subst e1; subst e2
      obtain ⟨fy, oc, od, fd, osl, h1, h2, h3, h4⟩ := x.at_
      obtain ⟨qs, t1, t2, t3⟩ := LamX.TabS.nil (q := q) (hH p List.mem_cons_self)
      exact ⟨qs, t1, ⟨t2, fy, h1, h4.symm⟩, t3⟩
    | succ n =>
      simp only [tabH, List.map_cons, List.getElem?_cons_succ] at e1 e2
      exact i2 n a o e1 e2
end Sx

set_option Elab.async false
set_option linter.all false
set_option maxRecDepth 100000
namespace Sx
open PySem L2
end Sx

set_option Elab.async false
set_option linter.all false
set_option maxRecDepth 100000
namespace Sx
open PySem PySem.Spec PyProof.Rows L2
section
variable {X : Cx} {Wx : WX} {e o1 i1 o2 i2 : Expr} {ce co1 ci1 co2 ci2 : CE} {t1 t2 pt pos : Pos} {kt : Nat}
end
end Sx

set_option Elab.async false
set_option linter.all false
set_option maxRecDepth 100000
namespace Sx
open PySem PySem.Spec PyProof.Rows L2
def pairD : D → Option (L2.Key × D)
  | .tup [k, d] => match keyD k with
    | some q => some (q, d)
    | none => none
  | _ => none
def dMerge (l m : KD) : KD := m.foldl (fun acc kv => dPut acc kv.1 kv.2) l
section
variable {W : Wb} {μ : List Addr} {h : Hc} {H : Hp}
theorem RKs.merge : ∀ {m l : KD} {kw kv : List (L2.Key × V)}, RKs W μ H m kw → RKs W μ H l kv → RKs W μ H (dMerge l m) (mergeK kv kw)
  | [], l, kw, kv, r, q => by
    have r : kw = [] := r
    subst r
    exact q
  | (k, d) :: m, l, kw, kv, r, q => by
    obtain ⟨v, t, rfl, r1, r2⟩ := r
    show RKs W μ H (dMerge (dPut l k d) m) (mergeK (putK kv k v) t)
    exact RKs.merge r2 (q.put r1)
theorem pair_ok {d : D} {v : V} {q : L2.Key × D} (r : RD W μ H d v) (e : pairD d = some q) : ∃ p u, v = .ref p ∧ SqT W.K H p [kV q.1, u] ∧ RD W μ H q.2 u := by
  unfold pairD at e
  split at e
  · rename_i k x
    split at e
    · rename_i kk ek
      cases e
      simp only [RD, RDs] at r
      obtain ⟨a, vs, rfl, t, y, _, rfl, r1, u, _, rfl, r2, rfl⟩ := r
      have ey := key_ok r1 ek
      subst ey
      exact ⟨a, u, rfl, t.seq, r2⟩
    · cases e
  · cases e
theorem pairs_ok : ∀ {ds : List D} {vs : List V} {l : KD}, RDs W μ H ds vs → mapO pairD ds = some l → ∃ (ps : List Addr) (kvs : List (L2.Key × V)), vs = ps.map V.ref ∧ Paired (fun p kv => SqT W.K H p [kV kv.1, kv.2]) ps kvs ∧ RKs W μ H l kvs
  | [], vs, l, r, e => by
    have r : vs = [] := r
    subst r
    cases e
    exact ⟨[], [], rfl, .nil, rfl⟩
  | d :: ds, vs, l, r, e => by
    obtain ⟨v, t, rfl, r1, r2⟩ := r
    simp only [mapO] at e
    split at e
    · rename_i q eq_
      split at e
      · rename_i l2 el
        cases e
        obtain ⟨ps, kvs, rfl, pr, rk⟩ := pairs_ok r2 el
        obtain ⟨p, u, rfl, st, ru⟩ := pair_ok r1 eq_
        exact ⟨p :: ps, (q.1, u) :: kvs, rfl, .cons st pr, u, kvs, rfl, ru, rk⟩
      · cases e
    · cases e
end
end Sx

set_option Elab.async false
set_option linter.all false
set_option maxRecDepth 100000
namespace Sx
open PySem PySem.Spec PyProof.Rows L2
theorem fn_stuck {P : Program} {w : World} {K : PySem.W.Frag} {mg : Str → Option Value} {base : Heap} {k n : Nat} {f : Addr} {fd : FuncData} {ps : List Str} {W : Wb} : FnOk P w K mg base (L2.CX P w) k f fd ps (spOf W n (fun _ _ => .stuck)) :=
  ⟨fun _ _ _ _ ⟨_, _, _, _, _, _, z⟩ => z.elim, fun _ _ _ _ _ _ _ _ _ _ _ _ _ ⟨_, _, _, _, _, _, z⟩ => z.elim⟩
structure EI (K : PySem.W.Frag) (mg : Str → Option Value) (es : List Str) : Prop where
  cl : ∀ c ∈ es, ∀ C, mg c = some (.ref C) → PySem.W.findIn K (.ref C) "__class__" = some (some (.builtin "object.__class__")) ∧ (PySem.W.clsIn K C).isSome = true ∧ PySem.W.mroIn K C (.type "object") = some true
  sp : PySem.W.specialIn K (.builtin "object.__class__") "__get__" = some (some (.builtin "getset_descriptor.__get__"))
  tk : PySem.W.takesIn K (.builtin "object.__class__") = some true
end Sx

set_option Elab.async false
set_option linter.all false
set_option maxRecDepth 100000
namespace Sx
open PySem PySem.Spec PyProof.Rows L2
abbrev rowD (r : List (List Int)) : D := .tup (rL r)
theorem mapO_map {α β : Type} {f : α → Option β} {g : α → β} : ∀ l : List α, (∀ a ∈ l, f a = some (g a)) → mapO f l = some (l.map g)
  | [], _ => rfl
  | a :: l, h => by
    simp only [mapO, h a (by simp), mapO_map l fun x hx => h x (by simp [hx]), List.map_cons]
def pR (r : List (List Int)) : PyData := .tuple (r.map fun l => .tuple (l.map .int))
theorem toP_row {h : Hc} (r : List (List Int)) : toP h 8 (rowD r) = some (pR r) := by
  have e1 : ∀ l : List Int, toP h 7 (iT l) = some (.tuple (l.map .int)) := fun l => by simp only [toP, mapO_ints]
  have e2 : mapO (toP h 7) (rL r) = some (r.map fun l => .tuple (l.map .int)) := by
    have := mapO_map (f := fun l : List Int => toP h 7 (iT l)) (g := fun l => PyData.tuple (l.map .int)) r fun l _ => e1 l
    rw [← this]
    clear this
    induction r with
    | nil => rfl
    | cons a r ih => simp only [rL, List.map_cons, mapO]; simp only [rL] at ih; rw [ih]
  show toP h (7 + 1) (.tup (rL r)) = _
  simp only [toP, e2]
  rfl
theorem alk_ints : ∀ a b : List Int, PySem.W.alikeAll (a.map .int) (b.map .int) = true
  | [], _ => by simp [PySem.W.alikeAll]
  | _ :: _, [] => by simp [PySem.W.alikeAll]
  | x :: a, y :: b => by simp [PySem.W.alikeAll, PySem.W.alike, alk_ints a b]
theorem alk_rows : ∀ a b : List (List Int), PySem.W.alikeAll (a.map fun l => .tuple (l.map .int)) (b.map fun l => .tuple (l.map .int)) = true
  | [], _ => by simp [PySem.W.alikeAll]
  | _ :: _, [] => by simp [PySem.W.alikeAll]
  | x :: a, y :: b => by simp [PySem.W.alikeAll, PySem.W.alike, alk_ints x y, alk_rows a b]
theorem dep_ints : ∀ l : List Int, PyData.depthAll (l.map .int) = 0
  | [] => by simp [PyData.depthAll]
  | i :: l => by simp [PyData.depthAll, PyData.depth, dep_ints l]
theorem dep_rows : ∀ l : List (List Int), PyData.depthAll (l.map fun l => PyData.tuple (l.map .int)) ≤ 1
  | [] => by simp [PyData.depthAll]
  | i :: l => by
    have := dep_rows l
    simp only [List.map_cons, PyData.depthAll, PyData.depth, dep_ints]
    omega
theorem dataB_rows {L : List (List (List Int))} (k : ∀ r ∈ L, r ≠ []) : dataB (L.map pR) = true := by
  unfold dataB
  simp only [Bool.and_eq_true, Bool.or_eq_true, List.all_eq_true, decide_eq_true_eq]
  refine ⟨⟨fun p hp q hq => ?_, .inl fun p hp => ?_⟩, fun p hp => ?_⟩
  · obtain ⟨a, _, rfl⟩ := List.mem_map.mp hp
    obtain ⟨b, _, rfl⟩ := List.mem_map.mp hq
    simp only [pR, PySem.W.alike]
    exact alk_rows a b
  · obtain ⟨a, ha, rfl⟩ := List.mem_map.mp hp
    obtain ⟨x, r, e⟩ := List.exists_cons_of_ne_nil (k a ha)
    rw [e]; rfl
  · obtain ⟨a, _, rfl⟩ := List.mem_map.mp hp
    have := dep_rows a
    simp only [pR, PyData.depth]
    omega
theorem zip_maps {α β γ : Type} (f : α → β) (g : α → γ) : ∀ L : List α, (L.map f).zip (L.map g) = L.map fun r => (f r, g r)
  | [] => rfl
  | a :: L => by simp [zip_maps f g L]
end Sx

set_option Elab.async false
set_option linter.all false
set_option maxRecDepth 100000
namespace Sx
open PySem PySem.Spec PyProof.Rows L2
section
variable {P : Program} {w : World} {A : Around} {E : Value → Shared → Prop} {s : Shared}
set_option maxHeartbeats 3200000 in
end
theorem R.aside {W : Wb} {μ : List Addr} {h : Hc} {H : Hp} (x : R W μ h H) {p : Addr} {o : HO} (hp : H p = none) : R W μ h (upd H p o) ∧ Ext μ h H μ h (upd H p o) := by
  have E : Ext μ h H μ h (upd H p o) := ⟨⟨[], by simp, by simp⟩, fun a u e _ => by rw [upd_ne (ne_of_none e hp)]; exact e, fun a z => by
    unfold upd; split
    · simp
    · exact z, .refl _⟩
  refine ⟨⟨x.len, x.nd, fun n a q e1 e2 => ?_⟩, E⟩
  have r := x.ob n a q e1 e2
  obtain ⟨u, eu, _⟩ := r.some
  obtain ⟨l, ob⟩ := q
  cases ob with
  | lst ds =>
    obtain ⟨vs, e3, e4⟩ := r
    exact ⟨vs, by rw [upd_ne (ne_of_none eu hp)]; exact e3, RDs.ext E x ds vs e4⟩
  | dic kvs =>
    obtain ⟨vs, e3, e4⟩ := r
    exact ⟨vs, by rw [upd_ne (ne_of_none eu hp)]; exact e3, RDs.ext E x _ vs e4⟩
  | tab y q =>
    obtain ⟨ps, e3, e4, e5⟩ := r
    exact ⟨ps, by rw [upd_ne (ne_of_none eu hp)]; exact e3, e4, fun pos cv z => let ⟨c, z1, z2⟩ := e5 pos cv z; ⟨c, z1, by rw [upd_ne (ne_of_none z2 hp)]; exact z2⟩⟩
  | dcd kvs => exact r.keepD (by rw [upd_ne (ne_of_none eu hp)]) (fun d v => RD.ext E x d v)
  | dif kvs => exact r.keepF (by rw [upd_ne (ne_of_none eu hp)]) (fun d v => RD.ext E x d v)
end Sx

set_option Elab.async false
set_option linter.all false
set_option maxRecDepth 100000
namespace Sx
open PySem PySem.Spec PyProof.Rows L2
def MutAt (H : Hp) (p : Addr) : Prop := H p = none ∨ (∃ xs, H p = some (.lst xs)) ∨ ∃ kv, H p = some (.dK kv)
section
variable {W : Wd} {μ μ1 : List Addr} {h h1 : Hc} {H H1 : Hp} {p : Addr} {o' : HO}
theorem MutAt.ne (hp : MutAt H p) {a : Addr} {o : HO} (e : H a = some o) (h1 : ∀ xs, o ≠ .lst xs) (h2 : ∀ kv, o ≠ .dK kv) : a ≠ p := by
  rintro rfl
  rcases hp with q | ⟨xs, q⟩ | ⟨kv, q⟩
  · rw [q] at e; cases e
  · rw [q] at e; cases e; exact h1 _ rfl
  · rw [q] at e; cases e; exact h2 _ rfl
theorem MutAt.fix (hp : MutAt H p) {a : Addr} {o : HO} (e : H a = some o) (h1 : ∀ xs, o ≠ .lst xs := by intro _ z; cases z) (h2 : ∀ kv, o ≠ .dK kv := by intro _ z; cases z) : upd H p o' a = some o := by
  rw [upd_ne (hp.ne e h1 h2)]; exact e
mutual
theorem RD.offM (hp : MutAt H p) : ∀ (d : D) (v : V), RD W μ H d v → RD W μ (upd H p o') d v
  | .non, v, e => by simpa only [RD] using e
  | .bl _, v, e => by simpa only [RD] using e
  | .int _, v, e => by simpa only [RD] using e
  | .str _, v, e => by simpa only [RD] using e
  | .tup ds, v, e => by
    simp only [RD] at e ⊢
    obtain ⟨a, vs, e1, e2, e3⟩ := e
    refine ⟨a, vs, e1, ?_, RDs.offM hp ds vs e3⟩
    rcases e2 with ⟨o, e2, q⟩ | e2
    · exact .inl ⟨o, hp.fix e2, q⟩
    · exact .inr e2
  | .ref n, v, e => by simpa only [RD] using e
  | .flst ds, v, e => by
    simp only [RD] at e ⊢
    obtain ⟨a, vs, e1, e2, e3⟩ := e
    refine ⟨a, vs, e1, ?_, RDs.offM hp ds vs e3⟩
    rcases e2 with ⟨o, e2⟩ | e2
    · exact .inl ⟨o, hp.fix e2⟩
    · exact .inr e2
  | .obj c ns ds, v, e => by
    simp only [RD] at e ⊢
    obtain ⟨a, C, dx, vs, e1, e2, e3, e4, e5⟩ := e
    exact ⟨a, C, dx, vs, e1, e2, hp.fix e3, e4, RDs.offM hp ds vs e5⟩
  | .ty _, v, e => by simpa only [RD] using e
  | .gl _, v, e => by simpa only [RD] using e
  | .clo f c q vs ds, v, e => by
    simp only [RD] at e ⊢
    obtain ⟨e1, e2, e3⟩ := e
    exact ⟨e1, hp.fix e2, RDs.offM hp ds vs e3⟩
theorem RDs.offM (hp : MutAt H p) : ∀ (ds : List D) (vs : List V), RDs W μ H ds vs → RDs W μ (upd H p o') ds vs
  | [], vs, e => by simpa only [RDs] using e
  | d :: ds, vs, e => by
    simp only [RDs] at e ⊢
    obtain ⟨v, r, e1, e2, e3⟩ := e
    exact ⟨v, r, e1, RD.offM hp d v e2, RDs.offM hp ds r e3⟩
end
theorem RO.offM {a : Addr} {q : Bool × O} (hp : MutAt H p) (ha : a ≠ p) (x : RO W μ H a q) : RO W μ (upd H p o') a q := by
  obtain ⟨l, o⟩ := q
  cases o with
  | lst ds =>
    obtain ⟨vs, e1, e2⟩ := x
    exact ⟨vs, by rw [upd_ne ha]; exact e1, RDs.offM hp ds vs e2⟩
  | dic kvs =>
    obtain ⟨vs, e1, e2⟩ := x
    exact ⟨vs, by rw [upd_ne ha]; exact e1, RDs.offM hp _ vs e2⟩
  | tab y q =>
    obtain ⟨ps, e1, e2, e3⟩ := x
    refine ⟨ps, by rw [upd_ne ha]; exact e1, e2, fun pos cv z => ?_⟩
    obtain ⟨c, z1, z2⟩ := e3 pos cv z
    exact ⟨c, z1, hp.fix z2⟩
  | dcd kvs => exact x.keepD (upd_ne ha) (fun d v => RD.offM hp d v)
  | dif kvs => exact x.keepF (upd_ne ha) (fun d v => RD.offM hp d v)
theorem R.offM (x : R W μ h H) (hp : MutAt H p) (hn : p ∉ μ) : R W μ h (upd H p o') :=
  ⟨x.len, x.nd, fun n a q e1 e2 => (x.ob n a q e1 e2).offM hp (fun z => hn (z ▸ List.mem_of_getElem? e1))⟩
theorem RV.offM {d : D} {v : V} (hp : MutAt H p) (r : RV W μ H d v) : RV W μ (upd H p o') d v := by
  rcases r with r | ⟨c, y, rfl, a, C, dd, u, e1, e2, e3, e4, e5, e6⟩
  · exact .inl (RD.offM hp d v r)
  · exact .inr ⟨c, y, rfl, a, C, dd, u, e1, e2, e3, hp.fix e4, RD.offM hp y u e5, e6⟩
theorem RS.offM {ρ : Rho} {σ : L2.St} (rs : RS W μ H ρ σ) (hp : MutAt H p) : RS W μ (upd H p o') ρ σ :=
  ⟨rs.1, fun i d e => let ⟨v, a, b⟩ := rs.2 i d e; ⟨v, a, RV.offM hp b⟩⟩
theorem Ext.offM (E : Ext μ h H μ1 h1 H1) (hp : H p = none) : Ext μ h H μ1 h1 (upd H1 p o') :=
  ⟨E.pre, fun a o e k => by rw [upd_ne (ne_of_none e hp)]; exact E.frame a o e k, fun a z => by
    unfold upd; split
    · simp
    · exact E.dom a z, E.hc⟩
theorem RKs.offM {l : KD} {kv : List (L2.Key × V)} (hp : MutAt H p) (r : RKs W μ H l kv) : RKs W μ (upd H p o') l kv := by
  obtain ⟨vs, rfl, r'⟩ := r.to
  exact RKs.of (RDs.offM hp _ _ r')
theorem R.adoptD {l : KD} {kv : List (L2.Key × V)} (x : R W μ1 h1 H1) (E : Ext μ h H μ1 h1 H1) (hp : H p = none) (hn : p ∉ μ1) (e : H1 p = some (.dK kv)) (r : RKs W μ1 H1 l kv) :
    R W (μ1 ++ [p]) (h1 ++ [(false, .dic l)]) H1 ∧ Ext μ h H (μ1 ++ [p]) (h1 ++ [(false, .dic l)]) H1 := by
  obtain ⟨vs, rfl, r'⟩ := r.to
  refine ⟨⟨by simp [x.len], ?_, fun n a q e1 e2 => ?_⟩, ⟨?_, E.frame, E.dom, E.hc.trans fun n q e => ⟨q, by rw [List.getElem?_append_left (List.getElem?_eq_some_iff.mp e).1, e], fun _ => rfl⟩⟩⟩
  · rw [List.nodup_append]
    refine ⟨x.nd, by simp, fun a ha b hb z => ?_⟩
    simp at hb; subst hb; subst z
    exact hn ha
  · by_cases hn2 : n < μ1.length
    · rw [List.getElem?_append_left hn2] at e1
      rw [List.getElem?_append_left (by rw [← x.len]; exact hn2)] at e2
      exact (x.ob n a q e1 e2).pre
    · have hn3 : n = μ1.length := by
        have := (List.getElem?_eq_some_iff.mp e1).1
        simp at this; omega
      subst hn3
      simp at e1; subst e1
      rw [x.len] at e2
      simp at e2; subst e2
      exact ⟨vs, .inl e, RDs.pre _ vs r'⟩
  · obtain ⟨m, e1, f⟩ := E.pre
    refine ⟨m ++ [p], by rw [e1, List.append_assoc], fun a ha => ?_⟩
    rcases List.mem_append.mp ha with z | z
    · exact f a z
    · simp at z; subst z; exact hp
end
def kCD (W : Wd) (μ1 : List Addr) (h1 : Hc) (H1 : Hp) (p : Addr) (Q : V → Hp → Prop) : Res KD → Prop
  | .ok l h3 => ∀ μ3 H3 kv, R W μ3 h3 H3 → Ext μ1 h1 H1 μ3 h3 H3 → p ∉ μ3 → H3 p = some (.dK kv) → RKs W μ3 H3 l kv → Q (.ref p) H3
  | _ => False
section
variable {X : Cx} {Wx : WX} {tg it kx vx : Expr} {ifs : List Expr} {tp : Bool} {ci : CI} {t : TGT} {tt : CT} {ck cv : CE} {scope : Scope} {own : List (Str × Nat)} {pos : Pos}
theorem kCD.start {μ μ1 : List Addr} {h h1 : Hc} {H H1 : Hp} {σ : L2.St} {Q : V → Hp → Prop} {ls : List Nat} {p : Addr} {r : Res KD} {W : Wd} (x : R W μ h H) (x1 : R W μ1 h1 H1) (E : Ext μ h H μ1 h1 H1) (hp : H1 p = none)
    (k : kR (RD W) W Wx μ h H σ Q ((ulkR h1 ls (noX r)).bind fun l h2 => .ok (.ref h2.length) (h2 ++ [(false, .dic l)]))) : kCD W μ1 (lckL ls h1) H1 p Q r := by
  cases r with
  | ok l h3 =>
    intro μ3 H3 kv r3 E3 hn e rd
    obtain ⟨a, b⟩ := x1.unlk r3 E3
    obtain ⟨c, d⟩ := R.adoptD a b hp hn e (l := l) rd
    refine k _ _ _ c (E.trans x d) ?_
    simp only [RD]
    exact ⟨p, by rw [← a.len]; simp, rfl⟩
  | exn c x h => exact False.elim k
  | stuck => exact False.elim k
end
end Sx

set_option Elab.async false
set_option linter.all false
set_option maxRecDepth 100000
namespace Sx
open PySem PySem.Spec PyProof.Rows L2
structure RgOk (X : Cx) (a : Expr) : Prop where
  g : Gl X "range"
  m : X.mg "range" = none
  hs : starEach [a] X.env = [(false, eval a X.env)]
  h0 : starEach [a] X.env = (false, eval a X.env) :: starEach [] X.env
section
variable {X : Cx} {Wx : WX} {tg it elt tg1 it1 : Expr} {ifs ifs1 : List Expr} {tp : Bool} {ci : CI} {ci1 : CE} {t t1 : TGT} {tt tt1 : CT} {ce : CE} {scope : Scope} {own : List (Str × Nat)} {vs1 : List Nat} {pos : Pos}
end

end Sx

set_option Elab.async false
set_option linter.all false
set_option maxRecDepth 100000
namespace Sx
open PySem PySem.Spec PyProof.Rows L2
def gComb : GL := fun xs h => match xs with
  | [.int a, .int b] => if (decide (0 ≤ a) && decide (a ≤ 1000)) && (decide (0 ≤ b) && decide (b ≤ 1000)) then some (.int (PySem.W.mcComb a b), h) else none
  | _ => none
theorem cr_comb {X : Cx} : CallR X (.builtin "math.comb") (fun vs H Q => ∃ a b : Int, vs = [.int a, .int b] ∧ 0 ≤ a ∧ a ≤ 1000 ∧ 0 ≤ b ∧ b ≤ 1000 ∧ Q (.int (PySem.W.mcComb a b)) H) := by
  intro pins s σ H vs us Q I r h
  obtain ⟨a, b, rfl, h0, h1, h2, h3, q⟩ := h
  obtain ⟨t, u, rfl⟩ := Vals.int2 r
  exact PySem.W.mc_comb h0 h2 (by omega) (.inl (by omega)) fun _ => ⟨.int _, H, I.tok _, ⟨_, rfl⟩, q⟩
theorem k_comb {X : Cx} : CallR X (.builtin "math.comb") (lVs (wd X) gComb) := by
  intro pins s σ H xs us Q I r k
  obtain ⟨μ, h, ds, x, rs, k⟩ := k
  unfold gComb at k
  split at k
  · split at k
    · rename_i hb
      simp only [Bool.and_eq_true, decide_eq_true_eq] at hb
      obtain ⟨v, w, rfl, rd, re⟩ := rds2 rs
      simp only [RD] at rd re; subst rd; subst re
      exact cr_comb pins s σ H _ us Q I r ⟨_, _, rfl, hb.1.1, hb.1.2, hb.2.1, hb.2.2, k.here x (by simp only [RD])⟩
    · exact False.elim k
  · exact False.elim k
def rgD (j : Int) : List D := (List.range j.toNat).map fun (i : Nat) => .int (i : Int)
def cLrg (a : CE) : CE := fun ρ h => (a ρ h).bind fun x h1 => match x with
  | .int j => if decide (0 ≤ j) && decide (j ≤ 1000000) then .ok (.ref h1.length) (h1 ++ [(false, .lst (rgD j))]) else .stuck
  | _ => .stuck
theorem rds_rg {W : Wd} {μ : List Addr} {H : Hp} (j : Int) : RDs W μ H (rgD j) (rgV 0 j) := by
  unfold rgD rgV
  have e : (j - 0).toNat = j.toNat := by omega
  rw [e]
  generalize List.range j.toNat = l
  induction l with
  | nil => exact RDs.nil
  | cons i l ih =>
    rw [List.map_cons, List.map_cons]
    exact RDs.cons (by simp only [RD]; congr 1; omega) ih
section
variable {X : Cx} {Wx : WX} {a : Expr} {ca : CE} {p p2 q : Pos} {pos : Pos}
theorem s_lrg (hc : X.calm = true) (hg : Gl X "list") (hm : X.mg "list" = none) (hgr : Gl X "range") (hmr : X.mg "range" = none) (ha : SE X Wx a ca) (na : starEach [a] X.env = (false, eval a X.env) :: starEach [] X.env := by rfl)
    (nb : starEach [.Call (.Name "range" q) [a] [] p2] X.env = (false, eval (.Call (.Name "range" q) [a] [] p2) X.env) :: starEach [] X.env := by rfl) : SE X Wx (.Call (.Name "list" p) [.Call (.Name "range" q) [a] [] p2] [] pos) (cLrg ca) :=
  pe_mono (pe_listRg hc hg hm (prg_1 hgr hmr ha na) nb) fun σ H Q ⟨μ, ρ, h, r, rs, k⟩ => by
    refine ⟨μ, ρ, h, r, rs, (kR.bind r k).imp fun v H1 ⟨x, μ1, h1, _, r1, e1, d1, k1⟩ => ?_⟩
    cases x with
    | int j =>
      simp only at k1
      split at k1
      · rename_i hj
        simp only [Bool.and_eq_true, decide_eq_true_eq] at hj
        simp only [RD] at d1
        refine ⟨j, d1, ⟨by omega, by omega, by omega, by omega, by omega⟩, fun q0 hq => ?_⟩
        exact (kO.of (o := some (.ref h1.length, h1 ++ [(false, .lst (rgD j))])) k1).lst r1 (rds_rg j) hq
      · exact False.elim k1
    | _ => exact False.elim k1
end
section
variable {P : Program} {w : World} {A : Around} {E : Value → Shared → Prop} {s : Shared}
set_option maxHeartbeats 3200000 in
end
end Sx

set_option Elab.async false
set_option linter.all false
set_option maxRecDepth 100000
namespace Sx
open PySem PySem.Spec PyProof.Rows L2
abbrev TD := List (D × D)
def tGet : TD → D → Option D
  | [], _ => none
  | p :: r, k => if p.1 = k then some p.2 else tGet r k
def tPut (l : TD) (k d : D) : TD := if (tGet l k).isSome = true then l.map (fun p => if p.1 = k then (p.1, d) else p) else l ++ [(k, d)]
mutual
theorem keyN_inj : ∀ (a b : D) (k : NestedKey), keyN a = some k → keyN b = some k → a = b
  | .non, b, k, ha, hb => by
    simp only [keyN] at ha
    cases ha
    cases b with
    | non => rfl
    | int i => simp only [keyN] at hb; cases hb
    | tup ds =>
      simp only [keyN] at hb
      split at hb <;> cases hb
    | _ => simp only [keyN] at hb; cases hb
  | .int i, b, k, ha, hb => by
    simp only [keyN] at ha
    cases ha
    cases b with
    | non => simp only [keyN] at hb; cases hb
    | int j => simp only [keyN] at hb; cases hb; rfl
    | tup ds =>
      simp only [keyN] at hb
      split at hb <;> cases hb
    | _ => simp only [keyN] at hb; cases hb
  | .tup as, b, k, ha, hb => by
    simp only [keyN] at ha
    split at ha
    · rename_i ks e
      cases ha
      cases b with
      | non => simp only [keyN] at hb; cases hb
      | int j => simp only [keyN] at hb; cases hb
      | tup bs =>
        simp only [keyN] at hb
        split at hb
        · rename_i ls f
          cases hb
          rw [keyNs_inj as bs _ e f]
        · cases hb
      | _ => simp only [keyN] at hb; cases hb
    · cases ha
  | .bl _, _, _, ha, _ => by simp only [keyN] at ha; cases ha
  | .str _, _, _, ha, _ => by simp only [keyN] at ha; cases ha
  | .ref _, _, _, ha, _ => by simp only [keyN] at ha; cases ha
  | .flst _, _, _, ha, _ => by simp only [keyN] at ha; cases ha
  | .obj _ _ _, _, _, ha, _ => by simp only [keyN] at ha; cases ha
  | .ty _, _, _, ha, _ => by simp only [keyN] at ha; cases ha
  | .gl _, _, _, ha, _ => by simp only [keyN] at ha; cases ha
  | .err _ _, _, _, ha, _ => by simp only [keyN] at ha; cases ha
  | .clo _ _ _ _ _, _, _, ha, _ => by simp only [keyN] at ha; cases ha
theorem keyNs_inj : ∀ (as bs : List D) (ks : List NestedKey), keyNs as = some ks → keyNs bs = some ks → as = bs
  | [], bs, ks, ha, hb => by
    simp only [keyNs] at ha
    cases ha
    cases bs with
    | nil => rfl
    | cons d r =>
      simp only [keyNs] at hb
      split at hb
      · split at hb <;> cases hb
      · cases hb
  | a :: as, bs, ks, ha, hb => by
    simp only [keyNs] at ha
    split at ha
    · rename_i k e1
      split at ha
      · rename_i ks' e2
        cases ha
        cases bs with
        | nil => simp only [keyNs] at hb; cases hb
        | cons d r =>
          simp only [keyNs] at hb
          split at hb
          · rename_i k2 f1
            split at hb
            · rename_i ks2 f2
              cases hb
              rw [keyN_inj a d _ e1 f1, keyNs_inj as r _ e2 f2]
            · cases hb
          · cases hb
      · cases ha
    · cases ha
end
theorem keyT_N {d : D} {k : NestedKey} (e : keyT d = some k) : keyN d = some k ∧ k.depth ≤ 8 := by
  unfold keyT at e
  split at e
  · rename_i ds
    split at e
    · rename_i ks f
      split at e
      · rename_i hd
        cases e
        exact ⟨by simp only [keyN, f], hd⟩
      · cases e
    · cases e
  · cases e
theorem keyT_inj {a b : D} {k : NestedKey} (ha : keyT a = some k) (hb : keyT b = some k) : a = b := keyN_inj a b k (keyT_N ha).1 (keyT_N hb).1
mutual
theorem hash_free (w w' : World) : ∀ (d : D) (k : NestedKey), keyN d = some k → k.hash w = k.hash w'
  | .non, k, h => by simp only [keyN] at h; cases h; rfl
  | .int i, k, h => by simp only [keyN] at h; cases h; rfl
  | .tup ds, k, h => by
    simp only [keyN] at h
    split at h
    · rename_i ks e
      cases h
      simp only [NestedKey.hash, hashes_free w w' ds ks e]
    · cases h
  | .bl _, _, h => by simp only [keyN] at h; cases h
  | .str _, _, h => by simp only [keyN] at h; cases h
  | .ref _, _, h => by simp only [keyN] at h; cases h
  | .flst _, _, h => by simp only [keyN] at h; cases h
  | .obj _ _ _, _, h => by simp only [keyN] at h; cases h
  | .ty _, _, h => by simp only [keyN] at h; cases h
  | .gl _, _, h => by simp only [keyN] at h; cases h
  | .err _ _, _, h => by simp only [keyN] at h; cases h
  | .clo _ _ _ _ _, _, h => by simp only [keyN] at h; cases h
theorem hashes_free (w w' : World) : ∀ (ds : List D) (ks : List NestedKey), keyNs ds = some ks → NestedKey.hashes w ks = NestedKey.hashes w' ks
  | [], ks, h => by simp only [keyNs] at h; cases h; rfl
  | d :: ds, ks, h => by
    simp only [keyNs] at h
    split at h
    · rename_i k e1
      split at h
      · rename_i ks' e2
        cases h
        simp only [NestedKey.hashes, hash_free w w' d k e1, hashes_free w w' ds ks' e2]
      · cases h
    · cases h
end
section
variable {X : Cx} {pins : List (Addr × Obj)} {s : Shared} {σ : L2.St} {H : Hp} {μ : List Addr} {h : Hc}
mutual
theorem nest_is (I : Inv X pins σ H s) : ∀ (d : D) (v : V) (u : Value) (k : NestedKey), RD (wd X) μ H d v → keyN d = some k → RelV v u → NestedIs s.heap k u
  | .non, v, u, k, r, e, ru => by
    simp only [RD] at r
    simp only [keyN] at e
    subst r; cases e
    cases (show u = Value.none from ru)
    exact .none
  | .int i, v, u, k, r, e, ru => by
    simp only [RD] at r
    simp only [keyN] at e
    subst r; cases e
    obtain ⟨t, rfl⟩ := (show ∃ t, u = Value.int i t from ru)
    exact .int i t
  | .tup ds, v, u, k, r, e, ru => by
    simp only [RD] at r
    obtain ⟨a, vs, rfl, tp, rs⟩ := r
    cases (show u = Value.ref a from ru)
    simp only [keyN] at e
    split at e
    · rename_i ks f
      cases e
      rcases tp with ⟨ob, h1, _⟩ | ⟨ob, its, n, h1, h2, _, h4, _, h5⟩
      · obtain ⟨_, _, its, vv, o, g1, g2, n, g3⟩ := (show ObjOk X.prog X.w H s.heap a (.frz ob (.tup vs)) from I.hok a _ h1)
        exact .tup g1 g2 g3 (by simpa using nest_all I ds vs its ks rs f vv)
      · exact .tup (I.kIn a ob h1) h2 h4 (nest_all I ds vs _ ks rs f h5)
    · cases e
  | .bl _, _, _, _, _, e, _ => by simp only [keyN] at e; cases e
  | .str _, _, _, _, _, e, _ => by simp only [keyN] at e; cases e
  | .ref _, _, _, _, _, e, _ => by simp only [keyN] at e; cases e
  | .flst _, _, _, _, _, e, _ => by simp only [keyN] at e; cases e
  | .obj _ _ _, _, _, _, _, e, _ => by simp only [keyN] at e; cases e
  | .ty _, _, _, _, _, e, _ => by simp only [keyN] at e; cases e
  | .gl _, _, _, _, _, e, _ => by simp only [keyN] at e; cases e
  | .err _ _, _, _, _, _, e, _ => by simp only [keyN] at e; cases e
  | .clo _ _ _ _ _, _, _, _, _, e, _ => by simp only [keyN] at e; cases e
theorem nest_all (I : Inv X pins σ H s) : ∀ (ds : List D) (vs : List V) (us : List Value) (ks : List NestedKey), RDs (wd X) μ H ds vs → keyNs ds = some ks → Vals vs us → NestedAll s.heap ks us
  | [], vs, us, ks, r, e, ru => by
    simp only [RDs] at r; subst r
    simp only [keyNs] at e; cases e
    cases ru
    exact .nil
  | d :: ds, vs, us, ks, r, e, ru => by
    simp only [RDs] at r
    obtain ⟨v, t, rfl, r1, r2⟩ := r
    simp only [keyNs] at e
    split at e
    · rename_i k e1
      split at e
      · rename_i ks' e2
        cases e
        cases ru with
        | cons a b => exact .cons (nest_is I d v _ k r1 e1 a) (nest_all I ds t _ ks' r2 e2 b)
      · cases e
    · cases e
end
theorem key_is (I : Inv X pins σ H s) {d : D} {b : Addr} {k : NestedKey} (r : RD (wd X) μ H d (.ref b)) (e : keyT d = some k) : (nestedKind X.prog X.w).is s.heap k b :=
  ⟨nest_is I d (.ref b) (.ref b) k r (keyT_N e).1 rfl, (keyT_N e).2⟩
end
def EntX (W : Wb) (μ : List Addr) (H : Hp) : TD → List (NestedKey × Addr × Value) → Prop
  | [], xs => xs = []
  | p :: r, xs => ∃ nk b u v t, xs = (nk, b, u) :: t ∧ keyT p.1 = some nk ∧ RD W μ H p.1 (.ref b) ∧ RelV v u ∧ RD W μ H p.2 v ∧ EntX W μ H r t
section
variable {W : Wb} {μ : List Addr} {H : Hp}
theorem EntX.of (P : Program) (w : World) : ∀ {l : TD} {es : List DictEntry}, EntRs W μ H l es → ∃ xs, EntX W μ H l xs ∧ es = xs.map (entryOfKey (nestedKind P w))
  | [], es, r => ⟨[], rfl, r⟩
  | p :: l, es, ⟨e, t, h1, ⟨b, v, nk, e1, e2, e3, e4, e5, e6⟩, h3⟩ => by
    obtain ⟨xs, q1, q2⟩ := EntX.of P w h3
    refine ⟨(nk, b, e.val) :: xs, ⟨nk, b, e.val, v, xs, rfl, e2, e4, e5, e6, q1⟩, ?_⟩
    rw [h1, q2, List.map_cons]
    congr 1
    obtain ⟨eh, ek, ev⟩ := e
    obtain rfl : ek = .ref b := e1
    obtain rfl : eh = nk.hash w := e3 w
    rfl
theorem EntX.to {P : Program} {w : World} : ∀ {l : TD} {xs : List (NestedKey × Addr × Value)}, EntX W μ H l xs → EntRs W μ H l (xs.map (entryOfKey (nestedKind P w)))
  | [], xs, r => by have r : xs = [] := r; subst r; exact rfl
  | p :: l, xs, ⟨nk, b, u, v, t, h1, h2, h3, h4, h5, h6⟩ => by
    subst h1
    exact ⟨_, _, rfl, ⟨b, v, nk, rfl, h2, fun w' => hash_free w w' p.1 nk (keyT_N h2).1, h3, h4, h5⟩, EntX.to h6⟩
theorem EntX.len : ∀ {l : TD} {xs : List (NestedKey × Addr × Value)}, EntX W μ H l xs → xs.length = l.length
  | [], xs, r => by have r : xs = [] := r; subst r; rfl
  | p :: l, xs, ⟨nk, b, u, v, t, h1, h2, h3, h4, h5, h6⟩ => by subst h1; simp [EntX.len h6]
theorem EntX.get {kd : D} {nk : NestedKey} (hk : keyT kd = some nk) : ∀ {l : TD} {xs : List (NestedKey × Addr × Value)}, EntX W μ H l xs → (∀ d, tGet l kd = some d → ∃ p w, atKey xs nk = some p ∧ RelV w p.2 ∧ RD W μ H d w) ∧ (tGet l kd = none → atKey xs nk = none)
  | [], xs, r => by
    have r : xs = [] := r
    subst r
    exact ⟨fun d e => (by cases e), fun _ => rfl⟩
  | p :: l, xs, ⟨nk', b, u, v, t, h1, h2, h3, h4, h5, h6⟩ => by
    subst h1
    obtain ⟨g1, g2⟩ := EntX.get hk h6
    by_cases c : p.1 = kd
    · have en : nk' = nk := by
        rw [c, hk] at h2
        exact (Option.some.inj h2).symm
      have q : atKey ((nk', b, u) :: t) nk = some (b, u) := by simp [atKey, List.find?_cons, en]
      refine ⟨fun d e => ?_, fun e => ?_⟩
      · simp only [tGet, if_pos c] at e
        cases e
        exact ⟨_, v, q, h4, h5⟩
      · simp only [tGet, if_pos c] at e
        cases e
    · have en : nk' ≠ nk := fun z => c (keyT_inj (z ▸ h2) hk)
      have q : atKey ((nk', b, u) :: t) nk = atKey t nk := by simp [atKey, List.find?_cons, en]
      refine ⟨fun d e => ?_, fun e => ?_⟩
      · simp only [tGet, if_neg c] at e
        rw [q]; exact g1 d e
      · simp only [tGet, if_neg c] at e
        rw [q]; exact g2 e
theorem EntX.app : ∀ {l m : TD} {xs ys : List (NestedKey × Addr × Value)}, EntX W μ H l xs → EntX W μ H m ys → EntX W μ H (l ++ m) (xs ++ ys)
  | [], m, xs, ys, r, q => by have r : xs = [] := r; subst r; exact q
  | p :: l, m, xs, ys, ⟨nk, b, u, v, t, h1, h2, h3, h4, h5, h6⟩, q => by
    subst h1
    exact ⟨nk, b, u, v, _, rfl, h2, h3, h4, h5, EntX.app h6 q⟩
theorem EntX.mapped {kd d : D} {nk : NestedKey} {u : Value} {v : V} (hk : keyT kd = some nk) (rv : RelV v u) (rd : RD W μ H d v) : ∀ {l : TD} {xs : List (NestedKey × Addr × Value)}, EntX W μ H l xs → EntX W μ H (l.map fun p => if p.1 = kd then (p.1, d) else p) (xs.map (PySem.putAt nk u))
  | [], xs, r => by have r : xs = [] := r; subst r; exact rfl
  | p :: l, xs, ⟨nk', b, u', v', t, h1, h2, h3, h4, h5, h6⟩ => by
    subst h1
    rw [List.map_cons, List.map_cons]
    by_cases c : p.1 = kd
    · have en : nk' = nk := by
        rw [c, hk] at h2
        exact (Option.some.inj h2).symm
      rw [if_pos c]
      exact ⟨nk', b, u, v, _, by rw [PySem.putAt, if_pos en], h2, h3, rv, rd, EntX.mapped hk rv rd h6⟩
    · have en : nk' ≠ nk := fun z => c (keyT_inj (z ▸ h2) hk)
      rw [if_neg c]
      exact ⟨nk', b, u', v', _, by rw [PySem.putAt, if_neg en], h2, h3, h4, h5, EntX.mapped hk rv rd h6⟩
theorem EntX.put {kd d : D} {nk : NestedKey} {b : Addr} {u : Value} {v : V} (hk : keyT kd = some nk) (rb : RD W μ H kd (.ref b)) (rv : RelV v u) (rd : RD W μ H d v) {l : TD} {xs : List (NestedKey × Addr × Value)} (r : EntX W μ H l xs) : EntX W μ H (tPut l kd d) (storedH xs nk b u) := by
  obtain ⟨g1, g2⟩ := EntX.get hk r
  unfold tPut storedH
  cases e : tGet l kd with
  | none =>
    rw [g2 e]
    exact EntX.app r ⟨nk, b, u, v, [], rfl, hk, rb, rv, rd, rfl⟩
  | some d' =>
    obtain ⟨p, w, q, _⟩ := g1 d' e
    rw [q]
    exact EntX.mapped hk rv rd r
theorem EntX.mono {μ' : List Addr} {H' : Hp} (f : ∀ d v, RD W μ H d v → RD W μ' H' d v) : ∀ {l : TD} {xs : List (NestedKey × Addr × Value)}, EntX W μ H l xs → EntX W μ' H' l xs
  | [], xs, r => r
  | p :: l, xs, ⟨nk, b, u, v, t, h1, h2, h3, h4, h5, h6⟩ => ⟨nk, b, u, v, t, h1, h2, f _ _ h3, h4, f _ _ h5, EntX.mono f h6⟩
end
theorem tGet_mem {k : D} : ∀ {l : TD}, (tGet l k).isSome = true ↔ k ∈ l.map (·.1)
  | [] => by simp [tGet]
  | p :: l => by
    by_cases c : p.1 = k
    · simp [tGet, c]
    · simp only [tGet, if_neg c, List.map_cons, List.mem_cons, tGet_mem (l := l)]
      constructor
      · exact .inr
      · rintro (z | z)
        · exact absurd z.symm c
        · exact z
theorem tPut_keys {l : TD} {k d : D} : (tPut l k d).map (·.1) = if k ∈ l.map (·.1) then l.map (·.1) else l.map (·.1) ++ [k] := by
  unfold tPut
  by_cases c : k ∈ l.map (·.1)
  · rw [if_pos (tGet_mem.mpr c), if_pos c, List.map_map]
    refine List.map_congr_left fun p _ => ?_
    simp only [Function.comp_apply]
    split <;> rfl
  · rw [if_neg (fun z => c (tGet_mem.mp z)), if_neg c]
    simp
theorem tPut_nd {l : TD} {k d : D} (nd : (l.map (·.1)).Nodup) : ((tPut l k d).map (·.1)).Nodup := by
  rw [tPut_keys]
  split
  · exact nd
  · rename_i c
    refine List.nodup_append.mpr ⟨nd, by simp, fun a ha b hb e => ?_⟩
    simp at hb
    subst hb; subst e
    exact c ha
theorem tPut_len {l : TD} {k d : D} : (tPut l k d).length ≤ l.length + 1 := by
  unfold tPut
  split <;> simp
def asT (n : Nat) (h : Hc) : Option (Bool × TD) := match h[n]? with
  | some (f, .dcd l) => some (f, l)
  | some (f, .dic []) => some (f, [])
  | _ => none
section
variable {X : Cx} {pins : List (Addr × Obj)} {s : Shared} {σ : L2.St} {H : Hp} {μ : List Addr} {h : Hc}
theorem at_dcd (I : Inv X pins σ H s) (x : R (wd X) μ h H) {n : Nat} {v : V} {f : Bool} {l : TD} (r : RD (wd X) μ H (.ref n) v) (e : asT n h = some (f, l)) :
    ∃ a xs o, v = .ref a ∧ μ[n]? = some a ∧ h[n]? = some (f, o) ∧ (a == sysModules) = false ∧ (l.map (·.1)).Nodup ∧ l.length ≤ sizeLine ∧ s.heap.DictOfH (nestedKind X.prog X.w) a xs ∧ EntX (wd X) μ H l xs ∧ (f = false → ∃ u, H a = some u ∧ Mut (some u)) := by
  simp only [RD] at r
  obtain ⟨a, e1, rfl⟩ := r
  obtain ⟨p, e2, ro⟩ := x.at e1
  obtain ⟨f', o⟩ := p
  unfold asT at e
  rw [e2] at e
  cases o with
  | lst _ => cases e
  | tab _ _ => cases e
  | dif _ => cases e
  | dcd l' =>
    cases e
    obtain ⟨h1, h2, h3, es, ep, h4, h5⟩ := ro
    obtain ⟨xs, q1, q2⟩ := EntX.of X.prog X.w h5
    have ob : ObjOk X.prog X.w H s.heap a (.ext fun h => h.DictRaw a es ep) := I.hok a _ h4
    obtain ⟨⟨o, g1, g2, g3⟩, _⟩ := ob
    have is : ∀ (l' : TD) (xs : List (NestedKey × Addr × Value)), EntX (wd X) μ H l' xs → (∀ x ∈ xs, (nestedKind X.prog X.w).is s.heap x.1 x.2.1) ∧ ∀ k ∈ xs.map (·.1), ∃ p ∈ l', keyT p.1 = some k := by
      intro l'
      induction l' with
      | nil => intro xs r; have r : xs = [] := r; subst r; simp
      | cons p l' ih =>
        rintro xs ⟨nk, b, u, v, t, z1, z2, z3, z4, z5, z6⟩
        subst z1
        obtain ⟨i1, i2⟩ := ih t z6
        refine ⟨fun x hx => ?_, fun k hk => ?_⟩
        · rcases List.mem_cons.mp hx with z | z
          · subst z; exact key_is I z3 z2
          · exact i1 x z
        · rw [List.map_cons] at hk
          rcases List.mem_cons.mp hk with z | z
          · subst z; exact ⟨p, by simp, z2⟩
          · obtain ⟨q, m, w⟩ := i2 k z
            exact ⟨q, List.mem_cons_of_mem _ m, w⟩
    have nd : ∀ (l' : TD) (xs : List (NestedKey × Addr × Value)), EntX (wd X) μ H l' xs → (l'.map (·.1)).Nodup → (xs.map (·.1)).Nodup := by
      intro l'
      induction l' with
      | nil => intro xs r _; have r : xs = [] := r; subst r; simp
      | cons p l' ih =>
        rintro xs ⟨nk, b, u, v, t, z1, z2, z3, z4, z5, z6⟩ n
        subst z1
        rw [List.map_cons] at n ⊢
        obtain ⟨n1, n2⟩ := List.nodup_cons.mp n
        refine List.nodup_cons.mpr ⟨fun hm => ?_, ih t z6 n2⟩
        obtain ⟨q, m, w⟩ := (is l' t z6).2 nk hm
        exact n1 (keyT_inj z2 w ▸ List.mem_map.mpr ⟨q, m, rfl⟩)
    exact ⟨a, xs, _, rfl, e1, e2, h1, h2, h3, ⟨o, es, ep, g1, g2, g3, q2, (is l xs q1).1, nd l xs q1 h2⟩, q1, fun _ => ⟨_, h4, trivial⟩⟩
  | dic l' =>
    cases l' with
    | cons _ _ => cases e
    | nil =>
      cases e
      obtain ⟨vs, h1, h2⟩ := ro
      have rd : Rd H a (.dK []) := by
        rcases h1 with h1 | ⟨_, o, h1⟩
        · exact .inl (by simpa using h1)
        · exact .inr ⟨o, by simpa using h1⟩
      obtain ⟨_, g1, ws, g2, o, es, ep, g3, g4, g5, _, g6, _⟩ := dk_rd I.hok rd
      have ew : ws = [] := by cases g2; rfl
      subst ew
      have ee : es.toList = [] := by
        have := g6
        cases hh : es.toList with
        | nil => rfl
        | cons a b => rw [hh] at this; cases this
      refine ⟨a, [], _, rfl, e1, e2, g1, by simp, by simp, ⟨o, es, ep, g3, g4, g5, by simp [ee], by simp, by simp⟩, rfl, fun hf => ?_⟩
      rcases h1 with h1 | ⟨z, _⟩
      · exact ⟨_, h1, trivial⟩
      · rw [hf] at z; cases z
theorem R.putX (x : R (wd X) μ h H) {n : Nat} {a : Addr} {o' : O} {l : TD} {es : Array DictEntry} {ep : Nat} (e : μ[n]? = some a) (e2 : h[n]? = some (false, o')) (hs : (a == sysModules) = false) (nd : (l.map (·.1)).Nodup) (hl : l.length ≤ sizeLine) (r : EntRs (wd X) μ H l es.toList) :
    R (wd X) μ (h.set n (false, .dcd l)) (upd H a (.ext fun h => h.DictRaw a es ep)) ∧ Ext μ h H μ (h.set n (false, .dcd l)) (upd H a (.ext fun h => h.DictRaw a es ep)) := by
  have hlt : n < h.length := (List.getElem?_eq_some_iff.mp e2).1
  have hc : HcExt h (h.set n (false, .dcd l)) := fun m q e3 => by
    by_cases hm : m = n
    · subst hm
      rw [e2] at e3; cases e3
      exact ⟨(false, .dcd l), by rw [List.getElem?_set_self hlt], fun z => by cases z⟩
    · exact ⟨q, by rw [List.getElem?_set_ne (Ne.symm hm), e3], fun _ => rfl⟩
  have E : Ext μ h H μ (h.set n (false, .dcd l)) (upd H a (.ext fun h => h.DictRaw a es ep)) := ⟨⟨[], by simp, by simp⟩, fun b u e3 k => by
    have hb : b ≠ a := fun z => by
      subst z
      have := k n _ e e2
      cases this
    rw [upd_ne hb]; exact e3, fun b z => by
    unfold upd; split
    · simp
    · exact z, hc⟩
  refine ⟨⟨by simp [x.len], x.nd, fun m b q e1 e3 => ?_⟩, E⟩
  by_cases hm : m = n
  · subst hm
    rw [List.getElem?_set_self hlt] at e3; cases e3
    rw [e] at e1; cases e1
    exact ⟨hs, nd, hl, es, ep, upd_same, r.mono (fun d v => RD.ext E x d v)⟩
  · rw [List.getElem?_set_ne (Ne.symm hm)] at e3
    have hb : b ≠ a := fun z => by
      subst z
      exact hm (getElem?_inj_nodup x.nd e1 e)
    have r := x.ob m b q e1 e3
    obtain ⟨l, ob⟩ := q
    cases ob with
    | lst ds' =>
      obtain ⟨vs', e4, e5⟩ := r
      exact ⟨vs', by rw [upd_ne hb]; exact e4, RDs.ext E x ds' vs' e5⟩
    | dic kvs' =>
      obtain ⟨vs', e4, e5⟩ := r
      exact ⟨vs', by rw [upd_ne hb]; exact e4, RDs.ext E x _ vs' e5⟩
    | tab y q =>
      obtain ⟨ps, e4, e5, e6⟩ := r
      exact ⟨ps, by rw [upd_ne hb]; exact e4, e5, fun pos cv z => let ⟨c, z1, z2⟩ := e6 pos cv z; ⟨c, z1, by rw [upd_ne ((x.ob n a _ e e2).nc z2)]; exact z2⟩⟩
    | dcd kvs => exact r.keepD (upd_ne hb) (fun d v => RD.ext E x d v)
    | dif kvs => exact r.keepF (upd_ne hb) (fun d v => RD.ext E x d v)
end
theorem R.dkf {W : Wb} {μ : List Addr} {h : Hc} {H : Hp} (x : R W μ h H) {n : Nat} {v : V} {f : Bool} {l : KD} (r : RD W μ H (.ref n) v) (e : h[n]? = some (f, .dif l)) : ∃ a kv, v = .ref a ∧ μ[n]? = some a ∧ Rd H a (.dK kv) ∧ RKs W μ H l kv := by
  simp only [RD] at r
  obtain ⟨a, e1, rfl⟩ := r
  obtain ⟨_, vs, o, e2, e3⟩ := x.ob n a _ e1 e
  exact ⟨a, _, rfl, e1, .inr ⟨o, e2⟩, RKs.of e3⟩
def xGet (x y : D) (h : Hc) : Option (Option D) := match x with
  | .ref n => match keyD y with
    | some k => match h[n]? with
      | some (_, .dic l) => some (dGet l k)
      | some (_, .dif l) => some (dGet l k)
      | _ => none
    | none => match keyT y with
      | some _ => match asT n h with
        | some (_, l) => some (tGet l y)
        | none => none
      | none => none
  | _ => none
section
variable {X : Cx} {pins : List (Addr × Obj)} {s : Shared} {σ : L2.St} {H : Hp} {μ : List Addr} {h : Hc}
inductive XG (X : Cx) (μ : List Addr) (s : Shared) (H : Hp) (a : Addr) (y : V) (iv : Value) (od : Option D) : Prop
  | flat (ov : Option V) (g : DGet H a y ov) (h1 : ∀ d, od = some d → ∃ w, ov = some w ∧ RD (wd X) μ H d w) (h2 : od = none → ov = none)
  | tup (b : Addr) (nk : NestedKey) (xs : List (NestedKey × Addr × Value)) (e : iv = .ref b) (k : (nestedKind X.prog X.w).is s.heap nk b) (hs : (a == sysModules) = false) (dd : s.heap.DictOfH (nestedKind X.prog X.w) a xs) (h1 : ∀ d, od = some d → ∃ p w, atKey xs nk = some p ∧ RelV w p.2 ∧ RD (wd X) μ H d w) (h2 : od = none → atKey xs nk = none)
theorem keyT_ref {y : D} {k : NestedKey} {u : V} (e : keyT y = some k) (r : RD (wd X) μ H y u) : ∃ b, u = .ref b := by
  cases y with
  | tup ds =>
    simp only [RD] at r
    obtain ⟨a, _, e, _⟩ := r
    exact ⟨a, e⟩
  | _ => simp only [keyT] at e; cases e
theorem xget_core (I : Inv X pins σ H s) (x : R (wd X) μ h H) {dx dy : D} {v u : V} {iv : Value} {od : Option D} (r1 : RD (wd X) μ H dx v) (r2 : RD (wd X) μ H dy u) (ry : RelV u iv) (e : xGet dx dy h = some od) : ∃ a, v = .ref a ∧ XG X μ s H a u iv od := by
  unfold xGet at e
  split at e
  · rename_i n
    split at e
    · rename_i k ek
      split at e
      · rename_i f l eh
        cases e
        obtain ⟨a, kv, rfl, e1, e2, rk⟩ := x.dk r1 eh
        obtain ⟨g1, g2⟩ := RKs.get (k := k) rk
        exact ⟨a, rfl, .flat (valV kv k) (.inl ⟨kv, k, e2, key_ok r2 ek, rfl⟩) (fun d ed => g1 d ed) (fun ed => g2 ed)⟩
      · rename_i f l eh
        cases e
        obtain ⟨a, kv, rfl, e1, e2, rk⟩ := x.dkf r1 eh
        obtain ⟨g1, g2⟩ := RKs.get (k := k) rk
        exact ⟨a, rfl, .flat (valV kv k) (.inl ⟨kv, k, e2, key_ok r2 ek, rfl⟩) (fun d ed => g1 d ed) (fun ed => g2 ed)⟩
      · cases e
    · split at e
      · rename_i nk ek
        split at e
        · rename_i f l eh
          cases e
          obtain ⟨a, xs, o, rfl, _, _, hs, _, _, dd, ex, _⟩ := at_dcd I x r1 eh
          obtain ⟨b, rfl⟩ := keyT_ref ek r2
          cases (show iv = Value.ref b from ry)
          obtain ⟨g1, g2⟩ := EntX.get ek ex
          exact ⟨a, rfl, .tup b nk xs rfl (key_is I r2 ek) hs dd g1 g2⟩
        · cases e
      · cases e
  · cases e
theorem room8 {A : Around} (hu : A.units + 64 < cLine) : (nestedKind X.prog X.w).room A.in1 := by
  show A.units + 1 + 8 < cLine
  omega
theorem XG.isD {a : Addr} {y : V} {iv : Value} {od : Option D} (I : Inv X pins σ H s) (g : XG X μ s H a y iv od) : s.TypeIs (.ref a) "dict" := by
  cases g with
  | flat ov g _ _ => exact dict_typeIs I g
  | tup b nk xs _ _ _ dd _ _ => exact dd.typeIs
end
def gXGet : G2 := fun x y h => match xGet x y h with
  | some (some d) => some (d, h)
  | _ => none
section
variable {X : Cx} {Wx : WX} {a b e f o i value : Expr} {ca cb ce cf co ci : CE} {pos tpos apos cpos : Pos}
theorem xgetItem (hu : X.A.units + 64 < cLine) {pins : List (Addr × Obj)} {s : Shared} {σ : L2.St} {H : Hp} {x y : V} {v u : Value} {Q : VK} (I : Inv X pins σ H s) (rx : RelV x v) (ry : RelV y u) (k : lV2 (wd X) gXGet x y H Q) :
    s.TypeIs v "dict" ∧ wpAny (model X.prog X.w) X.A (getItem v u) (EP X pins σ Q) X.xe s := by
  obtain ⟨μ, h, dx, dy, r, d1, d2, k⟩ := k
  unfold gXGet at k
  split at k
  · rename_i d ed
    obtain ⟨a, rfl, g⟩ := xget_core I r d1 d2 ry ed
    cases (show v = Value.ref a from rx)
    refine ⟨g.isD I, ?_⟩
    cases g with
    | flat ov g h1 h2 =>
      obtain ⟨w, rfl, rw_⟩ := h1 d rfl
      exact d_getItem (by omega) I g ry fun w' s3 I3 rw' => ⟨w, H, I3, rw', k.here r rw_⟩
    | tup b nk xs eb kk hs dd h1 h2 =>
      subst eb
      obtain ⟨p, w, e1, e2, e3⟩ := h1 d rfl
      exact wpAny_getItem_heap (room8 hu) kk dd e1 ⟨w, H, I.tok _, e2, k.here r e3⟩
  · exact False.elim k
theorem s_xget (hu : X.A.units + 64 < cLine) (ha : SE X Wx a ca) (hb : SE X Wx b cb) (hs : NoSl b := by intro _ _; rfl) : SE X Wx (.Subscript a b pos) (c2 gXGet ca cb) := by
  refine ⟨fun pins s σ H Q I k => ?_⟩
  refine subD_of PySem.F.slot_dict_getitem.lookup hs (thn (ha.run pins s σ H _ I (use2 k)) fun v s1 ⟨x, H1, I1, rx, q1⟩ => thn (hb.run pins s1 σ H1 _ I1 q1) fun u s2 ⟨y, H2, I2, ry, q2⟩ => ?_)
  exact xgetItem hu I2 rx ry q2
def xPut (x y d : D) (h : Hc) : Option Hc := match x with
  | .ref n => match keyD y with
    | some k => match h[n]? with
      | some (false, .dic l) => if l.length < sizeLine then some (h.set n (false, .dic (dPut l k d))) else none
      | _ => none
    | none => match keyT y with
      | some _ => match asT n h with
        | some (false, l) => if l.length < sizeLine then some (h.set n (false, .dcd (tPut l y d))) else none
        | _ => none
      | none => none
  | _ => none
def cSetX (e o i : CE) : CS := fun ρ h => ofR (e ρ h) ρ fun d h1 => ofR (o ρ h1) ρ fun x h2 => ofR (i ρ h2) ρ fun y h3 => match xPut x y d h3 with
  | some h4 => .ok .nx ρ h4
  | none => .stuck
def rXPut (W : Wb) : V → V → V → Hp → (Hp → Prop) → Prop := fun o i v H Q => ∃ μ h dx dy dv h4, R W μ h H ∧ RD W μ H dx o ∧ RD W μ H dy i ∧ RD W μ H dv v ∧ xPut dx dy dv h = some h4 ∧ ∀ H', R W μ h4 H' → Ext μ h H μ h4 H' → Q H'
theorem set_x (hu : X.A.units + 64 < cLine) : PSet X (rXPut (wd X)) := by
  intro pins s σ H x y v ov iv uv Q I rx ry rv k
  obtain ⟨μ, h, dx, dy, dv, h4, r, d1, d2, d3, e, q⟩ := k
  unfold xPut at e
  split at e
  · rename_i n
    split at e
    · rename_i k ek
      split at e
      · rename_i l eh
        split at e
        · rename_i hz
          cases e
          obtain ⟨a, kv, rfl, e1, e2, rk⟩ := r.dkw d1 eh
          cases (show ov = Value.ref a from rx)
          have rk2 := RKs.put (k := k) rk d3
          obtain ⟨vs, ev, rvs⟩ := rk2.to
          obtain ⟨rn, en⟩ := r.putD e1 eh rvs
          rw [← ev] at rn en
          exact d_setItem (by omega) I (.inl ⟨kv, k, e2, key_ok d2 ek, by rw [rk.len]; exact hz, rfl⟩) ry rv fun s4 I4 => ⟨_, I4, q _ rn en⟩
        · cases e
      · cases e
    · split at e
      · rename_i nk ek
        split at e
        · rename_i l eh
          split at e
          · rename_i hz
            cases e
            obtain ⟨a, xs, o, rfl, e1, e2, hs, nd, hl, dd, ex, mu⟩ := at_dcd I r d1 eh
            cases (show ov = Value.ref a from rx)
            obtain ⟨b, rfl⟩ := keyT_ref ek d2
            cases (show iv = Value.ref b from ry)
            have hx : xs.length ≤ sizeLine := by rw [ex.len]; exact hl
            refine wpAny_setItem_heap (hsz := hx) (room8 hu) (key_is I d2 ek) dd fun h' dd' sb => ?_
            obtain ⟨oo, es, ep, g1, g2, g3, g4, _, g5⟩ := dd'
            have ex2 := EntX.put ek d2 rv d3 ex
            have hl2 : (tPut l dy dv).length ≤ sizeLine := by
              have := tPut_len (l := l) (k := dy) (d := dv)
              omega
            obtain ⟨rn, en⟩ := r.putX (es := es) (ep := ep) e1 e2 hs (tPut_nd (d := dv) nd) hl2 (by rw [g4]; exact ex2.to)
            obtain ⟨u0, hu0, mu0⟩ := mu rfl
            refine ⟨_, d_write I (by rw [hu0]; exact mu0) sb ⟨oo, g1⟩ ?_, q _ rn en⟩
            exact ⟨⟨oo, g1, g2, g3⟩, ⟨oo, g1⟩, fun h1 h2 ⟨o, z1, z2⟩ k => ⟨o, k o z1, z2⟩⟩
          · cases e
        · cases e
      · cases e
  · cases e
theorem ps_xput {td ty tv : TE} {t : V → V → V → Hp → (Hp → Prop) → Prop} (hset : PSet X t) (ho : PE X o td) (hi : PE X i ty) (hv : PE X value tv) (hs : swapsWith value (some (.Subscript o i tpos)) pos.line X.env = pure false) :
    PS X (.Assign [.Subscript o i tpos] value pos) (fun D σ H => tv σ H fun v H1 => td σ H1 fun x H2 => ty σ H2 fun y H3 => t x y v H3 fun H4 => D.nx σ H4) := by
  refine ⟨fun pins s σ H D I h => ?_⟩
  refine wpAny_Assign_Subscript (thn (hv.run pins s σ H _ I h) fun r s1 ⟨v, H1, I1, rv, q1⟩ => thn (ho.run pins s1 σ H1 _ I1 q1) fun u s2 ⟨x, H2, I2, rx, q2⟩ => thn (hi.run pins s2 σ H2 _ I2 q2) fun iv s3 ⟨y, H3, I3, ry, q3⟩ => ?_) hs
  exact thn (hset pins s3 σ H3 x y v u iv r _ I3 rx ry rv q3) fun _ s4 ⟨H4, I4, q4⟩ => ⟨σ, H4, I4, q4⟩
theorem s_setX (hu : X.A.units + 64 < cLine) (he : SE X Wx e ce) (ho : SE X Wx o co) (hi : SE X Wx i ci) (hs : swapsWith e (some (.Subscript o i tpos)) pos.line X.env = pure false := by rfl) : SS X Wx (.Assign [.Subscript o i tpos] e pos) (cSetX ce co ci) := by
  refine ps_mono (ps_xput (set_x hu) ho hi he hs) fun D σ H ⟨μ, ρ, h, r, rs, k⟩ => ?_
  refine ⟨μ, ρ, h, r, rs, (kS.bind r rs k).imp fun v H1 ⟨x, μ1, h1, _, r1, e1, d1, k1⟩ => ?_⟩
  have rs1 := rs.ext e1 r
  refine ⟨μ1, ρ, h1, r1, rs1, (kS.bind r1 rs1 k1).imp fun u H2 ⟨y, μ2, h2, _, r2, e2, d2, k2⟩ => ?_⟩
  have rs2 := rs1.ext e2 r1
  refine ⟨μ2, ρ, h2, r2, rs2, (kS.bind r2 rs2 k2).imp fun w H3 ⟨z, μ3, h3, _, r3, e3, d3, k3⟩ => ?_⟩
  have rs3 := rs2.ext e3 r2
  split at k3
  · rename_i h4 e4
    exact ⟨μ3, h3, y, z, x, h4, r3, RD.ext e3 r2 _ _ d2, d3, RD.ext e3 r2 x v (RD.ext e2 r1 x v d1), e4, fun H' rn en => k3 μ3 H' σ rn en (rs3.ext en r3)⟩
  · exact False.elim k3
def isDic (x : D) (h : Hc) : Bool := match x with
  | .ref n => match h[n]? with
    | some (_, .dic _) => true
    | some (_, .dcd _) => true
    | some (_, .dif _) => true
    | _ => false
  | _ => false
def cGetD (o e f : CE) : CE := fun ρ h => (o ρ h).bind fun x h1 => if isDic x h1 = true then (e ρ h1).bind fun y h2 => (f ρ h2).bind fun z h3 => match xGet x y h3 with
    | some (some d) => .ok d h3
    | some none => .ok z h3
    | none => .stuck
  else .stuck
theorem isDic_at {pins : List (Addr × Obj)} {s : Shared} {σ : L2.St} {H : Hp} {μ : List Addr} {h : Hc} (I : Inv X pins σ H s) (x : R (wd X) μ h H) {d : D} {v : V} (r : RD (wd X) μ H d v) (e : isDic d h = true) : ∃ a, v = .ref a ∧ s.TypeIs (.ref a) "dict" ∧ (∀ b, Value.ref a = .ref b → ∃ ob, s.heap.get? b = some ob ∧ ob.dict = none) := by
  unfold isDic at e
  split at e
  · rename_i n
    split at e
    · rename_i f l eh
      obtain ⟨a, kv, rfl, e1, e2, rk⟩ := x.dk r eh
      obtain ⟨t1, t2, _⟩ := isD_at I (.inl ⟨kv, e2⟩)
      exact ⟨a, rfl, t1, t2⟩
    · rename_i f l eh
      obtain ⟨a, xs, o, rfl, _, _, hs, _, _, dd, _, _⟩ := at_dcd I x (f := f) (l := l) r (by unfold asT; rw [eh])
      refine ⟨a, rfl, dd.typeIs, fun b q => ?_⟩
      cases q
      obtain ⟨ob, _, _, h1, h2, _⟩ := dd
      exact ⟨ob, h1, h2.2.1⟩
    · rename_i f l eh
      obtain ⟨a, kv, rfl, e1, e2, rk⟩ := x.dkf r eh
      obtain ⟨t1, t2, _⟩ := isD_at I (.inl ⟨kv, e2⟩)
      exact ⟨a, rfl, t1, t2⟩
    · cases e
  · cases e
theorem s_getD (hu : X.A.units + 64 < cLine) (ho : SE X Wx o co) (he : SE X Wx e ce) (hf : SE X Wx f cf) (m : M2 X o "get" apos e f cpos := by exact ⟨rfl, rfl, rfl, rfl⟩) : SE X Wx (.Call (.Attribute o "get" apos) [e, f] [] cpos) (cGetD co ce cf) := by
  refine ⟨fun pins s σ H Q I ⟨μ, ρ, h, r, rs, k⟩ => ?_⟩
  refine wpAny_Call_method m.base m.few m.line PySem.F.plainAttrs_dict PySem.F.slot_dict_get PySem.F.type_dict_get (thn (ho.run pins s σ H _ I ⟨μ, ρ, h, r, rs, kR.bind r k⟩) fun u s1 ⟨v, H1, I1, rx, x, μ1, h1, _, r1, e1, d1, k1⟩ => ?_)
  split at k1
  · rename_i hd
    obtain ⟨a, rfl, t1, t2⟩ := isDic_at I1 r1 d1 hd
    obtain rfl : u = Value.ref a := rx
    refine ⟨t1, t2, ?_⟩
    rw [m.trees]
    refine Calls.callWith_builtin rfl (Calls.evalArgs_plain (Calls.spliced_cons (thn (he.run pins s1 σ H1 _ I1 ⟨μ1, ρ, h1, r1, rs.ext e1 r, kR.bind r1 k1⟩) fun iv s2 ⟨yv, H2, I2, ry, y, μ2, h2, _, r2, e2, d2, k2⟩ =>
      Calls.spliced_cons (thn (hf.run pins s2 σ H2 _ I2 ⟨μ2, ρ, h2, r2, (rs.ext e1 r).ext e2 r1, kR.bind r2 k2⟩) fun fv s3 ⟨zv, H3, I3, rz, z, μ3, h3, _, r3, e3, d3, k3⟩ => Calls.spliced_nil ?_))))
    have dx := RD.ext e3 r2 _ _ (RD.ext e2 r1 _ _ d1)
    have dy := RD.ext e3 r2 _ _ d2
    have go : ∀ {d : D} {w : V}, RD (wd X) μ3 H3 d w → kR (RD (wd X)) (wd X) Wx μ3 h3 H3 σ Q (.ok d h3) → Q w H3 := fun rd k => k μ3 H3 _ r3 .refl rd
    have main : ∀ od : Option D, xGet x y h3 = some od → (∀ d, od = some d → kR (RD (wd X)) (wd X) Wx μ3 h3 H3 σ Q (.ok d h3)) → (od = none → kR (RD (wd X)) (wd X) Wx μ3 h3 H3 σ Q (.ok z h3)) → wpAny (model X.prog X.w) X.A (call (.builtin "dict.get") [.ref a, iv, fv]) (EP X pins σ Q) X.xe s3 := fun od ex k4 k5 => by
      obtain ⟨a', ea, g⟩ := xget_core I3 r3 dx dy ry ex
      cases ea
      cases g with
      | flat ov g h1 h2 =>
        refine d_get2 (by omega) I3 g ry rz fun w' s4 I4 rw' => ⟨_, H3, I4, rw', ?_⟩
        cases od with
        | none => rw [h2 rfl]; exact go d3 (k5 rfl)
        | some d => obtain ⟨w, rfl, rw_⟩ := h1 d rfl; exact go rw_ (k4 d rfl)
      | tup b nk xs eb kk hs dd h1 h2 =>
        subst eb
        refine call_meetsIn PySem.F.slot_dict_get dd.typeIs PySem.F.entry_dict_get (PySem.F.args_dict_get_3 _ _ _) (meetsH_dict_get_default (knd := nestedKind X.prog X.w) (d := a) (a := b) hs fv) ⟨room8 hu, nk, xs, kk, dd, ?_⟩
        cases od with
        | none =>
          rw [h2 rfl]
          exact ⟨zv, H3, I3.tok _, rz, go d3 (k5 rfl)⟩
        | some d =>
          obtain ⟨p, w, q1, q2, q3⟩ := h1 d rfl
          rw [q1]
          exact ⟨w, H3, I3.tok _, q2, go q3 (k4 d rfl)⟩
    split at k3
    · rename_i d ed
      exact main _ ed (fun d' q => by cases q; exact k3) (fun q => by cases q)
    · rename_i ed
      exact main _ ed (fun d' q => by cases q) (fun _ => k3)
    · exact False.elim k3
  · exact False.elim k1
end
end Sx

set_option Elab.async false
set_option linter.all false
set_option maxRecDepth 100000
namespace Sx
section
open PySem PySem.Spec PySem.Calls PyProof.Rows PySem.W
variable {prog : Program} {w : World} {A : Around} {E : Value → Shared → Prop} {s : Shared}
theorem sorted_dictT {β : Type} {bs : List β} {enc : β → PyData} {R : Value → β → Prop} {d : Addr} {es : Array DictEntry} {ep : Nat} {Q : Value → Shared → Prop} (lo : (d == sysModules) = false) (hh : A.handled = none) (hm : s.heap.DictRaw d es ep)
    (e : EachIs R (es.toList.map (·.key)) bs) (er : EachIs (fun v b => ∃ as, Reads s.heap v (enc b) as) (es.toList.map (·.key)) bs) (hal : AllAlike (bs.map enc)) (hk : (∀ d ∈ bs.map enc, ∃ xs, d = .tuple xs) ∨ Sortable (bs.map enc)) (hL : bs.length ≤ sizeLine)
    (hu : ∀ b, b ∈ bs → A.units + 2 + (enc b).depth < cLine)
    (h : ∀ (out : List Value) (h1 h2 : Heap) (tk : Nat) (L : Addr) (ep' : Nat), out.length = bs.length → EachIs R out (bs.mergeSort (dataLe false enc)) → (∀ b o, s.heap.get? b = some o → h1.get? b = some o) → h1.objs.size ≤ L → (∀ b o, h1.get? b = some o → h2.get? b = some o) → h2.get? L = some (seqObj "list" out.toArray ep') → Q (.ref L) { s with heap := h2, toks := tk }) :
    wpAny (model prog w) A (call (.builtin "sorted") [.ref d]) Q E s := by
  have hsz : es.size = bs.length := by
    have := e.length
    simpa using this
  refine Calls.call_function_entry kind_sorted plain_sorted entry_sorted (args_sorted1 _) ?_
  unfold Builtin.«sorted»
  refine wpAny_bind (m := checkCount "sorted" 1 1 _) (wpAny_pure ?_)
  refine wpAny_bind (kdu_collect (A := A.in1) (KdlSrc.rawDict (es := es) (ep := ep) lo) hh hm (by rw [hsz]; exact hL) fun h' tk acc hold hacc => ?_)
  have ea : acc.toList = es.toList.map (·.key) := by
    refine List.ext_getElem? fun j => ?_
    rw [Array.getElem?_toList, List.getElem?_map, Array.getElem?_toList]
    obtain ⟨a1, a2⟩ := hacc
    by_cases c : j < es.size
    · have c2 : j < acc.size := by omega
      obtain ⟨_, q⟩ := a2 j acc[j] (Array.getElem?_eq_getElem c2)
      rw [Array.getElem?_eq_getElem c2, Array.getElem?_eq_getElem c, q]
      rfl
    · rw [Array.getElem?_eq_none (by omega), Array.getElem?_eq_none (by omega)]
      rfl
  have hLv : acc.toList.length ≤ sizeLine := by rw [ea, e.length]; exact hL
  refine wpAny_bind (wpAny_newList ?_ hLv)
  have hoL : (h'.push (seqObj "list" acc.toList.toArray 0)).get? h'.objs.size = some (seqObj "list" acc.toList.toArray 0) := Heap.get?_push_size _ rfl
  show wpAny _ _ _ _ _ { s with heap := h'.push (seqObj "list" acc.toList.toArray 0), toks := tk }
  have old : ∀ b o, s.heap.get? b = some o → (sortingHeap (h'.push (seqObj "list" acc.toList.toArray 0)) h'.objs.size acc.toList).get? b = some o := fun b o eb =>
    sortingHeap_old (Nat.ne_of_lt (Heap.lt_size (hold b o eb))) (Heap.get?_push_of_some _ (hold b o eb))
  rw [← ea] at e er
  have er' : EachIs (fun v b => ∃ as, Reads (sortingHeap (h'.push (seqObj "list" acc.toList.toArray 0)) h'.objs.size acc.toList) v (enc b) as) acc.toList bs := er.mono fun _ _ ⟨as, r⟩ => ⟨as, PyProof.Rows.Reads.keeps old r⟩
  refine wpAny_bind (wpAny_holding (wpAny_call_entry slot_list_sort ⟨_, hoL, rfl⟩ entry_list_sort (list_sort_vals (s := { s with heap := h'.push (seqObj "list" acc.toList.toArray 0), toks := tk }) hoL
    (hk.elim (fun hk => SortsTup (s := { s with heap := sortingHeap (h'.push (seqObj "list" acc.toList.toArray 0)) h'.objs.size acc.toList, toks := tk }) (each_map (R := fun v d => ∃ as, Reads (sortingHeap (h'.push (seqObj "list" acc.toList.toArray 0)) h'.objs.size acc.toList) v d as) enc er') hal hk (bound_map hu)) fun hk =>
      SortsAt.data (s := { s with heap := sortingHeap (h'.push (seqObj "list" acc.toList.toArray 0)) h'.objs.size acc.toList, toks := tk }) (each_map (R := fun v d => ∃ as, Reads (sortingHeap (h'.push (seqObj "list" acc.toList.toArray 0)) h'.objs.size acc.toList) v d as) enc er') hal hk (bound_map hu)) hLv ⟨_, rfl, ?_⟩) (args_list_sort _)))
  obtain ⟨e', he'⟩ := sortedHeap_at (vs := acc.toList) (out := (sortVals (dataKind (sortingHeap (h'.push (seqObj "list" acc.toList.toArray 0)) h'.objs.size acc.toList) (bs.map enc)) false acc.toList acc.toList).toArray) hoL
  refine wpAny_pure ⟨_, rfl, h _ h' _ tk _ e' (by rw [sortVals_length false rfl]; exact e.length) (sortVals_data false e er' hal) hold (Nat.le_refl _) (fun b o eb => ?_) he'⟩
  have hb : b < h'.objs.size := Heap.lt_size eb
  rw [sortedHeap_old (Nat.ne_of_lt hb) (by rw [size_push']; exact Nat.lt_succ_of_lt hb)]
  exact Heap.get?_push_of_some _ eb
end
section
open PySem PySem.Spec PyProof.Rows L2
variable {X : Cx} {pins : List (Addr × Obj)} {s : Shared} {σ : L2.St} {H : Hp} {μ : List Addr} {h : Hc} {Q : VK}
theorem srt_any (I : Inv X pins σ H s) (x : R (wd X) μ h H) {ds : List D} {vs : List V} {its : List Value} {arg : Value} (hu : X.A.units + 64 < cLine) (r : RDs (wd X) μ H ds vs) (v : Vals vs its) (hz : vs.length ≤ sizeLine) (k : kO (wd X) μ h H Q (srtD ds h))
    (SC : ∀ {β : Type} {bs : List β} {enc : β → PyData} {R : Value → β → Prop} {Q : Value → Shared → Prop}, PySem.W.EachIs R its bs → PySem.W.EachIs (fun v b => ∃ as, Reads s.heap v (enc b) as) its bs → PySem.W.AllAlike (bs.map enc) → ((∀ d ∈ bs.map enc, ∃ xs, d = .tuple xs) ∨ PySem.W.Sortable (bs.map enc)) → bs.length ≤ sizeLine →
      (∀ b, b ∈ bs → X.A.units + 2 + (enc b).depth < cLine) →
      (∀ (out : List Value) (h1 h2 : Heap) (tk : Nat) (L : Addr) (ep' : Nat), out.length = bs.length → PySem.W.EachIs R out (bs.mergeSort (PySem.W.dataLe false enc)) → (∀ b o, s.heap.get? b = some o → h1.get? b = some o) → h1.objs.size ≤ L → (∀ b o, h1.get? b = some o → h2.get? b = some o) → h2.get? L = some (seqObj "list" out.toArray ep') → Q (.ref L) { s with heap := h2, toks := tk }) →
      wpAny (model X.prog X.w) X.A (call (.builtin "sorted") [arg]) Q X.xe s) :
    wpAny (model X.prog X.w) X.A (call (.builtin "sorted") [arg]) (EP X pins σ Q) X.xe s := by
  have lv := v.length
  have fin : ∀ {out : List Value} {h1 h2 : Heap} {tk : Nat} {L : Addr} {ep' : Nat} {zs : List V}, (∀ b o, s.heap.get? b = some o → h1.get? b = some o) → h1.objs.size ≤ L → (∀ b o, h1.get? b = some o → h2.get? b = some o) → h2.get? L = some (seqObj "list" out.toArray ep') → Vals zs out → zs.length ≤ sizeLine → (H L = none → Q (.ref L) (upd H L (.lst zs))) → EP X pins σ Q (.ref L) { s with heap := h2, toks := tk } := fun {out h1 h2 tk L ep' zs} k1 hl k2 e2 vo hz q => by
    have I1 : Inv X pins σ H { s with heap := h1, toks := tk } := I.kept k1
    exact ⟨.ref L, upd H L (.lst zs), I1.laid (t' := tk) k2 hl ⟨hz, out, ep', vo, e2⟩, rfl, q (I1.hok.fresh hl)⟩
  unfold srtD at k
  cases e : intsOf ds with
  | some ns =>
    rw [e] at k
    obtain ⟨rfl, _⟩ := intsOf_ok r e
    have ei := each_ints v
    refine SC (enc := fun i : Int => .int i) ei (ei.mono fun u i ru => ?_) ?_ (.inr (.inr ?_)) (by simpa using hz) (fun i hi => by simp only [PyData.depth]; omega) fun out h1 h2 tk L ep' hlen ho k1 hl k2 e2 => ?_
    · obtain ⟨t, rfl⟩ := ru
      exact ⟨[], .int _ _⟩
    · intro d hd d' hd'
      obtain ⟨i, _, rfl⟩ := List.mem_map.mp hd
      obtain ⟨j, _, rfl⟩ := List.mem_map.mp hd'
      rfl
    · intro d hd
      obtain ⟨i, _, rfl⟩ := List.mem_map.mp hd
      exact ⟨by simp, by simp⟩
    · rw [PySem.W.dataLe_int (fun i : Int => i)] at ho
      have es : ns.mergeSort (fun a b => decide (a ≤ b)) = sortI ns := by
        refine sortI_uniq (List.mergeSort_perm ..) ?_
        have := List.pairwise_mergeSort (le := fun (a b : Int) => decide (a ≤ b)) (fun a b c h1 h2 => by simp at h1 h2 ⊢; omega) (fun a b => by simp; omega) ns
        exact this.imp fun h => of_decide_eq_true h
      rw [es] at ho
      exact fin k1 hl k2 e2 (ints_each ho) (by rw [List.length_map, (sortI_perm ns).length_eq]; simpa using hz) fun hp => k.lst x (RDs.ints _) hp
  | none =>
    rw [e] at k
    cases e2 : rowsOf ds with
    | none =>
      rw [e2] at k
      have k : kO (wd X) μ h H Q (srtX ds h) := k
      unfold srtX at k
      cases e3 : mapO (toP h 8) ds with
      | none => rw [e3] at k; exact False.elim k
      | some ps =>
        rw [e3] at k
        simp only at k
        split at k
        · rename_i hb
          obtain ⟨bs, b1, b2, b3, b4, b5, b6⟩ := data_bs I x r v e3
          obtain ⟨k1, k2, k3⟩ := dataB_ok hb
          have bl : bs.length = vs.length := by rw [← b1, List.length_map]
          have em : bs.map (fun b => b.2.2) = ps := b3
          refine SC (enc := fun b : V × D × PyData => b.2.2) b4 b5 (by rw [em]; exact k1) (by rw [em]; exact k2) (by omega) (fun b hb => ?_) fun out h1 h2 tk L ep' hlen ho q1 hl q2 e2 => ?_
          · have := k3 b.2.2 (by rw [← em]; exact List.mem_map.mpr ⟨b, hb, rfl⟩)
            omega
          · have vo := each_valsD ho
            have pm := List.mergeSort_perm bs (PySem.W.dataLe false fun b : V × D × PyData => b.2.2)
            have ed : (bs.mergeSort (PySem.W.dataLe false fun b : V × D × PyData => b.2.2)).map (fun b => b.2.1) = ((ds.zip ps).mergeSort fun a b => !PySem.W.dataLt b.2 a.2).map (·.1) := by
              have q : (bs.mergeSort (PySem.W.dataLe false fun b : V × D × PyData => b.2.2)).map (·.2) = (ds.zip ps).mergeSort fun a b => !PySem.W.dataLt b.2 a.2 := by
                rw [← b2]
                exact List.map_mergeSort fun a _ b _ => rfl
              rw [← q, List.map_map]; rfl
            have rr := rds_data (W := wd X) (μ := μ) (H := H) (bs.mergeSort (PySem.W.dataLe false fun b : V × D × PyData => b.2.2)) fun b hb => b6 b (pm.mem_iff.mp hb)
            rw [ed] at rr
            generalize (bs.mergeSort (PySem.W.dataLe false fun b : V × D × PyData => b.2.2)).map (·.1) = zs at vo rr
            exact fin q1 hl q2 e2 vo (by rw [vo.length, hlen]; omega) fun hp => k.lst x rr hp
        · exact False.elim k
    | some ls =>
      rw [e2] at k
      obtain ⟨bs, b1, b2, b3, b4, b5⟩ := rows_bs I x r v e2
      have bl : bs.length = vs.length := by rw [← b1, List.length_map]
      refine SC (enc := fun b : V × List Int => .tuple (b.2.map .int)) b3 b4 ?_ (.inl ?_) (by omega) (fun b hb => ?_) fun out h1 h2 tk L ep' hlen ho q1 hl q2 e2 => ?_
      · intro d hd d' hd'
        obtain ⟨i, _, rfl⟩ := List.mem_map.mp hd
        obtain ⟨j, _, rfl⟩ := List.mem_map.mp hd'
        have al : ∀ a b : List Int, PySem.W.alikeAll (a.map .int) (b.map .int) = true := by
          intro a
          induction a with
          | nil => intro b; simp [PySem.W.alikeAll]
          | cons x a ih =>
            intro b
            cases b with
            | nil => simp [PySem.W.alikeAll]
            | cons y b => simp [PySem.W.alikeAll, PySem.W.alike, ih]
        simp only [PySem.W.alike]
        exact al _ _
      · intro d hd
        obtain ⟨b, hb, rfl⟩ := List.mem_map.mp hd
        exact ⟨_, rfl⟩
      · have : ∀ l : List Int, PyData.depthAll (l.map .int) = 0 := by
          intro l
          induction l with
          | nil => simp [PyData.depthAll]
          | cons i l ih => simp [PyData.depthAll, PyData.depth, ih]
        simp only [PyData.depth, this]
        omega
      · rw [dataLe_tups (fun b : V × List Int => b.2)] at ho
        have vo := each_vals ho
        have pm := List.mergeSort_perm bs (fun p q : V × List Int => decide (p.2 ≤ q.2))
        have em : (bs.mergeSort (fun p q : V × List Int => decide (p.2 ≤ q.2))).map (·.2) = sortR ls := by
          rw [← b2]
          exact List.map_mergeSort fun a _ b _ => rfl
        have rr := rds_rows (W := wd X) (μ := μ) (H := H) (bs.mergeSort (fun p q : V × List Int => decide (p.2 ≤ q.2))) fun b hb => b5 b (pm.mem_iff.mp hb)
        have ed : (bs.mergeSort (fun p q : V × List Int => decide (p.2 ≤ q.2))).map (fun b => D.tup (b.2.map D.int)) = (sortR ls).map fun l => .tup (l.map D.int) := by
          rw [← em, List.map_map]; rfl
        rw [ed] at rr
        generalize (bs.mergeSort (fun p q : V × List Int => decide (p.2 ≤ q.2))).map (·.1) = zs at vo rr
        exact fin q1 hl q2 e2 vo (by rw [vo.length, hlen]; omega) fun hp => k.lst x rr hp
theorem ents_keys : ∀ {l : TD} {es : List DictEntry}, EntRs (wd X) μ H l es → ∃ vs, RDs (wd X) μ H (l.map (·.1)) vs ∧ Vals vs (es.map (·.key)) ∧ ∀ e ∈ es, ∃ b, e.key = .ref b
  | [], es, r => by
    have r : es = [] := r
    subst r
    exact ⟨[], RDs.nil, .nil, by simp⟩
  | p :: l, es, ⟨e, t, h1, ⟨b, v, nk, e1, e2, e3, e4, e5, e6⟩, h3⟩ => by
    subst h1
    obtain ⟨vs, q1, q2, q3⟩ := ents_keys h3
    refine ⟨.ref b :: vs, RDs.cons e4 q1, ?_, fun e' he => ?_⟩
    · rw [List.map_cons, e1]
      exact .cons rfl q2
    · rcases List.mem_cons.mp he with z | z
      · subst z; exact ⟨b, e1⟩
      · exact q3 e' z
def gSrtX : GL := fun xs h => match xs with
  | [.ref n] => match h[n]? with
    | some (_, .dcd l) => srtD (l.map (·.1)) h
    | some (_, .dif l) => match keysI l with
      | some ks => if ks.length < 64 then some (.ref h.length, h ++ [(false, .lst ((sortI ks).map D.int))]) else none
      | _ => none
    | _ => gSrt xs h
  | _ => gSrt xs h
theorem k_srtX (hu : X.A.units + 64 < cLine) (hc : X.calm = true) : CallR X (.builtin "sorted") (lVs (wd X) gSrtX) := by
  intro pins s σ H xs us Q I r k
  obtain ⟨μ, h, ds, x, rs, k⟩ := k
  unfold gSrtX at k
  split at k
  · rename_i n
    split at k
    · rename_i f l eh
      obtain ⟨v, rfl, rd⟩ := rds1 rs
      simp only [RD] at rd
      obtain ⟨a, e1, rfl⟩ := rd
      obtain ⟨h1, h2, h3, es, ep, h4, h5⟩ := x.ob n a _ e1 eh
      obtain ⟨vs, q1, q2, _⟩ := ents_keys h5
      rw [Vals.ref1 r]
      have ob : ObjOk X.prog X.w H s.heap a (.ext fun h => h.DictRaw a es ep) := I.hok a _ h4
      refine srt_any I x hu q1 q2 (by rw [← RDs.len q1, List.length_map]; exact h3) k fun {β bs enc R Q} b1 b2 b3 b4 b5 b6 b7 => ?_
      exact sorted_dictT h1 (I.ok.hd hc) ob.1 b1 b2 b3 b4 b5 b6 b7
    · rename_i f l eh
      split at k
      · rename_i ks ek
        split at k
        · rename_i hz
          obtain ⟨v, rfl, rd⟩ := rds1 rs
          simp only [RD] at rd
          obtain ⟨a, e1, rfl⟩ := rd
          obtain ⟨_, vs, o, e2, e3⟩ := x.ob n a _ e1 eh
          have rk := RKs.of e3
          exact call_sortedDI hc pins s σ H _ us Q I r ⟨a, _, ks, rfl, .inr ⟨o, e2⟩, keysI_ok rk ek, hz, fun ys p pm st hp => by
            rw [sortI_uniq pm st]
            exact k.lst x (RDs.ints _) hp⟩
        · exact False.elim k
      · exact False.elim k
    · exact k_srt hu hc pins s σ H xs us Q I r ⟨μ, h, _, x, rs, k⟩
  · exact k_srt hu hc pins s σ H xs us Q I r ⟨μ, h, _, x, rs, k⟩
end
end Sx

set_option Elab.async false
set_option linter.all false
set_option maxRecDepth 100000
namespace Sx
open PySem PySem.Spec PyProof.Rows L2
def ItX (d : Addr) (es : Array DictEntry) (ep : Nat) : It :=
  ⟨fun i H => H d = some (.ext fun h => h.DictRaw d es ep) ∧ i < es.size, fun i H x H' => H' = H ∧ ∃ e b, es[i]? = some e ∧ e.key = .ref b ∧ x = .ref b, fun i H => H d = some (.ext fun h => h.DictRaw d es ep) ∧ es.size ≤ i⟩
theorem raw_at {X : Cx} {pins : List (Addr × Obj)} {s : Shared} {σ : L2.St} {H : Hp} {d : Addr} {es : Array DictEntry} {ep : Nat} (I : Inv X pins σ H s) (e : H d = some (.ext fun h => h.DictRaw d es ep)) : s.heap.DictRaw d es ep :=
  (show ObjOk X.prog X.w H s.heap d (.ext fun h => h.DictRaw d es ep) from I.hok d _ e).1
theorem turn_x {P : Program} {w : World} {K : PySem.W.Frag} {tg : Expr} {d : Addr} {es : Array DictEntry} {ep : Nat} (it : Addr) (hk : ∀ e ∈ es.toList, ∃ b, e.key = .ref b) : Turn P w K tg (ItX d es ep) [it] it (fun i h => h.IsKeyIter it d i es.size ep) where
  mem := by simp
  obj := fun i h st b hb => by
    have e : b = it := by simpa using hb
    subst e
    obtain ⟨oi, e, _, dd⟩ := st
    exact ⟨oi, e, fun v z => by rw [dd] at z; cases z⟩
  keep := fun i h h' st k => st.at fun oi e => k it (by simp) oi e
  item := by
    intro X hP hw hK hc i pins s σ H E I hf st hg
    subst hP hw hK
    obtain ⟨hd, hi⟩ := hg
    obtain ⟨f0, f1, _, f3, f4, f5⟩ := hf it (by simp)
    obtain ⟨o, g1, g2, g3⟩ := raw_at I hd
    obtain ⟨b, eb⟩ := hk es[i] (by simp)
    refine next_key_item st g1 g3 rfl (Array.getElem?_eq_getElem hi) fun h' st' sb => ?_
    have I1 : Inv X pins σ H { s with heap := h' } := I.turned (t' := s.toks) (fun b ob hb e => (sb.2 b hb).trans e) f0 f1 f3 f4 f5
    obtain ⟨oi, e, c, dd⟩ := id st'
    exact ⟨_, rfl, go_of (s := { s with heap := h' }) e c dd (by decide) ⟨.ref b, H, I1, eb, ⟨rfl, _, b, Array.getElem?_eq_getElem hi, eb, rfl⟩, st', fun b hb => (hf b hb).1⟩⟩
  done := by
    intro X hP hw hK hc i pins s σ H E I hf st hg
    subst hP hw hK
    obtain ⟨hd, hi⟩ := hg
    obtain ⟨f0, f1, _, f3, f4, f5⟩ := hf it (by simp)
    obtain ⟨o, g1, g2, g3⟩ := raw_at I hd
    exact next_key_end (I.ok.hd hc) st g1 g3 rfl hi fun h' eb => ⟨rfl, I.turned (t' := s.toks) (fun b ob hb e => eb b ob hb e) f0 f1 f3 f4 f5⟩
  self := fun A i s Q E st h => wpAny_pyIter_keyiter st h
theorem piv_x {X : Cx} {tg : Expr} : PIV X tg (fun x H Q => (∃ d es ep, x = .ref d ∧ (d == sysModules) = false ∧ H d = some (.ext fun h => h.DictRaw d es ep) ∧ (∀ e ∈ es.toList, ∃ b, e.key = .ref b) ∧ Q (ItX d es ep) H) ∨ (∃ d o kv, x = .ref d ∧ H d = some (.frz o (.dK kv)) ∧ Q (Itk d o kv) H) ∨
    ∃ d kv, x = .ref d ∧ H d = some (.dK kv) ∧ ∀ o, Q (Itk d o kv) (upd H d (.frz o (.dK kv)))) := by
  intro pins s σ H x v Q I rx k
  rcases k with ⟨d, es, ep, rfl, hs, hd, hk, q⟩ | ⟨d, o, kv, rfl, hd, q⟩ | ⟨d, kv, rfl, hd, q⟩
  · cases rx
    obtain ⟨o, g1, g2, g3⟩ := raw_at I hd
    exact iter_keys hs g1 g2 g3 (pi_one (tk := s.toks) I _ (turn_x _ hk) ⟨_, Heap.get?_push_size _ rfl, rfl, rfl⟩ q)
  · cases rx
    obtain ⟨hs, hgd, hx, es, ep, vs, hdt, hsz, kv, hm⟩ := I.frzK hd
    refine iter_keys hs hgd hx hdt (pi_one (tk := s.toks) I _ (turn_keys _ hdt) ⟨_, Heap.get?_push_size _ rfl, rfl, ?_⟩ q)
    rw [hsz] <;> rfl
  · cases rx
    have mu : Mut (some (HO.dK kv)) := trivial
    obtain ⟨od, I2⟩ := I.lock hd mu
    have hd2 : upd H d (.frz od (.dK kv)) d = some (.frz od (.dK kv)) := upd_same
    obtain ⟨hs, hgd, hx, es, ep, vs, hdt, hsz, kv2, hm⟩ := I2.frzK hd2
    refine iter_keys hs hgd hx hdt (pi_one (tk := s.toks) I2 _ (turn_keys _ hdt) ⟨_, Heap.get?_push_size _ rfl, rfl, ?_⟩ (q od))
    rw [hsz] <;> rfl
def keysX (d : D) (h : Hc) : Option ((List D × List Nat) × Hc) := match d with
  | .ref n => match h[n]? with
    | some (_, .dcd l) => some ((l.map (·.1), [n]), h)
    | some (_, .dif l) => some ((l.map (fun p => keyO p.1), [n]), h)
    | some (false, .dic l) => some ((l.map (fun p => keyO p.1), [n]), h.set n (true, .dif l))
    | _ => none
  | _ => none
def cItX (a : CE) : CI := fun ρ h => (a ρ h).bind fun d h1 => match keysX d h1 with
  | some (p, h2) => .ok p h2
  | none => .stuck
section
variable {W : Wd} {μ : List Addr} {h : Hc} {H : Hp} {d : Addr} {n : Nat}
theorem itX {l : TD} {es : Array DictEntry} {ep : Nat} {f : Bool} (x : R W μ h H) (e1 : μ[n]? = some d) (e2 : h[n]? = some (f, .dcd l)) (e3 : H d = some (.ext fun h => h.DictRaw d es ep)) (en : EntRs W μ H l es.toList) : ItOk W (ItX d es ep) false (l.map (·.1)) μ (lckL [n] h) H := by
  have lk : (lckL [n] h)[n]? = some (true, .dcd l) := by rw [lock_get, if_pos (by simp), e2]; rfl
  have xl := x.lock (ls := [n])
  have len : ∀ {l : TD} {es : List DictEntry}, EntRs W μ H l es → es.length = l.length := by
    intro l
    induction l with
    | nil => intro es r; have r : es = [] := r; subst r; rfl
    | cons p l ih => rintro es ⟨e, t, z1, _, z3⟩; subst z1; simp [ih z3]
  have l0 : es.size = l.length := by
    have := len en
    simpa using this
  have st : ∀ {μ' h' H'}, Ext μ (lckL [n] h) H μ' h' H' → H' d = some (.ext fun h => h.DictRaw d es ep) := fun E => E.frame d _ e3 fun m p q1 q2 => by
    have : m = n := getElem?_inj_nodup x.nd q1 e1
    subst this
    rw [lk] at q2; cases q2; rfl
  have nth : ∀ {l : TD} {es : List DictEntry} {i : Nat} {e : DictEntry} {b : Addr}, EntRs W μ H l es → es[i]? = some e → e.key = .ref b → ∃ p, l[i]? = some p ∧ RD W μ H p.1 (.ref b) := by
    intro l
    induction l with
    | nil => intro es i e b r q; have r : es = [] := r; subst r; simp at q
    | cons p l ih =>
      rintro es i e b ⟨e', t, z1, ⟨b', v, nk, k1, _, _, k4, _⟩, z3⟩ q qk
      subst z1
      cases i with
      | zero =>
        simp at q
        subst q
        rw [k1] at qk
        cases qk
        exact ⟨p, rfl, k4⟩
      | succ i => exact ih z3 (by simpa using q) qk
  refine ⟨fun i μ' h' H' hi y E => ⟨st E, by simpa [l0] using hi⟩, fun μ' h' H' y E => ⟨st E, by simp [l0]⟩, fun i μ' h' H' v H'' hi y E hy => ?_⟩
  obtain ⟨rfl, e, b, q1, q2, rfl⟩ := hy
  obtain ⟨p, q3, q4⟩ := nth en (by rw [Array.getElem?_toList]; exact q1) q2
  exact ⟨p.1, by simp [q3], y, .refl, RD.ext E xl _ _ q4⟩
theorem itF {l : KD} {kv : List (L2.Key × V)} {o : Obj} (x : R W μ h H) (e1 : μ[n]? = some d) (e2 : h[n]? = some (true, .dif l)) (e3 : H d = some (.frz o (.dK kv))) (rk : RKs W μ H l kv) : ItOk W (Itk d o kv) false (l.map (fun p => keyO p.1)) μ (lckL [n] h) H := by
  have lk : (lckL [n] h)[n]? = some (true, .dif l) := by rw [lock_get, if_pos (by simp), e2]; rfl
  have st : ∀ {μ' h' H'}, Ext μ (lckL [n] h) H μ' h' H' → H' d = some (.frz o (.dK kv)) := fun E => E.frame d _ e3 fun m p q1 q2 => by
    have : m = n := getElem?_inj_nodup x.nd q1 e1
    subst this
    rw [lk] at q2; cases q2; rfl
  have l0 := rk.len
  refine ⟨fun i μ' h' H' hi y E => ⟨st E, by simpa [l0] using hi⟩, fun μ' h' H' y E => ⟨st E, by simp [l0]⟩, fun i μ' h' H' v H'' hi y E hy => ?_⟩
  obtain ⟨rfl, k, w, q, rfl⟩ := hy
  obtain ⟨z, z1, _⟩ := rk.nth q
  exact ⟨keyO k, by simp [z1], y, .refl, keyO_ok k⟩
theorem R.ice {l : KD} {kv : List (L2.Key × V)} {o : Obj} (x : R W μ h H) (e1 : μ[n]? = some d) (e2 : h[n]? = some (false, .dic l)) (e3 : H d = some (.dK kv)) (rk : RKs W μ H l kv) :
    R W μ (h.set n (true, .dif l)) (upd H d (.frz o (.dK kv))) ∧ Ext μ h H μ (h.set n (true, .dif l)) (upd H d (.frz o (.dK kv))) := by
  have hlt : n < h.length := (List.getElem?_eq_some_iff.mp e2).1
  have i : isDK (.dK kv) := .inl ⟨kv, rfl⟩
  have E : Ext μ h H μ (h.set n (true, .dif l)) (upd H d (.frz o (.dK kv))) := ⟨⟨[], by simp, by simp⟩, fun b u e3 k => by
    have hb : b ≠ d := fun z => by
      subst z
      have := k n _ e1 e2
      cases this
    rw [upd_ne hb]; exact e3, fun b z => by
    unfold upd; split
    · simp
    · exact z, fun m q e3 => by
    by_cases hm : m = n
    · subst hm
      rw [e2] at e3; cases e3
      exact ⟨(true, .dif l), by rw [List.getElem?_set_self hlt], fun z => by cases z⟩
    · exact ⟨q, by rw [List.getElem?_set_ne (Ne.symm hm), e3], fun _ => rfl⟩⟩
  refine ⟨⟨by simp [x.len], x.nd, fun m b q q1 q2 => ?_⟩, E⟩
  by_cases hm : m = n
  · subst hm
    rw [List.getElem?_set_self hlt] at q2; cases q2
    rw [e1] at q1; cases q1
    obtain ⟨vs, rfl, rv⟩ := rk.to
    exact ⟨rfl, vs, o, upd_same, RDs.dk e3 i _ _ rv⟩
  · rw [List.getElem?_set_ne (Ne.symm hm)] at q2
    have nb : b ≠ d := fun z => hm (getElem?_inj_nodup x.nd q1 (by rw [z]; exact e1))
    exact ro_dk e3 i nb (x.ob m b q q1 q2)
end
section
variable {X : Cx} {Wx : WX} {tg a : Expr} {ca : CE}
theorem it_x (ha : SE X Wx a ca) : SI X Wx tg a false (cItX ca) := by
  refine pi_mono (pi_of ha piv_x) fun σ H Q ⟨μ, ρ, h, r, rs, k⟩ => ?_
  refine ⟨μ, ρ, h, r, rs, (kI.one r k).imp fun v H1 ⟨d, μ1, h1, _, r1, e1, d1, k1⟩ => ?_⟩
  unfold keysX at k1
  split at k1
  · rename_i p h2 ek
    split at ek
    · rename_i n _
      simp only [RD] at d1
      obtain ⟨b, m1, rfl⟩ := d1
      split at ek
      · rename_i f l eh
        cases ek
        obtain ⟨h3, h4, h5, es, ep, h6, h7⟩ := r1.ob n b _ m1 eh
        obtain ⟨_, _, _, hk⟩ := ents_keys (X := X) h7
        exact .inl ⟨b, es, ep, rfl, h3, h6, hk, k1 μ1 H1 _ r1 .refl (itX r1 m1 eh h6 h7)⟩
      · rename_i f l eh
        cases ek
        obtain ⟨h3, vs, o, h6, h7⟩ := r1.ob n b _ m1 eh
        subst h3
        exact .inr (.inl ⟨b, o, _, rfl, h6, k1 μ1 H1 _ r1 .refl (itF r1 m1 eh h6 (RKs.of h7))⟩)
      · rename_i l eh
        cases ek
        obtain ⟨vs, h6, h7⟩ := r1.ob n b _ m1 eh
        rcases h6 with h6 | ⟨z, _⟩
        · refine .inr (.inr ⟨b, _, rfl, h6, fun o => ?_⟩)
          obtain ⟨r2, e2⟩ := r1.ice (o := o) m1 eh h6 (RKs.of h7)
          have lt : n < h1.length := (List.getElem?_eq_some_iff.mp eh).1
          have i : isDK (.dK ((l.map (·.1)).zip vs)) := .inl ⟨_, rfl⟩
          exact k1 μ1 _ _ r2 e2 (itF r2 m1 (List.getElem?_set_self lt) upd_same (RKs.of (RDs.dk h6 i _ _ h7)))
        · cases z
      · cases ek
    · cases ek
  · exact False.elim k1
end
end Sx

set_option Elab.async false
set_option linter.all false
set_option maxRecDepth 100000
namespace Sx
open PySem PySem.Spec PyProof.Rows L2
section
variable {prog : Program} {w : World} {K : Type} [DecidableEq K] {knd : HeapKind prog w K} {A : Around} {E : Value → Shared → Prop} {s : Shared}
theorem disp_keys {env : Env} {keys : List (Option Expr)} {values : List Expr} {pos : Pos} {pairs : List (Sem Value × Sem Value)} {Q : Value → Shared → Prop} (hu : knd.room A)
    (hs : (evalEachOpt keys env).zip ((evalEach values env).map fun v => do let x ← v; standAt pos; pure x) = pairs.map fun p => (some p.1, p.2)) (h0 : pairs ≠ []) (hl : pairs.length ≤ 15)
    (h : wpAny (model prog w) A (evalPairs pairs) (fun vs s1 => ∃ ps, CarriesH knd s1.heap vs ps ∧ s1.heap.DictOfH knd s.heap.objs.size [] ∧
      ∀ h' tk, h'.DictOfH knd s.heap.objs.size (storedAllH [] ps) → Heap.SameBut s.heap.objs.size s1.heap h' → Q (.ref s.heap.objs.size) { s1 with heap := h', toks := tk }) E { s with heap := s.heap.push { cls := .type "dict", data := .dict #[] } }) :
    wpAny (model prog w) A (eval (.Dict keys values pos) env) Q E s := by
  rw [arm_eval_Dict, hs, dictDisplay_pairs pairs h0 (by omega)]
  refine wpAny_bind (wpAny_standAt (wpAny_bind (wpAny_subDictH (knd := knd) (Q := fun d s' => wpAny (model prog w) A (pure (Value.ref d)) Q E s') hu hl ?_)))
  refine wpAny_mono h (fun vs s1 h1 => ?_) fun _ _ e => e
  obtain ⟨ps, hc, hm, hq⟩ := h1
  exact ⟨ps, hc, hm, fun h' tk a b => wpAny_pure (hq h' tk a b)⟩
end
def RDP (W : Wb) (μ : List Addr) (H : Hp) : TD → List (V × V) → Prop
  | [], ps => ps = []
  | p :: r, ps => ∃ x y t, ps = (x, y) :: t ∧ RD W μ H p.1 x ∧ RD W μ H p.2 y ∧ RDP W μ H r t
abbrev CP := Rho → Hc → Res TD
def cPn : CP := fun _ h => .ok [] h
def cPc (a b : CE) (r : CP) : CP := fun ρ h => (a ρ h).bind fun x h1 => (b ρ h1).bind fun y h2 => (r ρ h2).bind fun l h3 => .ok ((x, y) :: l) h3
def SPs (X : Cx) (Wx : WX) (pos : Pos) (ks : List (Option Expr)) (vs : List Expr) (c : CP) : Prop :=
  ∀ (pins : List (Addr × Obj)) (s : Shared) (σ : L2.St) (H : Hp) (Q : List (V × V) → Hp → Prop), Inv X pins σ H s → lG (RDP (wd X)) (wd X) Wx c σ H Q →
    wpAny (model X.prog X.w) X.A (evalPairs (pairTrees ks vs X.env pos)) (fun ws s' => ∃ ps H', Inv X pins σ H' s' ∧ VV ps ws ∧ ws.length = ks.length ∧ Q ps H') X.xe s
section
variable {X : Cx} {Wx : WX} {pos : Pos} {k v : Expr} {ks : List (Option Expr)} {vs : List Expr} {ck cv : CE} {c : CP}
theorem sp_nil : SPs X Wx pos [] [] cPn := fun pins s σ H Q I ⟨μ, ρ, h, r, rs, k⟩ => pairTrees_nil_walk ⟨[], H, I, .nil, rfl, k μ H [] r .refl rfl⟩
theorem sp_cons (hk : SE X Wx k ck) (hv : SE X Wx v cv) (hr : SPs X Wx pos ks vs c) : SPs X Wx pos (some k :: ks) (v :: vs) (cPc ck cv c) := by
  intro pins s σ H Q I ⟨μ, ρ, h, r, rs, q⟩
  refine pairTrees_cons_walk (thn (hk.run pins s σ H _ I ⟨μ, ρ, h, r, rs, kR.bind r q⟩) fun u s1 ⟨xv, H1, I1, rx, x, μ1, h1, _, r1, e1, d1, k1⟩ => ?_)
  refine thn (hv.run pins s1 σ H1 _ I1 ⟨μ1, ρ, h1, r1, rs.ext e1 r, kR.bind r1 k1⟩) fun w2 s2 ⟨yv, H2, I2, ry, y, μ2, h2, _, r2, e2, d2, k2⟩ => ?_
  refine thn (hr pins s2 σ H2 _ I2 ⟨μ2, ρ, h2, r2, (rs.ext e1 r).ext e2 r1, kR.bind (rel1 := RDP (wd X)) r2 k2⟩) fun ws s3 ⟨ps, H3, I3, rel, ln, l, μ3, h3, _, r3, e3, d3, k3⟩ => ?_
  have dx := RD.ext e3 r2 _ _ (RD.ext e2 r1 _ _ d1)
  have dy := RD.ext e3 r2 _ _ d2
  exact ⟨(xv, yv) :: ps, H3, I3, .cons ⟨rx, ry⟩ rel, by simp [ln], k3 μ3 H3 ((xv, yv) :: ps) r3 .refl ⟨xv, yv, ps, rfl, dx, dy, d3⟩⟩
end
def flatK : TD → Option KD
  | [] => some []
  | p :: r => match keyD p.1 with
    | some k => match flatK r with
      | some l => some ((k, p.2) :: l)
      | none => none
    | none => none
def dispK (l : KD) : KD := l.foldl (fun acc p => dPut acc p.1 p.2) []
def dispT (l : TD) : TD := l.foldl (fun acc p => tPut acc p.1 p.2) []
def dispO (l : TD) : Option O := match flatK l with
  | some kd => some (.dic (dispK kd))
  | none => if (l.all fun p => (keyT p.1).isSome) = true then some (.dcd (dispT l)) else none
def cDisp (c : CP) : CE := fun ρ h => (c ρ h).bind fun l h1 => match dispO l with
  | some o => .ok (.ref h1.length) (h1 ++ [(false, o)])
  | none => .stuck
section
variable {W : Wb} {μ : List Addr} {H : Hp}
theorem flat_rel : ∀ {l : TD} {kd : KD} {ps : List (V × V)}, RDP W μ H l ps → flatK l = some kd → ∃ kv, RKs W μ H kd kv ∧ ps = kv.map fun e => (kV e.1, e.2)
  | [], kd, ps, r, e => by
    have r : ps = [] := r
    subst r
    simp only [flatK] at e
    cases e
    exact ⟨[], rfl, rfl⟩
  | p :: l, kd, ps, ⟨x, y, t, h1, h2, h3, h4⟩, e => by
    subst h1
    simp only [flatK] at e
    split at e
    · rename_i k ek
      split at e
      · rename_i l' el
        cases e
        obtain ⟨kv, q1, q2⟩ := flat_rel h4 el
        refine ⟨(k, y) :: kv, ⟨y, kv, rfl, h3, q1⟩, ?_⟩
        rw [List.map_cons, key_ok h2 ek, q2]
      · cases e
    · cases e
theorem merge_rel : ∀ {kd acc : KD} {kv ka : List (L2.Key × V)}, RKs W μ H kd kv → RKs W μ H acc ka → RKs W μ H (kd.foldl (fun acc p => dPut acc p.1 p.2) acc) (mergeK ka kv)
  | [], acc, kv, ka, r, q => by
    have r : kv = [] := r
    subst r
    exact q
  | (k, d) :: kd, acc, kv, ka, r, q => by
    obtain ⟨v, t, rfl, r1, r2⟩ := r
    show RKs W μ H (kd.foldl (fun acc p => dPut acc p.1 p.2) (dPut acc k d)) (mergeK (putK ka k v) t)
    exact merge_rel r2 (RKs.put q r1)
theorem carry_tup {X : Cx} {pins : List (Addr × Obj)} {s : Shared} {σ : L2.St} {μ : List Addr} {H : Hp} (I : Inv X pins σ H s) : ∀ {l : TD} {ps : List (V × V)} {ws : List (Value × Value)}, RDP (wd X) μ H l ps → VV ps ws → (l.all fun p => (keyT p.1).isSome) = true →
    ∃ xs, CarriesH (nestedKind X.prog X.w) s.heap ws xs ∧ ∀ {acc : TD} {ya : List (NestedKey × Addr × Value)}, EntX (wd X) μ H acc ya → EntX (wd X) μ H (l.foldl (fun acc p => tPut acc p.1 p.2) acc) (storedAllH ya xs)
  | [], ps, ws, r, v, _ => by
    have r : ps = [] := r
    subst r
    cases v
    exact ⟨[], trivial, fun q => q⟩
  | p :: l, ps, ws, ⟨x, y, t, h1, h2, h3, h4⟩, v, e => by
    subst h1
    rw [List.all_cons, Bool.and_eq_true] at e
    cases v with
    | @cons _ b _ bs hb tb =>
      obtain ⟨b1, b2⟩ := b
      obtain ⟨xs, q1, q2⟩ := carry_tup I h4 tb e.2
      obtain ⟨nk, ek⟩ := Option.isSome_iff_exists.mp e.1
      obtain ⟨a, rfl⟩ := keyT_ref ek h2
      refine ⟨(nk, a, b2) :: xs, ⟨hb.1, rfl, key_is I h2 ek, q1⟩, fun {acc ya} q => ?_⟩
      exact q2 (EntX.put ek h2 hb.2 h3 q)
theorem rdp_len : ∀ {l : TD} {ps : List (V × V)}, RDP W μ H l ps → ps.length = l.length
  | [], ps, q => by have q : ps = [] := q; subst q; rfl
  | p :: l, ps, ⟨x, y, t, q1, _, _, q4⟩ => by subst q1; simp [rdp_len q4]
theorem dispT_nd : ∀ {l acc : TD}, (acc.map (·.1)).Nodup → ((l.foldl (fun acc p => tPut acc p.1 p.2) acc).map (·.1)).Nodup
  | [], acc, h => h
  | p :: l, acc, h => dispT_nd (l := l) (tPut_nd h)
theorem dispT_len : ∀ {l acc : TD}, (l.foldl (fun acc p => tPut acc p.1 p.2) acc).length ≤ acc.length + l.length
  | [], acc => by simp
  | p :: l, acc => by
    have a := dispT_len (l := l) (acc := tPut acc p.1 p.2)
    have b := tPut_len (l := acc) (k := p.1) (d := p.2)
    simp only [List.foldl_cons, List.length_cons]
    omega
end
section
variable {W : Wd} {μ μ1 : List Addr} {h h1 : Hc} {H H1 : Hp} {p : Addr}
theorem R.adoptX {l : TD} {es : Array DictEntry} {ep : Nat} (x : R W μ1 h1 H1) (E : Ext μ h H μ1 h1 H1) (hp : H p = none) (hn : p ∉ μ1) (hs : (p == sysModules) = false) (nd : (l.map (·.1)).Nodup) (hl : l.length ≤ sizeLine) (e : H1 p = some (.ext fun h => h.DictRaw p es ep)) (r : EntRs W μ1 H1 l es.toList) :
    R W (μ1 ++ [p]) (h1 ++ [(false, .dcd l)]) H1 ∧ Ext μ h H (μ1 ++ [p]) (h1 ++ [(false, .dcd l)]) H1 := by
  refine ⟨⟨by simp [x.len], ?_, fun n a q e1 e2 => ?_⟩, ⟨?_, E.frame, E.dom, E.hc.trans fun n q e => ⟨q, by rw [List.getElem?_append_left (List.getElem?_eq_some_iff.mp e).1, e], fun _ => rfl⟩⟩⟩
  · rw [List.nodup_append]
    refine ⟨x.nd, by simp, fun a ha b hb z => ?_⟩
    simp at hb; subst hb; subst z
    exact hn ha
  · by_cases hn2 : n < μ1.length
    · rw [List.getElem?_append_left hn2] at e1
      rw [List.getElem?_append_left (by rw [← x.len]; exact hn2)] at e2
      exact (x.ob n a q e1 e2).pre
    · have hn3 : n = μ1.length := by
        have := (List.getElem?_eq_some_iff.mp e1).1
        simp at this; omega
      subst hn3
      simp at e1; subst e1
      rw [x.len] at e2
      simp at e2; subst e2
      exact ⟨hs, nd, hl, es, ep, e, r.mono (fun d v => RD.pre d v)⟩
  · obtain ⟨m, e1, f⟩ := E.pre
    refine ⟨m ++ [p], by rw [e1, List.append_assoc], fun a ha => ?_⟩
    rcases List.mem_append.mp ha with z | z
    · exact f a z
    · simp at z; subst z; exact hp
end
section
variable {X : Cx} {Wx : WX} {pos : Pos} {keys : List (Option Expr)} {values : List Expr} {c : CP}
theorem s_disp (hu : X.A.units + 64 < cLine) (hp : SPs X Wx pos keys values c) (hall : keys.all (·.isSome) = true := by rfl) (hl : keys.length = values.length := by rfl) (h0 : keys ≠ [] := by simp) (h15 : keys.length ≤ 15 := by decide)
    (hsh : (evalEachOpt keys X.env).zip ((evalEach values X.env).map fun v => do let x ← v; standAt pos; pure x) = (pairTrees keys values X.env pos).map fun p => (some p.1, p.2) := by rfl) : SE X Wx (.Dict keys values pos) (cDisp c) := by
  refine ⟨fun pins s σ H Q I ⟨μ, ρ, h, r, rs, k⟩ => ?_⟩
  have fr := I.hok.fresh (Nat.le_refl s.heap.objs.size)
  have hsys : (s.heap.objs.size == sysModules) = false := beq_eq_false_iff_ne.mpr (Ne.symm (Nat.ne_of_lt I.big))
  have I1 := I.laid (a := s.heap.objs.size) (o := .dK []) (h' := s.heap.push { cls := .type "dict", data := .dict #[] }) (t' := s.toks) (fun _ _ q => Heap.get?_push_of_some _ q) (Nat.le_refl _) (dk_empty s.heap I.big)
  unfold cDisp at k
  obtain ⟨rA, eA⟩ := r.aside (o := .dK []) fr
  have rsA := rs.ext eA r
  have n0 := r.notin fr
  have pl : (pairTrees keys values X.env pos).length = keys.length := pairTrees_length keys values X.env pos hall hl
  have pn : pairTrees keys values X.env pos ≠ [] := fun z => by
    rw [z] at pl
    exact h0 (List.eq_nil_of_length_eq_zero pl.symm)
  have start := kR.bind (rel1 := RDP (wd X)) (rel := RD (wd X)) r k
  have run : ∀ (Q2 : List (V × V) → Hp → Prop), kR (RDP (wd X)) (wd X) Wx μ h (upd H s.heap.objs.size (.dK [])) σ Q2 (c ρ h) → lG (RDP (wd X)) (wd X) Wx c σ (upd H s.heap.objs.size (.dK [])) Q2 := fun Q2 q => ⟨μ, ρ, h, rA, rsA, q⟩
  have aside : ∀ {μ2 : List Addr} {h2 : Hc} {H2 : Hp}, Ext μ h (upd H s.heap.objs.size (.dK [])) μ2 h2 H2 → H2 s.heap.objs.size = some (.dK []) ∧ s.heap.objs.size ∉ μ2 := fun {μ2 h2 H2} E2 => by
    have up : upd H s.heap.objs.size (.dK []) s.heap.objs.size = some (.dK []) := upd_same
    refine ⟨E2.frame _ _ up fun n q e1 _ => absurd (List.mem_of_getElem? e1) n0, fun hm => ?_⟩
    obtain ⟨m, em, ff⟩ := E2.pre
    rw [em] at hm
    rcases List.mem_append.mp hm with z | z
    · exact n0 z
    · have := ff _ z
      rw [up] at this; cases this
  cases ec : c ρ h with
  | stuck => rw [ec] at k; exact False.elim k
  | exn cc xx hh =>
    rw [ec] at k
    refine wpAny_Dict_walk (knd := mixKind X.prog X.w) hall hl h0 h15 (thn (hp pins _ σ _ (fun _ _ => False) I1 (run _ ?_)) fun ws s2 ⟨ps, H2, I2, rel, _, f⟩ => f.elim)
    rw [ec]
    exact fun μ' H' C dd v a y z b w => k μ' H' C dd v a y (eA.trans r z) b w
  | ok l h1 =>
    rw [ec] at k
    have k : kR (RD (wd X)) (wd X) Wx μ h H σ Q (match dispO l with | some o => .ok (.ref h1.length) (h1 ++ [(false, o)]) | none => .stuck) := k
    unfold dispO at k
    cases ef : flatK l with
    | some kd =>
      rw [ef] at k
      refine wpAny_Dict_walk (knd := mixKind X.prog X.w) hall hl h0 h15 (thn (hp pins _ σ _ (fun ps H2 => ∃ μ2, R (wd X) μ2 h1 H2 ∧ Ext μ h (upd H s.heap.objs.size (.dK [])) μ2 h1 H2 ∧ RDP (wd X) μ2 H2 l ps) I1 (run _ ?_)) fun ws s2 ⟨ps, H2, I2, rel, wl, μ2, r2, E2, dp⟩ => ?_)
      · rw [ec]
        exact fun μ' H' b y z w => ⟨μ', y, z, w⟩
      · obtain ⟨kv, rk, rfl⟩ := flat_rel dp ef
        obtain ⟨rs', cr, rkv⟩ := carries_of (P := X.prog) (w := X.w) rel
        obtain ⟨hp2, hn2⟩ := aside E2
        obtain ⟨z, hd, vs0, r0, dd⟩ := dk_of I2.hok hp2
        cases r0
        have mr := merge_rel (acc := []) (ka := []) rk rfl
        have hz : (mergeK [] kv).length ≤ sizeLine := by
          have h1 := length_mergeK kv []
          have h2 : kv.length = ws.length := by
            have := Paired.length rel
            simpa using this
          rw [List.length_nil] at h1
          rw [sizeLine_eq]; omega
        refine ⟨rs', cr, dd, fun h' dd' hs => ?_⟩
        have he : ∃ q, h'.get? s.heap.objs.size = some q := let ⟨q, _, _, hq, _⟩ := dd'; ⟨q, hq⟩
        have m2 : MutAt H2 s.heap.objs.size := .inr (.inr ⟨_, hp2⟩)
        have r3 := r2.offM (o' := .dK (mergeK [] kv)) m2 hn2
        have E3 := (eA.trans r E2).offM (o' := .dK (mergeK [] kv)) fr
        obtain ⟨r4, E4⟩ := R.adoptD r3 E3 fr hn2 upd_same (RKs.offM m2 mr)
        refine ⟨.ref s.heap.objs.size, _, d_write I2 (by rw [hp2]; exact True.intro) hs he (dk_new hz hd (rkv.merge .nil) dd'), rfl, ?_⟩
        refine k _ _ _ r4 E4 ?_
        simp only [RD]
        exact ⟨s.heap.objs.size, by rw [← r3.len]; simp, rfl⟩
    | none =>
      rw [ef] at k
      simp only at k
      by_cases ha : (l.all fun p => (keyT p.1).isSome) = true
      · rw [if_pos ha] at k
        refine disp_keys (knd := nestedKind X.prog X.w) (pairs := pairTrees keys values X.env pos) (by show X.A.units + 8 < cLine; omega) hsh pn (by omega) (thn (hp pins _ σ _ (fun ps H2 => ∃ μ2, R (wd X) μ2 h1 H2 ∧ Ext μ h (upd H s.heap.objs.size (.dK [])) μ2 h1 H2 ∧ RDP (wd X) μ2 H2 l ps) I1 (run _ ?_)) fun ws s2 ⟨ps, H2, I2, rel, wl, μ2, r2, E2, dp⟩ => ?_)
        · rw [ec]
          exact fun μ' H' b y z w => ⟨μ', y, z, w⟩
        · obtain ⟨xs, cr, fx⟩ := carry_tup I2 dp rel ha
          obtain ⟨hp2, hn2⟩ := aside E2
          obtain ⟨_, hd, ws0, g2, o, es, ep, g3, g4, g5, _, g6, _⟩ := dk_of I2.hok hp2
          have ew : ws0 = [] := by cases g2; rfl
          subst ew
          have ee : es.toList = [] := by
            cases hh : es.toList with
            | nil => rfl
            | cons a b => rw [hh] at g6; cases g6
          refine ⟨xs, cr, ⟨o, es, ep, g3, g4, g5, by simp [ee], by simp, by simp⟩, fun h' tk dd' hs => ?_⟩
          obtain ⟨oo, es', ep', q1, q2, q3, q4, _, q5⟩ := dd'
          have ex := fx (acc := []) (ya := []) rfl
          have m2 : MutAt H2 s.heap.objs.size := .inr (.inr ⟨_, hp2⟩)
          have r3 := r2.offM (o' := .ext fun h => h.DictRaw s.heap.objs.size es' ep') m2 hn2
          have E3 := (eA.trans r E2).offM (o' := .ext fun h => h.DictRaw s.heap.objs.size es' ep') fr
          have ex2 := ex.mono (H' := upd H2 s.heap.objs.size (.ext fun h => h.DictRaw s.heap.objs.size es' ep')) (fun d v => RD.offM m2 d v)
          have hl2 : (dispT l).length ≤ sizeLine := by
            have a := dispT_len (l := l) (acc := [])
            have b := rdp_len dp
            have c := Paired.length rel
            have z0 : (dispT l).length ≤ 0 + l.length := a
            rw [sizeLine_eq]; omega
          obtain ⟨r4, E4⟩ := R.adoptX r3 E3 fr hn2 hsys (dispT_nd (l := l) (acc := []) (by simp)) hl2 upd_same (by rw [q4]; exact ex2.to)
          refine ⟨.ref s.heap.objs.size, _, d_write I2 (by rw [hp2]; exact True.intro) hs ⟨oo, q1⟩ (show ObjOk X.prog X.w _ h' s.heap.objs.size (.ext fun h => h.DictRaw s.heap.objs.size es' ep') from ⟨⟨oo, q1, q2, q3⟩, ⟨oo, q1⟩, fun h1 h2 ⟨o, z1, z2⟩ k => ⟨o, k o z1, z2⟩⟩), rfl, ?_⟩
          refine k _ _ _ r4 E4 ?_
          simp only [RD]
          exact ⟨s.heap.objs.size, by rw [← r3.len]; simp, rfl⟩
      · rw [if_neg ha] at k
        exact False.elim k
end
end Sx

set_option Elab.async false
set_option linter.all false
set_option maxRecDepth 100000
set_option maxHeartbeats 2000000
namespace Sx
open PySem PySem.Spec PyProof.Rows L2
def ItB (b : Bool) (h : Heap) (it l : Addr) (i : Nat) : Prop := match b with
  | true => h.IsTupleIter it l i
  | false => h.IsListIter it l i
def SqB (b : Bool) (h : Heap) (l : Addr) (xs : Array Value) : Prop := match b with
  | true => h.IsTuple l xs
  | false => h.IsList l xs
section
variable {b : Bool} {h h' : Heap} {it l c : Addr} {i : Nat} {xs : Array Value}
theorem ItB.ext (x : ItB b h it l i) (e : Heap.ExtBut c h h') (n : it ≠ c) : ItB b h' it l i := by
  cases b
  · exact Heap.IsListIter.extBut x e n
  · exact Heap.IsTupleIter.extBut x e n
theorem SqB.ext (x : SqB b h l xs) (e : Heap.ExtBut c h h') (n : l ≠ c) : SqB b h' l xs := by
  cases b
  · exact Heap.IsList.extBut x e n
  · exact Heap.IsTuple.extBut x e n
theorem ItB.at (x : ItB b h it l i) (k : ∀ o, h.get? it = some o → h'.get? it = some o) : ItB b h' it l i := by
  cases b
  · exact Heap.IsListIter.at x k
  · exact Heap.IsTupleIter.at x k
theorem ItB.obj (x : ItB b h it l i) : ∃ o, h.get? it = some o ∧ ∀ v, o.data ≠ .cell v := by
  cases b
  · obtain ⟨o, e, _, d⟩ := x
    exact ⟨o, e, fun v z => by rw [d] at z; cases z⟩
  · obtain ⟨o, e, _, d⟩ := x
    exact ⟨o, e, fun v z => by rw [d] at z; cases z⟩
end
section
variable {prog : Program} {w : World} {A : Around} {E : Value → Shared → Prop} {s : Shared}
end
end Sx

set_option Elab.async false
set_option linter.all false
set_option maxRecDepth 100000
set_option maxHeartbeats 2000000
namespace Sx
open PySem PySem.Spec PyProof.Rows L2
section
variable {X : Cx} {pins : List (Addr × Obj)} {s : Shared} {σ : L2.St} {H : Hp} {b : Bool} {a : Addr} {xs ys : List V}
end
section
variable {prog : Program} {w : World} {A : Around} {E : Value → Shared → Prop} {s : Shared}
end
section
variable {W : Wd} {μ : List Addr} {h : Hc} {H : Hp}
end
section
variable {X : Cx} {Wx : WX} {a b : Expr} {ca cb : CE} {p pos tpos : Pos} {elts : List Expr} {kk : Nat}
end
end Sx

set_option Elab.async false
set_option linter.all false
set_option maxRecDepth 100000
namespace Sx
open PySem PySem.W PyProof.Rows L2
structure FTA (K : PySem.W.Frag) (mg : Str → Option Value) (y x qual : Str) (st : Stmt) (ps : List Str) (f : Addr) (fd : FuncData) : Prop where
  g : mg y = some (.ref f)
  fn : Fun K x qual st f fd
  b : Binds K fd ps []
  bt : ∀ (s : Shared) (us : List Value), us.length = ps.length → BindsTo s fd ⟨us, []⟩ (ps.zip us)
theorem FTA.k {K : PySem.W.Frag} {mg : Str → Option Value} {y x qual : Str} {st : Stmt} {ps : List Str} {f : Addr} {fd : FuncData} (T : FTA K mg y x qual st ps f fd) : PySem.W.keepIn K (.ref f) = true := T.fn.kp
section
variable {K : PySem.W.Frag} {h : Heap} {mg : Str → Option Value}
end
end Sx

set_option Elab.async false
set_option linter.all false
set_option maxRecDepth 100000
namespace Sx
open PySem PySem.Spec PyProof.Rows L2
section
variable {X : Cx}
end
section
variable {X : Cx} {Wx : WX} {tg it kx vx : Expr} {ifs : List Expr} {tp : Bool} {ci : CI} {t : TGT} {tt : CT} {ck cv : CE} {scope : Scope} {own : List (Str × Nat)} {pos : Pos}
end
end Sx

set_option Elab.async false
set_option linter.all false
set_option maxRecDepth 100000
namespace Sx
open PySem PySem.Spec PyProof.Rows L2
section
variable {X : Cx} {tg e : Expr} {td : TE} {apos cpos : Pos}
end
section
variable {W : Wd} {μ : List Addr} {h : Hc} {H : Hp} {d : Addr} {n : Nat}
end
section
variable {X : Cx} {Wx : WX} {a : Expr} {ca : CE} {apos cpos : Pos}
end
end Sx

set_option Elab.async false
set_option linter.all false
set_option maxRecDepth 100000
namespace Sx
open PySem PySem.Spec PyProof.Rows L2
open PySem.W PySem.Calls PySem.HandSPX
structure FnG (P : Program) (w : World) (K : Frag) (mg : Str → Option Value) (base : Heap) (k : Nat) (f : Addr) (fd : FuncData) (ps : List Str) (sp : Sp) : Prop where
  len : ∀ vs H Q E, sp vs H Q E → vs.length = ps.length
  run : ∀ (A : Around) (outer : List Env) (s : Shared) (H : Hp) (args : Args) (us : List Value) (vs : List V) (Q : VK) (E : XK), A.guards = some [] → Room k A →
    Env0 P w K mg base A outer s H → BindsTo s fd args (ps.zip us) → Vals vs us → sp vs H Q E →
    codeAny (model P w) A (.call (.ref f) args) (CR (L2.CX P w) outer P w H s Q E) s
section
variable {P : Program} {w : World} {K : Frag} {mg : Str → Option Value} {base : Heap}
end
section
variable {X : Cx} {Wx : WX} {k n : Nat} {f : Addr} {fd : FuncData} {ps : List Str} {m : Fn} {x : Str} {p pos : Pos} {e : Expr} {es : List Expr} {cs : CA}
end
end Sx

set_option Elab.async false
set_option linter.all false
set_option maxRecDepth 100000
namespace HT
open PySem PySem.Spec PyProof.Rows
section
variable {prog : Program} {w : World} {A : Around} {E : Value → Shared → Prop} {s : Shared}
end
end HT
namespace Sx
open PySem PySem.Spec PyProof.Rows L2
open PySem.W PySem.Calls PySem.HandSPX
section
variable {X : Cx} {e kx : Expr} {te tk : TE} {pos p2 : Pos}
end
end Sx

set_option Elab.async false
set_option linter.all false
set_option maxRecDepth 100000
namespace Sx
open PySem PySem.Spec PyProof.Rows L2

section
variable {X : Cx} {Wx : WX} {a b : Expr} {ca cb : CE} {pos : Pos}
end

structure CalMe (K : PySem.W.Frag) (C : Addr) : Prop where
  cl : PySem.W.findIn K (.ref C) "__class__" = some (some (.builtin "object.__class__"))
  sp : PySem.W.specialIn K (.builtin "object.__class__") "__get__" = some (some (.builtin "getset_descriptor.__get__"))
  tk : PySem.W.takesIn K (.builtin "object.__class__") = some true
  ob : PySem.W.mroIn K C (.type "object") = some true
  tu : PySem.W.kitOne K (.type "tuple") (.ref C) = some false
  nf : PySem.W.notFirst K C (.type "tuple") = true
section
variable {X : Cx} {Wx : WX} {C fI : Addr} {e : Expr} {ce : CE} {p cp pos : Pos}
end
section
variable {X : Cx} {Wx : WX} {C fI f : Addr} {fd : FuncData} {k : Nat} {m : Fn} {op : CmpOp} {ps : List Str}
end
section
open PySem.W PySem.Calls
variable {K : PySem.W.Frag} {h : Heap} {mg : Str → Option Value}
end
end Sx

set_option Elab.async false
set_option linter.all false
set_option maxRecDepth 100000
namespace Sx
open PySem PySem.Spec PyProof.Rows L2
section
variable {X : Cx} {Wx : WX} {st : Stmt}
end
end Sx

set_option Elab.async false
set_option linter.all false
set_option maxRecDepth 100000
namespace Sx
open PySem PySem.Spec PyProof.Rows L2
structure EV (K : PySem.W.Frag) (mg : Str → Option Value) (es : List Str) : Prop where
  cl : ∀ c ∈ es, ∀ C, mg c = some (.ref C) → PySem.W.subIn K (.ref C) (.type "ValueError") = some true
end Sx

set_option Elab.async false
set_option linter.all false
set_option maxRecDepth 100000
namespace Sx
open PySem PySem.Spec PyProof.Rows L2
def pairT : D → Option (D × D)
  | .tup [k, d] => if (keyT k).isSome = true then some (k, d) else none
  | _ => none
def gDictX : GL := fun xs h => match xs with
  | [.ref n] => match h[n]? with
    | some (_, .lst ds) => match mapO pairD ds with
      | some l => some (.ref h.length, h ++ [(false, .dic (dMerge [] l))])
      | none => match mapO pairT ds with
        | some l => some (.ref h.length, h ++ [(false, .dcd (dispT l))])
        | none => none
    | _ => none
  | _ => none
section
variable {W : Wb} {μ : List Addr} {h : Hc} {H : Hp}
theorem pair_okT {d : D} {v : V} {q : D × D} (r : RD W μ H d v) (e : pairT d = some q) : ∃ p x u, v = .ref p ∧ SqT W.K H p [x, u] ∧ RD W μ H q.1 x ∧ RD W μ H q.2 u ∧ (keyT q.1).isSome = true := by
  unfold pairT at e
  split at e
  · rename_i k x
    split at e
    · rename_i ek
      cases e
      simp only [RD, RDs] at r
      obtain ⟨a, vs, rfl, t, y, _, rfl, r1, u, _, rfl, r2, rfl⟩ := r
      exact ⟨a, y, u, rfl, t.seq, r1, r2, ek⟩
    · cases e
  · cases e
theorem pairsX_ok : ∀ {ds : List D} {vs : List V} {l : TD}, RDs W μ H ds vs → mapO pairT ds = some l → ∃ (ps : List Addr) (kvs : List (V × V)), vs = ps.map V.ref ∧ Paired (fun p kv => SqT W.K H p [kv.1, kv.2]) ps kvs ∧ RDP W μ H l kvs ∧ (l.all fun p => (keyT p.1).isSome) = true
  | [], vs, l, r, e => by
    have r : vs = [] := r
    subst r
    cases e
    exact ⟨[], [], rfl, .nil, rfl, rfl⟩
  | d :: ds, vs, l, r, e => by
    obtain ⟨v, t, rfl, r1, r2⟩ := r
    simp only [mapO] at e
    split at e
    · rename_i q eq_
      split at e
      · rename_i l2 el
        cases e
        obtain ⟨ps, kvs, rfl, pr, rk, al⟩ := pairsX_ok r2 el
        obtain ⟨p, x, u, rfl, st, rx, ru, kx⟩ := pair_okT r1 eq_
        exact ⟨p :: ps, (x, u) :: kvs, rfl, .cons st pr, ⟨x, u, kvs, rfl, rx, ru, rk⟩, by rw [List.all_cons, kx, al]; rfl⟩
      · cases e
    · cases e
end
section
variable {X : Cx}
theorem pairs_ofX {pins : List (Addr × Obj)} {σ : L2.St} {H : Hp} {s : Shared} (I : Inv X pins σ H s) : ∀ {ps : List Addr} {kvs : List (V × V)}, Paired (fun p kv => SqT X.K H p [kv.1, kv.2]) ps kvs →
    ∃ prs : List (Value × Value), VV kvs prs ∧ prs.length = ps.length ∧ ∀ (j : Nat) (k v : Value), prs[j]? = some (k, v) → ps[j]? = some (ps.getD j 0) ∧ PairAt s.heap (ps.getD j 0) k v
  | _, _, .nil => ⟨[], .nil, rfl, fun j k v e => by simp at e⟩
  | _, _, .cons (a := p) (b := kv) h t => by
    obtain ⟨prs, r, hl, hp⟩ := pairs_ofX I t
    obtain ⟨its, rv, ht, _⟩ := I.tuple h
    obtain ⟨u, y, ei, ru, ry⟩ := vals2 rv
    subst ei
    refine ⟨(u, y) :: prs, .cons ⟨ru, ry⟩ r, by rw [List.length_cons, List.length_cons, hl], fun j k v e => ?_⟩
    cases j with
    | zero =>
      have e' : (u, y) = (k, v) := Option.some.inj e
      cases e'
      exact ⟨rfl, .inl ht⟩
    | succ j =>
      obtain ⟨e1, e2⟩ := hp j k v (by simpa using e)
      exact ⟨by simpa using e1, by simpa using e2⟩
theorem carry_at {P : Program} {w : World} {h : Heap} : ∀ {vs : List (Value × Value)} {xs : List (NestedKey × Addr × Value)}, CarriesH (nestedKind P w) h vs xs → ∀ (i : Nat) (k v : Value), vs[i]? = some (k, v) → ∃ nk b, xs[i]? = some (nk, b, v) ∧ k = .ref b
  | [], [], _, i, k, v, e => by simp at e
  | (key, u) :: vs, (nk, a, u') :: xs, c, i, k, v, e => by
    obtain ⟨c1, c2, _, c4⟩ := c
    cases i with
    | zero =>
      have e' : (key, u) = (k, v) := Option.some.inj e
      cases e'
      subst c2
      exact ⟨nk, a, rfl, c1⟩
    | succ i => exact carry_at c4 i k v (by simpa using e)
  | [], _ :: _, c, _, _, _, _ => c.elim
  | _ :: _, [], c, _, _, _, _ => c.elim
theorem carry_all {P : Program} {w : World} {h : Heap} : ∀ {vs : List (Value × Value)} {xs : List (NestedKey × Addr × Value)}, CarriesH (nestedKind P w) h vs xs → ∀ x ∈ xs, (nestedKind P w).is h x.1 x.2.1
  | [], [], _, x, hx => by simp at hx
  | (key, u) :: vs, (nk, a, u') :: xs, c, x, hx => by
    obtain ⟨_, _, c3, c4⟩ := c
    rcases List.mem_cons.mp hx with rfl | hx
    · exact c3
    · exact carry_all c4 x hx
  | [], _ :: _, c, _, _ => c.elim
  | _ :: _, [], c, _, _ => c.elim
theorem k_dictX (hcalm : X.calm = true) (hu : X.A.units + 64 < cLine) : CallR X (.type "dict") (lVs (wd X) gDictX) := by
  intro pins s σ H xs us Q I r k
  obtain ⟨μ, h, ds, x, rs, k⟩ := k
  unfold gDictX at k
  split at k
  · rename_i n
    obtain ⟨v, rfl, rd⟩ := rds1 rs
    split at k
    · rename_i f es e
      simp only [RD] at rd
      obtain ⟨a, e1, rfl⟩ := rd
      obtain ⟨vs, e2, e3⟩ := x.ob n a _ e1 e
      split at k
      · rename_i l el
        obtain ⟨ps, kvs, rfl, pr, rk⟩ := pairs_ok e3 el
        exact call_dictP hcalm pins s σ H _ us Q I r ⟨a, ps, kvs, rfl, SqL.of e2, pr, fun p hp => kO.dic k x (RKs.merge rk (show RKs _ _ _ [] [] from rfl)) hp⟩
      · split at k
        · rename_i l el
          obtain ⟨ps, kvs, rfl, pr, dp, al⟩ := pairsX_ok e3 el
          obtain ⟨u, eu, rx⟩ := vals1 r
          subst eu
          cases rx
          obtain ⟨its, rv, pl, hz⟩ := I.list (SqL.of e2)
          have ei := refs_at rv
          subst ei
          rw [List.length_map] at hz
          obtain ⟨prs, rel, hl, hpr⟩ := pairs_ofX I pr
          obtain ⟨xs', cr, fx⟩ := carry_tup I dp rel al
          obtain ⟨o, n', ho, hc, hd, hdat⟩ := pl
          have fr := I.hok.fresh (Nat.le_refl s.heap.objs.size)
          have hsys : (s.heap.objs.size == sysModules) = false := beq_eq_false_iff_ne.mpr (Ne.symm (Nat.ne_of_lt I.big))
          refine call_dict_pairsH (knd := nestedKind X.prog X.w) (ps := xs') (PairArg.list a (ps.map Value.ref).toArray (fun j => ps.getD j 0) prs) (I.ok.hd hcalm) (by show X.A.in1.in1.units + 8 < cLine; simp [Around.in1]; omega) ⟨⟨o, n', ho, hc, hd, hdat⟩, by simp [hl], fun j k v e => ?_⟩ ⟨cr.length, fun i key v e => carry_at cr i key v e⟩ (fun h' hk y hy => ?_) (by rw [hl]; exact hz) fun h' tk dd' hs => ?_
          · obtain ⟨q1, q2⟩ := hpr j k v e
            exact ⟨by rw [List.getElem?_toArray, List.getElem?_map, q1]; rfl, q2⟩
          · exact nestedKind_stays.stays (fun b o vs n q _ => hk b o (Nat.ne_of_lt (Heap.lt_size q)) (by simp) q) (carry_all cr y hy)
          · obtain ⟨oo, es', ep', q1, q2, q3, q4, _, q5⟩ := dd'
            have ex := fx (acc := []) (ya := []) rfl
            obtain ⟨r3, E3⟩ := x.aside (o := .ext fun h => h.DictRaw s.heap.objs.size es' ep') fr
            have n0 := x.notin fr
            have ex2 := ex.mono (H' := upd H s.heap.objs.size (.ext fun h => h.DictRaw s.heap.objs.size es' ep')) (fun d v q => RD.ext E3 x d v q)
            have hl2 : (dispT l).length ≤ sizeLine := by
              have a := dispT_len (l := l) (acc := [])
              have b := rdp_len dp
              have c := Paired.length rel
              have z0 : (dispT l).length ≤ 0 + l.length := a
              omega
            obtain ⟨r4, E4⟩ := R.adoptX r3 E3 fr n0 hsys (dispT_nd (l := l) (acc := []) (by simp)) hl2 upd_same (by rw [q4]; exact ex2.to)
            refine ⟨.ref s.heap.objs.size, upd H s.heap.objs.size (.ext fun h => h.DictRaw s.heap.objs.size es' ep'), I.laid (t' := tk) (fun b o q => hs b o (by simp) q) (Nat.le_refl _) (show ObjOk X.prog X.w _ h' s.heap.objs.size (.ext fun h => h.DictRaw s.heap.objs.size es' ep') from ⟨⟨oo, q1, q2, q3⟩, ⟨oo, q1⟩, fun h1 h2 ⟨o, z1, z2⟩ k => ⟨o, k o z1, z2⟩⟩), rfl, ?_⟩
            refine k _ _ _ r4 E4 ?_
            simp only [RD]
            exact ⟨s.heap.objs.size, by rw [← r3.len]; simp, rfl⟩
        · exact False.elim k
    · exact False.elim k
  · exact False.elim k
end
end Sx

set_option Elab.async false
set_option linter.all false
set_option maxRecDepth 100000
namespace Sx
open PySem PySem.Spec PyProof.Rows L2
section
variable {X : Cx}
end
end Sx

set_option Elab.async false
set_option linter.all false
set_option maxRecDepth 100000
namespace Sx
open PySem PySem.Spec PyProof.Rows L2
open AutoSeq1 (wpAny_loadPart')
open MeetsSeq MeetsSeq2 MeetsSeq3 SeqRoads2 SeqAt

def EqC (m : Fn) (h : Hc) (a b : D) : Prop := (∃ ns ds ns' ds', a = .obj cal ns ds ∧ b = .obj cal ns' ds' ∧ m [a, b] h = .ok (.bl true) h) ∨ eqD a b h = some true
def EqCs (m : Fn) (h : Hc) : List D → List D → Prop
  | [], [] => True
  | a :: r, b :: s => EqC m h a b ∧ EqCs m h r s
  | _, _ => False
open Classical in
theorem EqCs.len {m : Fn} {h : Hc} : ∀ {ds es : List D}, EqCs m h ds es → ds.length = es.length
  | [], [], _ => rfl
  | _ :: r, _ :: s, q => by rw [List.length_cons, List.length_cons, EqCs.len q.2]
theorem EqCs.get {m : Fn} {h : Hc} : ∀ {ds es : List D} {i : Nat} {a b : D}, EqCs m h ds es → ds[i]? = some a → es[i]? = some b → EqC m h a b
  | _ :: _, _ :: _, 0, _, _, q, e1, e2 => by
    simp only [List.getElem?_cons_zero, Option.some.injEq] at e1 e2
    subst e1; subst e2
    exact q.1
  | _ :: _, _ :: _, i + 1, _, _, q, e1, e2 => EqCs.get (i := i) q.2 (by simpa using e1) (by simpa using e2)
  | [], _, _, _, _, _, e1, _ => by simp at e1

section
variable {prog : Program} {w : World} {A : Around} {R : Result → Shared → Prop}
end

section
variable {X : Cx} {C fI f : Addr} {fd : FuncData} {k : Nat} {m : Fn} {ps : List Str}
end
end Sx

set_option Elab.async false
set_option linter.all false
set_option maxRecDepth 100000
namespace Sx
open PySem PySem.Spec PyProof.Rows L2
section
variable {W : Wd} {μ : List Addr} {h : Hc} {H : Hp}
end
section
variable {X : Cx}
end
section
variable {x y : D} {h : Hc}
end
end Sx

set_option Elab.async false
set_option linter.all false
set_option maxRecDepth 100000
namespace Sx
open PySem PySem.Spec PyProof.Rows L2
section
variable {X : Cx}
end
end Sx

set_option Elab.async false
set_option linter.all false
set_option maxRecDepth 100000
namespace Sx
open PySem PySem.Spec PyProof.Rows L2
section
variable {X : Cx} {Wx : WX} {k : Nat} {f : Addr} {fd : FuncData} {ps : List Str} {m : Fn} {x : Str} {p pos : Pos}
end
end Sx

set_option Elab.async false
set_option linter.all false
set_option maxRecDepth 100000
namespace Sx
open PySem PySem.Spec PyProof.Rows L2
def cTst3 (g1 g2 g3 : G2) (a b c d : CE) : CT := fun ρ h => (a ρ h).bind fun x h1 => (b ρ h1).bind fun y h2 => (g1 x y h2).res.bind fun t h3 => match t with
  | .bl true => (c ρ h3).bind fun z h4 => (g2 y z h4).res.bind fun t2 h5 => match t2 with
    | .bl true => (d ρ h5).bind fun w h6 => (g3 z w h6).res.bind fun t3 h7 => match t3 with
      | .bl q => .ok q h7
      | _ => .stuck
    | .bl false => .ok false h5
    | _ => .stuck
  | .bl false => .ok false h3
  | _ => .stuck
section
variable {X : Cx} {Wx : WX}
def tTst3 (r1 r2 r3 : R2) (ta tb tc td : TE) : TT := fun σ H Q => ta σ H fun x H1 => tb σ H1 fun y H2 => r1 x y H2 fun t H3 => ∃ k, t = .bl k ∧
  (if k = true then tc σ H3 fun z H4 => r2 y z H4 fun t2 H5 => ∃ k2, t2 = .bl k2 ∧ (if k2 = true then td σ H5 fun w H6 => r3 z w H6 fun t3 H7 => ∃ k3, t3 = .bl k3 ∧ Q k3 H7 else Q false H5) else Q false H3)
theorem pt_chain3 {a b c d : Expr} {pos : Pos} {ta tb tc td : TE} {o1 o2 o3 : CmpOp} {r1 r2 r3 : R2} (h1 : OpR X (compareOp o1) r1) (h2 : OpR X (compareOp o2) r2) (h3 : OpR X (compareOp o3) r3) (ha : PE X a ta) (hb : PE X b tb) (hc : PE X c tc) (hd : PE X d td)
    (hm : lastMarks [o1, o2, o3] [b, c, d] = false := by with_unfolding_all rfl) : PT X (.Compare a [o1, o2, o3] [b, c, d] pos) (tTst3 r1 r2 r3 ta tb tc td) := by
  refine ⟨fun pins s σ H Q I h => ?_⟩
  refine isTrue_chain (thn (ha.run pins s σ H _ I h) fun v s1 ⟨x, H1, I1, r1, q1⟩ => test_link (thn (hb.run pins s1 σ H1 _ I1 q1) fun u s2 ⟨y, H2, I2, r2, q2⟩ =>
    thn (h1 pins s2 σ H2 x y v u _ I2 r1 r2 q2) fun d s3 ⟨z, H3, I3, r3, k, e, q3⟩ => ?_)) hm
  subst e
  cases r3
  refine wpAny_truthy_bool ?_
  cases k with
  | false => exact ite_ff ⟨H3, I3, q3⟩
  | true =>
    refine ite_tt (test_link (thn (hc.run pins s3 σ H3 _ I3 q3) fun w s4 ⟨z, H4, I4, r4, q4⟩ => thn (h2 pins s4 σ H4 y z u w _ I4 r2 r4 q4) fun d' s5 ⟨t2, H5, I5, r5, k2, e2, q5⟩ => ?_))
    subst e2
    cases r5
    refine wpAny_truthy_bool ?_
    cases k2 with
    | false => exact ite_ff ⟨H5, I5, q5⟩
    | true =>
      refine ite_tt (test_last (thn (hd.run pins s5 σ H5 _ I5 q5) fun w' s6 ⟨y', H6, I6, r6, q6⟩ => thn (h3 pins s6 σ H6 z y' w w' _ I6 r4 r6 q6) fun d' s7 ⟨t3, H7, I7, r7, k3, e3, q7⟩ => ?_))
      subst e3
      cases r7
      exact wpAny_truthy_bool ⟨H7, I7, q7⟩
theorem s_chain3T {a b c d : Expr} {pos : Pos} {ca cb cc cd : CE} {o1 o2 o3 : CmpOp} {g1 g2 g3 : G2} (h1 : OpR X (compareOp o1) (lV2 (wd X) g1)) (h2 : OpR X (compareOp o2) (lV2 (wd X) g2)) (h3 : OpR X (compareOp o3) (lV2 (wd X) g3)) (ha : SE X Wx a ca) (hb : SE X Wx b cb) (hc : SE X Wx c cc) (hd : SE X Wx d cd)
    (hm : lastMarks [o1, o2, o3] [b, c, d] = false := by with_unfolding_all rfl) : ST X Wx (.Compare a [o1, o2, o3] [b, c, d] pos) (cTst3 g1 g2 g3 ca cb cc cd) := by
  refine pt_mono (pt_chain3 h1 h2 h3 ha hb hc hd hm) fun σ H Q ⟨μ, ρ, h, r, rs, k⟩ => ?_
  refine ⟨μ, ρ, h, r, rs, (kR.bind r k).imp fun v H1 ⟨x, μ1, h1, _, r1, e1, d1, k1⟩ => ?_⟩
  refine ⟨μ1, ρ, h1, r1, rs.ext e1 r, (kR.bind r1 k1).imp fun u H2 ⟨y, μ2, h2, _, r2, e2, d2, k2⟩ => ?_⟩
  refine ⟨μ2, h2, x, y, r2, RD.ext e2 r1 x v d1, d2, kO.of ((kR.bind r2 k2).imp fun z H3 ⟨z', μ3, h3, _, r3, e3, d3, k3⟩ => ?_)⟩
  cases z' with
  | bl q =>
    simp only [RD] at d3; subst d3
    refine ⟨q, rfl, ?_⟩
    cases q with
    | false =>
      rw [if_neg Bool.false_ne_true]
      exact k3 μ3 H3 false r3 .refl rfl
    | true =>
      rw [if_pos rfl]
      have rs3 := ((rs.ext e1 r).ext e2 r1).ext e3 r2
      refine ⟨μ3, ρ, h3, r3, rs3, (kR.bind r3 k3).imp fun w H4 ⟨w', μ4, h4, _, r4, e4, d4, k4⟩ => ?_⟩
      refine ⟨μ4, h4, y, w', r4, RD.ext e4 r3 y u (RD.ext e3 r2 y u d2), d4, kO.of ((kR.bind r4 k4).imp fun z5 H5 ⟨z6, μ5, h5, _, r5, e5, d5, k5⟩ => ?_)⟩
      cases z6 with
      | bl q5 =>
        simp only [RD] at d5; subst d5
        refine ⟨q5, rfl, ?_⟩
        cases q5 with
        | false =>
          rw [if_neg Bool.false_ne_true]
          exact k5 μ5 H5 false r5 .refl rfl
        | true =>
          rw [if_pos rfl]
          refine ⟨μ5, ρ, h5, r5, (rs3.ext e4 r3).ext e5 r4, (kR.bind r5 k5).imp fun w2 H6 ⟨w3, μ6, h6, _, r6, e6, d6, k6⟩ => ?_⟩
          refine ⟨μ6, h6, w', w3, r6, RD.ext e6 r5 w' w (RD.ext e5 r4 w' w d4), d6, kO.of ((kR.bind r6 k6).imp fun z7 H7 ⟨z8, μ7, h7, _, r7, e7, d7, k7⟩ => ?_)⟩
          cases z8 with
          | bl q7 =>
            simp only [RD] at d7; subst d7
            exact ⟨q7, rfl, k7 μ7 H7 q7 r7 .refl rfl⟩
          | _ => exact False.elim k7
      | _ => exact False.elim k5
  | _ => exact False.elim k3
end
def cdP : List Int → Int
  | [a, b] => a * 64 + b
  | _ => -1
def okPr (l : List Int) : Bool := match l with
  | [a, b] => decide (0 ≤ a ∧ a < 64) && decide (0 ≤ b ∧ b < 64)
  | _ => false
def ascP : List (List Int) → Bool
  | [] => true
  | [_] => true
  | a :: b :: r => decide (cdP a < cdP b) && ascP (b :: r)
def gSSP : G1 := fun d h => match d with
  | .ref n => match h[n]? with
    | some (_, .lst ds) => match rowsOf ds with
      | some ls => if (Nat.blt ls.length 64 && ls.all okPr && ascP ls) = true then some (.ref h.length, h ++ [(false, .lst ds)]) else none
      | none => none
    | _ => none
  | _ => none
theorem asc_pw : ∀ {ls : List (List Int)}, ascP ls = true → ls.Pairwise (fun a b => cdP a < cdP b)
  | [], _ => .nil
  | [_], _ => by simp
  | a :: b :: r, h => by
    simp only [ascP, Bool.and_eq_true, decide_eq_true_eq] at h
    have ih := asc_pw h.2
    refine List.pairwise_cons.mpr ⟨fun x hx => ?_, ih⟩
    rcases List.mem_cons.mp hx with rfl | hx
    · exact h.1
    · exact Int.lt_trans h.1 ((List.pairwise_cons.mp ih).1 x hx)
theorem ok_pr {l : List Int} (h : okPr l = true) : ∃ a b, l = [a, b] ∧ 0 ≤ a ∧ a < 64 ∧ 0 ≤ b ∧ b < 64 := by
  unfold okPr at h
  split at h
  · rename_i a b
    simp only [Bool.and_eq_true, decide_eq_true_eq] at h
    exact ⟨a, b, rfl, h.1.1, h.1.2, h.2.1, h.2.2⟩
  · cases h
theorem code_cd {l : List Int} (h : okPr l = true) : TS.code 64 l = cdP l := by
  obtain ⟨a, b, rfl, _⟩ := ok_pr h
  simp [TS.code, cdP]
theorem ints_rd {W : Wb} {μ : List Addr} {H : Hp} : ∀ {l : List Int} {vs : List V}, RDs W μ H (l.map D.int) vs → vs = l.map V.int
  | [], vs, r => by simp only [List.map_nil, RDs] at r; exact r
  | i :: l, vs, r => by
    simp only [List.map_cons, RDs] at r
    obtain ⟨y, t, rfl, r1, r2⟩ := r
    simp only [RD] at r1
    rw [r1, ints_rd r2]; rfl
theorem TpL.upd1 {K : PySem.W.Frag} {H : Hp} {a b : Addr} {xs : List V} {o : HO} (h : TpL K H a xs) (hb : H b = none) : TpL K (upd H b o) a xs := by
  rcases h with ⟨o', h, q⟩ | h
  · exact .inl ⟨o', by rw [upd_ne (ne_of_none h hb)]; exact h, q⟩
  · exact .inr h
theorem rows_at {W : Wb} {μ : List Addr} {H : Hp} : ∀ {ds : List D} {vs : List V} {ls : List (List Int)}, RDs W μ H ds vs → rowsOf ds = some ls →
    ∃ ks : List (Addr × List Int), vs = ks.map (fun p => V.ref p.1) ∧ ls = ks.map (·.2) ∧ ds = ks.map (fun p => .tup (p.2.map D.int)) ∧ ∀ p ∈ ks, TpL W.K H p.1 (p.2.map V.int)
  | [], vs, ls, r, e => by
    simp only [RDs] at r; subst r
    injection e with e; subst e
    exact ⟨[], rfl, rfl, rfl, by simp⟩
  | d :: ds, vs, ls, r, e => by
    simp only [RDs] at r
    obtain ⟨y, t, rfl, r1, r2⟩ := r
    simp only [rowsOf] at e
    cases q : rowI d with
    | none => rw [q] at e; cases e
    | some l =>
      rw [q] at e
      cases q2 : rowsOf ds with
      | none => rw [q2] at e; cases e
      | some l2 =>
        rw [q2] at e
        injection e with e
        subst e
        obtain ⟨ks, e1, e2, e3, e4⟩ := rows_at r2 q2
        obtain rfl := rowI_eq q
        simp only [RD] at r1
        obtain ⟨a, ws, rfl, tp, rw'⟩ := r1
        obtain rfl := ints_rd rw'
        refine ⟨(a, l) :: ks, by rw [e1]; rfl, by rw [e2]; rfl, by rw [e3]; rfl, fun p hp => ?_⟩
        rcases List.mem_cons.mp hp with z | z
        · subst z; exact tp
        · exact e4 p z
theorem s_ssetP {X : Cx} {Wx : WX} {e : Expr} {ce : CE} {p p2 pos pos2 : Pos} (hu : X.A.units + 64 < cLine) (hc : X.calm = true) (hg : Gl X "sorted") (hm : X.mg "sorted" = none) (hv : bootBuiltins "sorted" = some (.builtin "sorted")) (hg2 : Gl X "set") (hm2 : X.mg "set" = none) (hv2 : bootBuiltins "set" = some (.type "set")) (ha : SE X Wx e ce)
    (he2 : starEach (e :: []) X.env = (false, eval e X.env) :: starEach [] X.env := by rfl) (hpl2 : (backTo pos2 (starEach [] X.env)).any (·.1) = false := by rfl)
    (he : starEach (Expr.Call (.Name "set" p2) [e] [] pos2 :: []) X.env = (false, eval (.Call (.Name "set" p2) [e] [] pos2) X.env) :: starEach [] X.env := by rfl) (hpl : (backTo pos (starEach [] X.env)).any (·.1) = false := by rfl) :
    SE X Wx (.Call (.Name "sorted" p) [.Call (.Name "set" p2) [e] [] pos2] [] pos) (Sx.c1 gSSP ce) := by
  refine pe_mono (pe_callB (cr_sortedT hc) hg hm hv (pa_cons (pe_callTy (cr_setOfT hc hu) hg2 hm2 hv2 (pa_cons ha pa_nil he2) (by decide) (by decide) he2 hpl2) pa_nil he) (by decide) (by decide) he hpl) fun σ H Q ⟨μ, ρ, h, r, rs, k⟩ => ?_
  refine ⟨μ, ρ, h, r, rs, (kR.bind r k).imp fun v H1 ⟨d, μ1, h1, q, r1, e1, d1, k1⟩ => ?_⟩
  have k2 := kO.of k1
  unfold gSSP at k2
  cases d with
  | ref n =>
    simp only at k2
    cases eh : h1[n]? with
    | none => rw [eh] at k2; exact False.elim k2
    | some fo =>
      obtain ⟨fl, o⟩ := fo
      rw [eh] at k2
      cases o with
      | lst ds =>
        simp only at k2
        cases er : rowsOf ds with
        | none => simp only [er] at k2; exact False.elim k2
        | some ls =>
          simp only [er] at k2
          by_cases c : (Nat.blt ls.length 64 && ls.all okPr && ascP ls) = true
          · rw [if_pos c] at k2
            simp only [Bool.and_eq_true, Nat.blt_eq] at c
            obtain ⟨⟨c1, c2⟩, c3⟩ := c
            have c2 := List.all_eq_true.mp c2
            simp only [RD] at d1
            obtain ⟨a, ea, rfl⟩ := d1
            obtain ⟨vs, f2, f3⟩ := r1.ob n a _ ea eh
            obtain ⟨ks, g1, g2, g3, g4⟩ := rows_at f3 er
            subst g1 g2
            have nd : ks.Pairwise (fun p q => cdP p.2 < cdP q.2) := (List.pairwise_map (f := fun p : Addr × List Int => p.2) (R := fun a b => cdP a < cdP b)).mp (asc_pw c3)
            have kok : ∀ p ∈ ks, okPr p.2 = true := fun p hp => c2 p.2 (List.mem_map.mpr ⟨p, hp, rfl⟩)
            refine ⟨a, ks, rfl, SqL.of f2, fun p hp => (g4 p hp).seq, by simpa using c1, fun b L hb sub cov => ?_⟩
            obtain ⟨x2, E2⟩ := R.aside (o := SetTO X.prog X.w b L) r1 hb
            refine ⟨b, L, 2, 64, rfl, by unfold upd; simp, fun p hp => ?_, by decide, fun p hp => ?_, fun L' p2 pm ndl hlen pw hp => ?_⟩
            · have := (g4 p (sub p hp)).upd1 (o := SetTO X.prog X.w b L) hb
              exact this.seq
            · obtain ⟨x, y, e, h0, h1', h2', h3'⟩ := ok_pr (kok p (sub p hp))
              rw [e]
              refine ⟨rfl, fun m hm => ?_⟩
              simp only [List.mem_cons, List.not_mem_nil, or_false] at hm
              rcases hm with rfl | rfl <;> constructor <;> omega
            · have sub' : ∀ p ∈ L', p ∈ ks := fun p hp => sub p (pm.mem_iff.mp hp)
              have mem : ∀ l, l ∈ L'.map (·.2) ↔ l ∈ ks.map (·.2) := fun l => by
                constructor
                · intro hl
                  obtain ⟨p, hp, rfl⟩ := List.mem_map.mp hl
                  exact List.mem_map.mpr ⟨p, sub' p hp, rfl⟩
                · intro hl
                  obtain ⟨p, hp, rfl⟩ := List.mem_map.mp hl
                  obtain ⟨q, hq, e⟩ := List.mem_map.mp (cov p hp)
                  exact List.mem_map.mpr ⟨q, pm.mem_iff.mpr hq, e⟩
              have pw' : (L'.map (·.2)).Pairwise (fun a b => cdP a ≤ cdP b) := by
                refine List.pairwise_map.mpr (List.Pairwise.imp_of_mem (fun {p q} hp hq h => ?_) pw)
                rw [code_cd (kok p (sub' p hp)), code_cd (kok q (sub' q hq))] at h
                exact h
              have ndk : (ks.map (·.2)).Nodup := List.pairwise_map.mpr (nd.imp fun h e => by rw [e] at h; omega)
              have inj : ∀ l ∈ ks.map (·.2), ∀ m ∈ ks.map (·.2), cdP l = cdP m → l = m := fun l hl m hm e => by
                obtain ⟨x, y, rfl, a1, a2, a3, a4⟩ := ok_pr (c2 l hl)
                obtain ⟨x', y', rfl, b1, b2, b3, b4⟩ := ok_pr (c2 m hm)
                simp only [cdP] at e
                have : x = x' := by omega
                subst this
                have : y = y' := by omega
                subst this
                rfl
              have eqs : L'.map (·.2) = ks.map (·.2) := by
                refine ((List.perm_ext_iff_of_nodup ndl ndk).mpr mem).eq_of_pairwise (le := fun a b => cdP a ≤ cdP b) (fun x y hx hy h1 h2 => inj x ((mem x).mp hx) y hy (by omega)) pw' (List.pairwise_map.mpr (nd.imp fun h => by omega))
              have ed : ds = L'.map (fun p => .tup (p.2.map D.int)) := by
                rw [g3]
                have e1 : ks.map (fun p => D.tup (p.2.map D.int)) = (ks.map (·.2)).map fun l => D.tup (l.map D.int) := by rw [List.map_map]; rfl
                have e2 : L'.map (fun p => D.tup (p.2.map D.int)) = (L'.map (·.2)).map fun l => D.tup (l.map D.int) := by rw [List.map_map]; rfl
                rw [e1, e2, eqs]
              have rd2 : RDs (wd X).toWb μ1 (upd H1 b (SetTO X.prog X.w b L)) ds (L'.map fun q => V.ref q.1) := by
                rw [ed]
                have : ∀ M : List (Addr × List Int), (∀ p ∈ M, p ∈ ks) → RDs (wd X).toWb μ1 (upd H1 b (SetTO X.prog X.w b L)) (M.map fun p => .tup (p.2.map D.int)) (M.map fun q => V.ref q.1) := by
                  intro M
                  induction M with
                  | nil => intro _; exact RDs.nil
                  | cons p M ih =>
                    intro h
                    refine RDs.cons ?_ (ih fun q hq => h q (List.mem_cons_of_mem _ hq))
                    simp only [RD]
                    exact ⟨p.1, _, rfl, (g4 p (h p (List.mem_cons_self ..))).upd1 hb, RDs.ints p.2⟩
                exact this L' sub'
              obtain ⟨x3, E3⟩ := R.lst x2 hp rd2
              exact k2 _ _ _ x3 (Ext.trans r1 E2 E3) (by
                simp only [RD]
                exact ⟨p2, by rw [List.getElem?_append_right (by rw [r1.len]; exact Nat.le_refl _), r1.len, Nat.sub_self]; rfl, rfl⟩)
          · rw [if_neg c] at k2
            exact False.elim k2
      | _ => exact False.elim k2
  | _ => exact False.elim k2
end Sx

set_option Elab.async false
set_option linter.all false
set_option maxRecDepth 100000
set_option maxHeartbeats 4000000
namespace Gk
open PySem PySem.Spec PyProof.Rows L2 Sx
def top (i : Nat) : Stmt := PySem.Challenge.pw_datedlines_k04_told_lines_listed.main.body.getD i (.Pass ⟨0, 0, 0, 0⟩)
def errs : List Str := ["BadSize", "BadDay", "TooFew"]
abbrev st__law_take : Stmt := top 26
abbrev ps__law_take : List Str := ["_law_source", "_law_top"]
abbrev N__law_take : List Str := ["_law_source", "_law_top", "_law_drawn"]
def b__law_take : CS := cSeq (cIf (cB (c2 gGt (c2 gIx (cVar 0) (cK (.int 0))) (cK (.int 0)))) (cSeq (cSet 2 (c2 gMod (cC gInt (cCons (c2 gIx (cVar 0) (cK (.int 0))) (cNil))) (cVar 1))) (cSeq (cSetIx (c2 gDiv (c2 gIx (cVar 0) (cK (.int 0))) (cVar 1)) (cVar 0) (cK (.int 0))) (cRet (cVar 2)))) (cSkip)) (cSeq (cSetIx (c2 gMod (cC gInt (cCons (c2 gAdd (c2 gMul (c2 gIx (cVar 0) (cK (.int 1))) (cK (.int 39373))) (cK (.int 7))) (cNil))) (cK (.int 2147483647))) (cVar 0) (cK (.int 1))) (cRet (c2 gMod (cC gInt (cCons (c2 gDiv (c2 gMod (cC gInt (cCons (c2 gMul (c2 gIx (cVar 0) (cK (.int 1))) (c2 gIx (cVar 0) (cK (.int 1)))) (cNil))) (cK (.int 2147483629))) (cK (.int 32))) (cNil))) (cVar 1))))
def m__law_take : Fn := runD 2 3 b__law_take
theorem sc__law_take : FnScope N__law_take ps__law_take (defScope st__law_take) := ⟨rfl, rfl, rfl, by decide +kernel, rfl, by decide +kernel, by decide +kernel⟩
abbrev st__law_one : Stmt := top 27
abbrev ps__law_one : List Str := ["_law_source", "_law_things"]
abbrev N__law_one : List Str := ["_law_source", "_law_things"]
def b__law_one : CS := cRet (c2 gIx (cVar 1) (cCall m__law_take (cCons (cVar 0) (cCons (cC gLen (cCons (cVar 1) (cNil))) (cNil)))))
def m__law_one : Fn := runD 2 2 b__law_one
theorem sc__law_one : FnScope N__law_one ps__law_one (defScope st__law_one) := ⟨rfl, rfl, rfl, by decide +kernel, rfl, by decide +kernel, by decide +kernel⟩
abbrev st__law_pattern : Stmt := top 28
abbrev ps__law_pattern : List Str := ["_law_source", "_law_k"]
abbrev N__law_pattern : List Str := ["_law_source", "_law_k", "_law_found", "_law_left", "_law_most"]
def b__law_pattern : CS := cSeq (cPar 2 3 (cC gLstD (cNil)) (cVar 1)) (cSeq (cWhile 1000 (cAnd (cB (c2 gGe (cVar 3) (cK (.int 2)))) (cOr (cB (c2 gEq (cVar 2) (cC gLstD (cNil)))) (cB (c2 gEq (cCall m__law_take (cCons (cVar 0) (cCons (cK (.int 3)) (cNil)))) (cK (.int 0)))))) (cSeq (cSet 4 (cIfE (cB (c2 gNe (cVar 2) (cC gLstD (cNil)))) (cC gMin (cCons (cVar 3) (cCons (c2 gIx (cVar 2) (c1 gNeg (cK (.int 1)))) (cNil)))) (cVar 3))) (cSeq (cDrop (cMt isLst gAppend (cVar 2) (cCons (cIfE (cB (c2 gEq (cCall m__law_take (cCons (cVar 0) (cCons (cK (.int 2)) (cNil)))) (cK (.int 0)))) (cK (.int 2)) (c2 gAdd (cK (.int 2)) (cCall m__law_take (cCons (cVar 0) (cCons (c2 gSub (cVar 4) (cK (.int 1))) (cNil)))))) (cNil)))) (cSet 3 (c2 gSub (cVar 3) (c2 gIx (cVar 2) (c1 gNeg (cK (.int 1))))))))) (cRet (cC gTuple (cCons (cVar 2) (cNil)))))
def m__law_pattern : Fn := runD 2 5 b__law_pattern
theorem sc__law_pattern : FnScope N__law_pattern ps__law_pattern (defScope st__law_pattern) := ⟨rfl, rfl, rfl, by decide +kernel, rfl, by decide +kernel, by decide +kernel⟩
abbrev st__law_chosen : Stmt := top 29
abbrev ps__law_chosen : List Str := ["_law_names", "_law_size"]
abbrev N__law_chosen : List Str := ["_law_names", "_law_size", "_law_found", "_law_k", "_law_more"]
def b__law_chosen (self : Fn) : CS := cSeq (cIf (cB (c2 gEq (cVar 1) (cK (.int 0)))) (cRet (cC gLstD (cCons (cC gTupD (cNil)) (cNil)))) (cSkip)) (cSeq (cSet 2 (cC gLstD (cNil))) (cSeq (cFor (cItR1 (c2 gAdd (c2 gSub (cC gLen (cCons (cVar 0) (cNil))) (cVar 1)) (cK (.int 1)))) (.nm 3) (cDrop (cMt isLst gExt (cVar 2) (cCons (cComp [4] (cItS (cCall self (cCons (cCut (cVar 0) (some (c2 gAdd (cVar 3) (cK (.int 1)))) none) (cCons (c2 gSub (cVar 1) (cK (.int 1))) (cNil))))) (.nm 4) (cYes) (c2 gAdd (cC gTupD (cCons (c2 gIx (cVar 0) (cVar 3)) (cNil))) (cVar 4))) (cNil))))) (cRet (cVar 2))))
def m__law_chosen : Nat → Fn
  | 0 => fun _ _ => .stuck
  | n + 1 => runD 2 5 (b__law_chosen (m__law_chosen n))
theorem sc__law_chosen : FnScope N__law_chosen ps__law_chosen (defScope st__law_chosen) := ⟨rfl, rfl, rfl, by decide +kernel, rfl, by decide +kernel, by decide +kernel⟩
abbrev st__law_rows : Stmt := top 30
abbrev ps__law_rows : List Str := ["_law_names", "_law_pattern_here"]
abbrev N__law_rows : List Str := ["_law_names", "_law_pattern_here", "_law_some", "_law_size", "_law_longer", "_law_row", "_law_left", "_law_group", "_law_found", "_law_name"]
def b__law_rows : CS := cSeq (cSet 2 (cDisp (cPc (cC gTupD (cCons (cC gTupD (cNil)) (cCons (cC gTuple (cCons (cVar 0) (cNil))) (cNil)))) (cK (.bl true)) (cPn)))) (cSeq (cFor (cItS (cVar 1)) (.nm 3) (cSeq (cSet 4 (cDic0)) (cSeq (cFor (cItX (cVar 2)) (.tp [.nm 5, .nm 6]) (cFor (cItS (cCall (m__law_chosen 40) (cCons (cVar 6) (cCons (cVar 3) (cNil))))) (.nm 7) (cSetX (cK (.bl true)) (cVar 4) (cC gTupD (cCons (cC gTuple (cCons (cC gSrt (cCons (c2 gAdd (cVar 5) (cC gTupD (cCons (cVar 7) (cNil)))) (cNil))) (cNil))) (cCons (cC gTuple (cCons (cComp [9] (cItS (cVar 6)) (.nm 9) (cB (c2 gNotIn (cVar 9) (cVar 7))) (cVar 9)) (cNil))) (cNil))))))) (cSet 2 (cVar 4))))) (cSeq (cSet 8 (cDic0)) (cSeq (cFor (cItX (cVar 2)) (.tp [.nm 5, .nm 6]) (cSetX (cK (.bl true)) (cVar 8) (cVar 5))) (cRet (cC gSrtX (cCons (cVar 8) (cNil)))))))
def m__law_rows : Fn := runD 2 10 b__law_rows
theorem sc__law_rows : FnScope N__law_rows ps__law_rows (defScope st__law_rows) := ⟨rfl, rfl, rfl, by decide +kernel, rfl, by decide +kernel, by decide +kernel⟩
abbrev st_want_things : Stmt := top 9
abbrev ps_want_things : List Str := ["k"]
abbrev N_want_things : List Str := ["k"]
def b_want_things : CS := cIf (cNot (cB (cChain gLe gLe (cK (.int 0)) (cVar 0) (cK (.int 12))))) (cRaise "BadSize" (cVar 0)) (cSkip)
def m_want_things : Fn := runD 1 1 b_want_things
theorem sc_want_things : FnScope N_want_things ps_want_things (defScope st_want_things) := ⟨rfl, rfl, rfl, by decide +kernel, rfl, by decide +kernel, by decide +kernel⟩
abbrev st_is_number : Stmt := top 8
abbrev ps_is_number : List Str := ["thing"]
abbrev N_is_number : List Str := ["thing"]
def b_is_number : CS := cRet (cAndV (cC gIsi (cCons (cVar 0) (cCons (cK (.ty "int")) (cNil)))) (cNotV (cC gIsi (cCons (cVar 0) (cCons (cK (.ty "bool")) (cNil))))))
def m_is_number : Fn := runD 1 1 b_is_number
theorem sc_is_number : FnScope N_is_number ps_is_number (defScope st_is_number) := ⟨rfl, rfl, rfl, by decide +kernel, rfl, by decide +kernel, by decide +kernel⟩
abbrev st_is_pattern : Stmt := top 12
abbrev ps_is_pattern : List Str := ["thing"]
abbrev N_is_pattern : List Str := ["thing", "at", "size"]
def b_is_pattern : CS := cSeq (cIf (cOr (cNot (cTru (cC gIsi (cCons (cVar 0) (cCons (cK (.ty "tuple")) (cNil)))))) (cNot (cTru (cC gAll (cCons (cComp [2] (cItS (cVar 0)) (.nm 2) (cYes) (cAndV (cCall m_is_number (cCons (cVar 2) (cNil))) (c2 gGe (cVar 2) (cK (.int 2))))) (cNil)))))) (cRet (cK (.bl false))) (cSkip)) (cRet (cC gAll (cCons (cComp [1] (cItR2 (cK (.int 1)) (cC gLen (cCons (cVar 0) (cNil)))) (.nm 1) (cYes) (c2 gGe (c2 gIx (cVar 0) (c2 gSub (cVar 1) (cK (.int 1)))) (c2 gIx (cVar 0) (cVar 1)))) (cNil))))
def m_is_pattern : Fn := runD 1 3 b_is_pattern
theorem sc_is_pattern : FnScope N_is_pattern ps_is_pattern (defScope st_is_pattern) := ⟨rfl, rfl, rfl, by decide +kernel, rfl, by decide +kernel, by decide +kernel⟩
abbrev st_want_pattern : Stmt := top 13
abbrev ps_want_pattern : List Str := ["pattern"]
abbrev N_want_pattern : List Str := ["pattern"]
def b_want_pattern : CS := cIf (cNot (cTru (cCall m_is_pattern (cCons (cVar 0) (cNil))))) (cRaise "BadDay" (cK (.int 0))) (cSkip)
def m_want_pattern : Fn := runD 1 1 b_want_pattern
theorem sc_want_pattern : FnScope N_want_pattern ps_want_pattern (defScope st_want_pattern) := ⟨rfl, rfl, rfl, by decide +kernel, rfl, by decide +kernel, by decide +kernel⟩
abbrev st_want_day : Stmt := top 19
abbrev ps_want_day : List Str := ["k", "pattern"]
abbrev N_want_day : List Str := ["k", "pattern"]
def b_want_day : CS := cSeq (cDrop (cCall m_want_things (cCons (cVar 0) (cNil)))) (cSeq (cDrop (cCall m_want_pattern (cCons (cVar 1) (cNil)))) (cIf (cB (c2 gGt (cC gSum (cCons (cVar 1) (cNil))) (cVar 0))) (cRaise "TooFew" (cVar 0)) (cSkip)))
def m_want_day : Fn := runD 2 2 b_want_day
theorem sc_want_day : FnScope N_want_day ps_want_day (defScope st_want_day) := ⟨rfl, rfl, rfl, by decide +kernel, rfl, by decide +kernel, by decide +kernel⟩
abbrev st_terms : Stmt := top 15
abbrev ps_terms : List Str := ["found"]
abbrev N_terms : List Str := ["found", "i", "j"]
def b_terms : CS := cRet (cC gTuple (cCons (cComp [1, 2] (cItS (cC gSrtX (cCons (cVar 0) (cNil)))) (.tp [.nm 1, .nm 2]) (cB (c2 gNe (c2 gXGet (cVar 0) (cC gTupD (cCons (cVar 1) (cCons (cVar 2) (cNil))))) (cK (.int 0)))) (cC gTupD (cCons (cVar 1) (cCons (cVar 2) (cCons (c2 gXGet (cVar 0) (cC gTupD (cCons (cVar 1) (cCons (cVar 2) (cNil))))) (cNil)))))) (cNil)))
def m_terms : Fn := runD 1 3 b_terms
theorem sc_terms : FnScope N_terms ps_terms (defScope st_terms) := ⟨rfl, rfl, rfl, by decide +kernel, rfl, by decide +kernel, by decide +kernel⟩
abbrev st_poly_times : Stmt := top 16
abbrev ps_poly_times : List Str := ["one", "two"]
abbrev N_poly_times : List Str := ["one", "two", "found", "i", "j", "number", "k", "m", "other"]
def b_poly_times : CS := cSeq (cSet 2 (cDic0)) (cSeq (cFor (cItS (cVar 0)) (.tp [.nm 3, .nm 4, .nm 5]) (cFor (cItS (cVar 1)) (.tp [.nm 6, .nm 7, .nm 8]) (cSetX (c2 gAdd (cGetD (cVar 2) (cC gTupD (cCons (c2 gAdd (cVar 3) (cVar 6)) (cCons (c2 gAdd (cVar 4) (cVar 7)) (cNil)))) (cK (.int 0))) (c2 gMul (cVar 5) (cVar 8))) (cVar 2) (cC gTupD (cCons (c2 gAdd (cVar 3) (cVar 6)) (cCons (c2 gAdd (cVar 4) (cVar 7)) (cNil))))))) (cRet (cCall m_terms (cCons (cVar 2) (cNil)))))
def m_poly_times : Fn := runD 2 9 b_poly_times
theorem sc_poly_times : FnScope N_poly_times ps_poly_times (defScope st_poly_times) := ⟨rfl, rfl, rfl, by decide +kernel, rfl, by decide +kernel, by decide +kernel⟩
abbrev st_product : Stmt := top 17
abbrev ps_product : List Str := ["parts"]
abbrev N_product : List Str := ["parts", "found", "part"]
def b_product : CS := cSeq (cSet 1 (cC gTupD (cCons (cC gTupD (cCons (cK (.int 0)) (cCons (cK (.int 0)) (cCons (cK (.int 1)) (cNil))))) (cNil)))) (cSeq (cFor (cItS (cVar 0)) (.nm 2) (cSet 1 (cCall m_poly_times (cCons (cVar 1) (cCons (cVar 2) (cNil)))))) (cRet (cVar 1)))
def m_product : Fn := runD 1 3 b_product
theorem sc_product : FnScope N_product ps_product (defScope st_product) := ⟨rfl, rfl, rfl, by decide +kernel, rfl, by decide +kernel, by decide +kernel⟩
abbrev st_single : Stmt := top 18
abbrev ps_single : List Str := ["count"]
abbrev N_single : List Str := ["count", "i"]
def b_single : CS := cRet (cC gTuple (cCons (cComp [1] (cItR1 (c2 gAdd (cVar 0) (cK (.int 1)))) (.nm 1) (cYes) (cC gTupD (cCons (cVar 1) (cCons (cVar 1) (cCons (cC gComb (cCons (cVar 0) (cCons (cVar 1) (cNil)))) (cNil)))))) (cNil)))
def m_single : Fn := runD 1 2 b_single
theorem sc_single : FnScope N_single ps_single (defScope st_single) := ⟨rfl, rfl, rfl, by decide +kernel, rfl, by decide +kernel, by decide +kernel⟩
abbrev st_whole_of : Stmt := top 21
abbrev ps_whole_of : List Str := ["k", "pattern"]
abbrev N_whole_of : List Str := ["k", "pattern", "size"]
def b_whole_of : CS := cRet (cCall m_product (cCons (c2 gAdd (cComp [2] (cItS (cVar 1)) (.nm 2) (cYes) (cC gTupD (cCons (cC gTupD (cCons (cK (.int 0)) (cCons (cK (.int 0)) (cCons (cK (.int 1)) (cNil))))) (cCons (cC gTupD (cCons (cVar 2) (cCons (cK (.int 1)) (cCons (cK (.int 1)) (cNil))))) (cNil))))) (cC gLstD (cCons (cCall m_single (cCons (c2 gSub (cVar 0) (cC gSum (cCons (cVar 1) (cNil)))) (cNil))) (cNil)))) (cNil)))
def m_whole_of : Fn := runD 2 3 b_whole_of
theorem sc_whole_of : FnScope N_whole_of ps_whole_of (defScope st_whole_of) := ⟨rfl, rfl, rfl, by decide +kernel, rfl, by decide +kernel, by decide +kernel⟩
abbrev st_whole : Stmt := top 23
abbrev ps_whole : List Str := ["k", "pattern"]
abbrev N_whole : List Str := ["k", "pattern"]
def b_whole : CS := cSeq (cDrop (cCall m_want_day (cCons (cVar 0) (cCons (cVar 1) (cNil))))) (cRet (cCall m_whole_of (cCons (cVar 0) (cCons (cVar 1) (cNil)))))
def m_whole : Fn := runD 2 2 b_whole
theorem sc_whole : FnScope N_whole ps_whole (defScope st_whole) := ⟨rfl, rfl, rfl, by decide +kernel, rfl, by decide +kernel, by decide +kernel⟩
abbrev st_touched_of : Stmt := top 20
abbrev ps_touched_of : List Str := ["k", "pattern"]
abbrev N_touched_of : List Str := ["k", "pattern", "parts", "size", "i"]
def b_touched_of : CS := cSeq (cSet 2 (cComp [3] (cItS (cVar 1)) (.nm 3) (cYes) (c2 gAdd (cC gTupD (cCons (cC gTupD (cCons (cK (.int 0)) (cCons (cK (.int 0)) (cCons (cK (.int 1)) (cNil))))) (cNil))) (cC gTuple (cCons (cComp [4] (cItR2 (cK (.int 1)) (c2 gAdd (cVar 3) (cK (.int 1)))) (.nm 4) (cYes) (cC gTupD (cCons (cVar 4) (cCons (cK (.int 1)) (cCons (cC gComb (cCons (cVar 3) (cCons (cVar 4) (cNil)))) (cNil)))))) (cNil)))))) (cRet (cCall m_product (cCons (c2 gAdd (cVar 2) (cC gLstD (cCons (cCall m_single (cCons (c2 gSub (cVar 0) (cC gSum (cCons (cVar 1) (cNil)))) (cNil))) (cNil)))) (cNil))))
def m_touched_of : Fn := runD 2 5 b_touched_of
theorem sc_touched_of : FnScope N_touched_of ps_touched_of (defScope st_touched_of) := ⟨rfl, rfl, rfl, by decide +kernel, rfl, by decide +kernel, by decide +kernel⟩
abbrev st_touched : Stmt := top 22
abbrev ps_touched : List Str := ["k", "pattern"]
abbrev N_touched : List Str := ["k", "pattern"]
def b_touched : CS := cSeq (cDrop (cCall m_want_day (cCons (cVar 0) (cCons (cVar 1) (cNil))))) (cRet (cCall m_touched_of (cCons (cVar 0) (cCons (cVar 1) (cNil)))))
def m_touched : Fn := runD 2 2 b_touched
theorem sc_touched : FnScope N_touched ps_touched (defScope st_touched) := ⟨rfl, rfl, rfl, by decide +kernel, rfl, by decide +kernel, by decide +kernel⟩
abbrev st__law_form_right : Stmt := top 34
abbrev ps__law_form_right : List Str := ["_law_told", "_law_k"]
abbrev N__law_form_right : List Str := ["_law_told", "_law_k", "_law_places", "_law_part", "_law_place"]
def b__law_form_right : CS := cSeq (cIf (cOr (cNot (cTru (cC gIsi (cCons (cVar 0) (cCons (cK (.ty "tuple")) (cNil)))))) (cB (c2 gNe (cComp [3] (cItS (cVar 0)) (.nm 3) (cOr (cB (c2 gNe (cC gLen (cCons (cVar 3) (cNil))) (cK (.int 3)))) (cB (c2 gEq (c2 gIx (cVar 3) (cK (.int 2))) (cK (.int 0))))) (cVar 3)) (cC gLstD (cNil))))) (cRet (cK (.bl false))) (cSkip)) (cSeq (cSet 2 (cComp [3] (cItS (cVar 0)) (.nm 3) (cYes) (cCut (cVar 3) none (some (cK (.int 2)))))) (cRet (cAndV (c2 gEq (cVar 2) (c1 gSSP (cVar 2))) (c2 gEq (cComp [4] (cItS (cVar 2)) (.nm 4) (cNot (cTst3 gLe gLe gLe (cK (.int 0)) (c2 gIx (cVar 4) (cK (.int 1))) (c2 gIx (cVar 4) (cK (.int 0))) (cVar 1))) (cVar 4)) (cC gLstD (cNil))))))
def m__law_form_right : Fn := runD 2 5 b__law_form_right
theorem sc__law_form_right : FnScope N__law_form_right ps__law_form_right (defScope st__law_form_right) := ⟨rfl, rfl, rfl, by decide +kernel, rfl, by decide +kernel, by decide +kernel⟩
abbrev st__law_behind : Stmt := top 32
abbrev ps__law_behind : List Str := ["_law_k", "_law_row", "_law_told"]
abbrev N__law_behind : List Str := ["_law_k", "_law_row", "_law_told", "_law_found", "_law_met", "_law_group", "_law_line"]
def b__law_behind : CS := cSeq (cAsg (.tp [.nm 3, .nm 4]) (cC gTupD (cCons (cC gList (cCons (cVar 1) (cNil))) (cCons (cC gLstD (cNil)) (cNil))))) (cSeq (cFor (cItS (cVar 1)) (.nm 5) (cSet 4 (c2 gAdd (cVar 4) (cC gList (cCons (cVar 5) (cNil)))))) (cRet (c2 gAdd (cVar 3) (cComp [6] (cItR1 (cVar 0)) (.nm 6) (cB (c2 gNotIn (cVar 6) (cVar 4))) (cC gTupD (cCons (cVar 6) (cNil)))))))
def m__law_behind : Fn := runD 3 7 b__law_behind
theorem sc__law_behind : FnScope N__law_behind ps__law_behind (defScope st__law_behind) := ⟨rfl, rfl, rfl, by decide +kernel, rfl, by decide +kernel, by decide +kernel⟩
abbrev st__law_counts_of : Stmt := top 33
abbrev ps__law_counts_of : List Str := ["_law_k", "_law_rows_here", "_law_told", "_law_is_whole"]
abbrev N__law_counts_of : List Str := ["_law_k", "_law_rows_here", "_law_told", "_law_is_whole", "_law_found", "_law_row", "_law_some", "_law_line", "_law_x"]
def b__law_counts_of : CS := cSeq (cSet 4 (c2 gMul (cC gLstD (cCons (cK (.int 0)) (cNil))) (c2 gAdd (cVar 0) (cK (.int 1))))) (cSeq (cFor (cItS (cVar 1)) (.nm 5) (cSeq (cSet 6 (cComp [7] (cItS (cCall m__law_behind (cCons (cVar 0) (cCons (cVar 5) (cCons (cVar 2) (cNil)))))) (.nm 7) (cB (c2 gNe (cComp [8] (cItS (cVar 7)) (.nm 8) (cB (c2 gIn (cVar 8) (cVar 2))) (cVar 8)) (cC gLstD (cNil)))) (cVar 7))) (cIf (cOr (cNot (cTru (cVar 3))) (cB (c2 gEq (cComp [7] (cItS (cVar 6)) (.nm 7) (cB (c2 gNe (cComp [8] (cItS (cVar 7)) (.nm 8) (cB (c2 gNotIn (cVar 8) (cVar 2))) (cVar 8)) (cC gLstD (cNil)))) (cVar 7)) (cC gLstD (cNil))))) (cSetIx (c2 gAdd (c2 gIx (cVar 4) (cC gLen (cCons (cVar 6) (cNil)))) (cK (.int 1))) (cVar 4) (cC gLen (cCons (cVar 6) (cNil)))) (cSkip)))) (cRet (cVar 4)))
def m__law_counts_of : Fn := runD 4 9 b__law_counts_of
theorem sc__law_counts_of : FnScope N__law_counts_of ps__law_counts_of (defScope st__law_counts_of) := ⟨rfl, rfl, rfl, by decide +kernel, rfl, by decide +kernel, by decide +kernel⟩
abbrev st__law_choose : Stmt := top 31
abbrev ps__law_choose : List Str := ["_law_n", "_law_i"]
abbrev N__law_choose : List Str := ["_law_n", "_law_i", "_law_found", "_law_step"]
def b__law_choose : CS := cSeq (cSet 2 (cK (.int 1))) (cSeq (cFor (cItR1 (cVar 1)) (.nm 3) (cSet 2 (c2 gDiv (c2 gMul (cVar 2) (c2 gSub (cVar 0) (cVar 3))) (c2 gAdd (cVar 3) (cK (.int 1)))))) (cRet (cVar 2)))
def m__law_choose : Fn := runD 2 4 b__law_choose
theorem sc__law_choose : FnScope N__law_choose ps__law_choose (defScope st__law_choose) := ⟨rfl, rfl, rfl, by decide +kernel, rfl, by decide +kernel, by decide +kernel⟩
abbrev st__law_right : Stmt := top 35
abbrev ps__law_right : List Str := ["_law_source"]
abbrev N__law_right : List Str := ["_law_source", "_law_k", "_law_pattern_here", "_law_rows_here", "_law_is_whole", "_law_told", "_law_numbers", "_law_i", "_law_lines", "_law_left", "_law_counts", "_law_part", "_law_turn", "_law_j", "_law_many"]
def b__law_right : CS := cSeq (cSet 1 (cCall m__law_one (cCons (cVar 0) (cCons (cC gLstD (cCons (cK (.int 4)) (cCons (cK (.int 5)) (cCons (cK (.int 3)) (cCons (cK (.int 6)) (cCons (cK (.int 2)) (cCons (cK (.int 1)) (cCons (cK (.int 0)) (cNil))))))))) (cNil))))) (cSeq (cSet 2 (cIfE (cAnd (cB (c2 gGt (cVar 1) (cK (.int 1)))) (cB (c2 gGt (cCall m__law_take (cCons (cVar 0) (cCons (cK (.int 8)) (cNil)))) (cK (.int 0))))) (cCall m__law_pattern (cCons (cVar 0) (cCons (cVar 1) (cNil)))) (cC gTupD (cNil)))) (cSeq (cSet 3 (cCall m__law_rows (cCons (cLrg (cVar 1)) (cCons (cVar 2) (cNil))))) (cSeq (cFor (cItS (cC gLstD (cCons (cK (.bl false)) (cCons (cK (.bl true)) (cNil))))) (.nm 4) (cSeq (cSet 5 (cIfE (cTru (cVar 4)) (cCall m_whole (cCons (cVar 1) (cCons (cVar 2) (cNil)))) (cCallK m_touched [1, 0] (cCons (cVar 2) (cCons (cVar 1) (cNil)))))) (cSeq (cIf (cNot (cTru (cCall m__law_form_right (cCons (cVar 5) (cCons (cVar 1) (cNil)))))) (cRet (cK (.bl false))) (cSkip)) (cSeq (cSet 6 (cC gDictX (cCons (cComp [11] (cItS (cVar 5)) (.nm 11) (cYes) (cC gTupD (cCons (cC gTupD (cCons (c2 gIx (cVar 11) (cK (.int 0))) (cCons (c2 gIx (cVar 11) (cK (.int 1))) (cNil)))) (cCons (c2 gIx (cVar 11) (cK (.int 2))) (cNil))))) (cNil)))) (cFor (cItR1 (c2 gAdd (cVar 1) (cK (.int 1)))) (.nm 7) (cSeq (cAsg (.tp [.nm 8, .nm 9]) (cC gTupD (cCons (cLrg (cVar 7)) (cCons (cLrg (cVar 1)) (cNil))))) (cSeq (cIf (cB (c2 gEq (cCall m__law_take (cCons (cVar 0) (cCons (cK (.int 2)) (cNil)))) (cK (.int 0)))) (cSet 8 (cComp [12] (cItR1 (cVar 7)) (.nm 12) (cYes) (cMt isLst gPopAt (cVar 9) (cCons (cCall m__law_take (cCons (cVar 0) (cCons (cC gLen (cCons (cVar 9) (cNil))) (cNil)))) (cNil))))) (cSkip)) (cSeq (cSet 10 (cCall m__law_counts_of (cCons (cVar 1) (cCons (cVar 3) (cCons (cVar 8) (cCons (cVar 4) (cNil))))))) (cIf (cB (c2 gNe (cComp [13] (cItR1 (c2 gAdd (cVar 1) (cK (.int 1)))) (.nm 13) (cYes) (c2 gMul (cGetD (cVar 6) (cC gTupD (cCons (cVar 7) (cCons (cVar 13) (cNil)))) (cK (.int 0))) (cC gLen (cCons (cVar 3) (cNil))))) (cComp [14] (cItS (cVar 10)) (.nm 14) (cYes) (c2 gMul (cCall m__law_choose (cCons (cVar 1) (cCons (cVar 7) (cNil)))) (cVar 14))))) (cRet (cK (.bl false))) (cSkip)))))))))) (cRet (c2 gEq (cCallK m_whole [1, 0] (cCons (cVar 2) (cCons (cVar 1) (cNil)))) (cCall m_whole (cCons (cVar 1) (cCons (cVar 2) (cNil)))))))))
def m__law_right : Fn := runD 1 15 b__law_right
theorem sc__law_right : FnScope N__law_right ps__law_right (defScope st__law_right) := ⟨rfl, rfl, rfl, by decide +kernel, rfl, by decide +kernel, by decide +kernel⟩
abbrev st__law_pool : Stmt := top 25
abbrev ps__law_pool : List Str := ["_law_script", "_law_k"]
abbrev N__law_pool : List Str := ["_law_script", "_law_k", "_law_cell", "_law_big", "_law_mixed"]
def b__law_pool : CS := cSeq (cSet 2 (cK (.int 0))) (cSeq (cIf (cB (c2 gLt (cVar 1) (cC gLen (cCons (cVar 0) (cNil))))) (cSet 2 (c2 gIx (cVar 0) (cVar 1))) (cIf (cTru (cVar 0)) (cSet 2 (c2 gIx (cVar 0) (cK (.int 0)))) (cSkip))) (cSeq (cSet 3 (cC gMax (cCons (cC gInt (cCons (cVar 2) (cNil))) (cCons (cC gInt (cCons (c2 gSub (c1 gNeg (cK (.int 1))) (cVar 2)) (cNil))) (cNil))))) (cSeq (cSet 4 (c2 gMod (cC gInt (cCons (c2 gMul (c2 gAdd (c2 gAdd (c2 gAdd (c2 gMod (cC gInt (cCons (cVar 3) (cNil))) (cK (.int 2147483629))) (c2 gMul (c2 gMul (cK (.int 7919)) (cVar 1)) (cVar 1))) (c2 gMul (cK (.int 31)) (cVar 1))) (cK (.int 17))) (cK (.int 48271))) (cNil))) (cK (.int 2147483647)))) (cRet (cC gLstD (cCons (c2 gMul (cVar 3) (cC gInt (cCons (c2 gGe (cVar 3) (c2 gPow (cK (.int 10)) (cK (.int 18)))) (cNil)))) (cCons (cVar 4) (cNil))))))))
def m__law_pool : Fn := runD 2 5 b__law_pool
theorem sc__law_pool : FnScope N__law_pool ps__law_pool (defScope st__law_pool) := ⟨rfl, rfl, rfl, by decide +kernel, rfl, by decide +kernel, by decide +kernel⟩
abbrev st_law : Stmt := top 36
abbrev ps_law : List Str := ["_law_script"]
abbrev N_law : List Str := ["_law_script", "_law_k"]
def b_law : CS := cSeq (cFor (cItR1 (cC gMax (cCons (cK (.int 1)) (cCons (cC gMin (cCons (cC gLen (cCons (cVar 0) (cNil))) (cCons (cK (.int 2)) (cNil)))) (cNil))))) (.nm 1) (cIf (cNot (cTru (cCall m__law_right (cCons (cCall m__law_pool (cCons (cVar 0) (cCons (cVar 1) (cNil)))) (cNil))))) (cRet (cK (.bl false))) (cSkip))) (cRet (cK (.bl true)))
def m_law : Fn := runD 1 2 b_law
theorem sc_law : FnScope N_law ps_law (defScope st_law) := ⟨rfl, rfl, rfl, by decide +kernel, rfl, by decide +kernel, by decide +kernel⟩
structure Tx (P : Program) (K : PySem.W.Frag) (mg : Str → Option Value) : Prop where
  f__law_take : ∃ f fd, FT K mg "_law_take" "_law_take" st__law_take ps__law_take f fd
  f__law_one : ∃ f fd, FT K mg "_law_one" "_law_one" st__law_one ps__law_one f fd
  f__law_pattern : ∃ f fd, FT K mg "_law_pattern" "_law_pattern" st__law_pattern ps__law_pattern f fd
  f__law_chosen : ∃ f fd, FT K mg "_law_chosen" "_law_chosen" st__law_chosen ps__law_chosen f fd
  f__law_rows : ∃ f fd, FT K mg "_law_rows" "_law_rows" st__law_rows ps__law_rows f fd
  f_want_things : ∃ f fd, FT K mg "want_things" "want_things" st_want_things ps_want_things f fd
  f_is_number : ∃ f fd, FT K mg "is_number" "is_number" st_is_number ps_is_number f fd
  f_is_pattern : ∃ f fd, FT K mg "is_pattern" "is_pattern" st_is_pattern ps_is_pattern f fd
  f_want_pattern : ∃ f fd, FT K mg "want_pattern" "want_pattern" st_want_pattern ps_want_pattern f fd
  f_want_day : ∃ f fd, FT K mg "want_day" "want_day" st_want_day ps_want_day f fd
  f_terms : ∃ f fd, FT K mg "terms" "terms" st_terms ps_terms f fd
  f_poly_times : ∃ f fd, FT K mg "poly_times" "poly_times" st_poly_times ps_poly_times f fd
  f_product : ∃ f fd, FT K mg "product" "product" st_product ps_product f fd
  f_single : ∃ f fd, FT K mg "single" "single" st_single ps_single f fd
  f_whole_of : ∃ f fd, FT K mg "whole_of" "whole_of" st_whole_of ps_whole_of f fd
  f_whole : ∃ f fd, FT K mg "whole" "whole" st_whole ps_whole f fd
  f_touched_of : ∃ f fd, FT K mg "touched_of" "touched_of" st_touched_of ps_touched_of f fd
  f_touched : ∃ f fd, FT K mg "touched" "touched" st_touched ps_touched f fd
  f__law_form_right : ∃ f fd, FT K mg "_law_form_right" "_law_form_right" st__law_form_right ps__law_form_right f fd
  f__law_behind : ∃ f fd, FT K mg "_law_behind" "_law_behind" st__law_behind ps__law_behind f fd
  f__law_counts_of : ∃ f fd, FT K mg "_law_counts_of" "_law_counts_of" st__law_counts_of ps__law_counts_of f fd
  f__law_choose : ∃ f fd, FT K mg "_law_choose" "_law_choose" st__law_choose ps__law_choose f fd
  f__law_right : ∃ f fd, FT K mg "_law_right" "_law_right" st__law_right ps__law_right f fd
  f__law_pool : ∃ f fd, FT K mg "_law_pool" "_law_pool" st__law_pool ps__law_pool f fd
  f_law : ∃ f fd, FT K mg "law" "law" st_law ps_law f fd
  n_all : mg "all" = none
  n_bool : mg "bool" = none
  n_dict : mg "dict" = none
  n_int : mg "int" = none
  n_isinstance : mg "isinstance" = none
  n_len : mg "len" = none
  n_list : mg "list" = none
  n_max : mg "max" = none
  n_min : mg "min" = none
  n_range : mg "range" = none
  n_set : mg "set" = none
  n_sorted : mg "sorted" = none
  n_sum : mg "sum" = none
  n_tuple : mg "tuple" = none
  c_LEAST_GROUP : ∃ t, mg "LEAST_GROUP" = some (.int 2 t)
  c_MOST_THINGS : ∃ t, mg "MOST_THINGS" = some (.int 12 t)
  m_comb : mg "comb" = some (.builtin "math.comb")
  er : ∃ D fI cc, mg "Refused" = some (.ref D) ∧ BaseTxt P K mg D fI cc ∧ (∃ C, ErrTxt K mg "BadSize" C D fI) ∧ (∃ C, ErrTxt K mg "BadDay" C D fI) ∧ (∃ C, ErrTxt K mg "TooFew" C D fI)
  ef : EF K mg errs
section
variable {P : Program} {w : World} {K : PySem.W.Frag} {mg : Str → Option Value} {base : Heap}
theorem ok__law_take (T : Tx P K mg) {f : Addr} {fd : FuncData} (F : FT K mg "_law_take" "_law_take" st__law_take ps__law_take f fd) : FnOk P w K mg base (L2.CX P w) 1 f fd ps__law_take (spOf ⟨K, mg⟩ 2 m__law_take) := by
  exact fn_ok (k := 0) F.fn sc__law_take fun cdv A outer s H E hr => by
    show SSs _ _ (defBody st__law_take) (b__law_take)
    unfold b__law_take
    exact ss_cons (s_if (s_cmpT o_gt (s_ix i_ix (s_var 0) (s_int)) (s_int)) (ss_cons (s_set (i := 2) sc__law_take.nd (s_op o_mod (s_callTy k_int rfl T.n_int (by decide +kernel) (s_cons (s_ix i_ix (s_var 0) (s_int)) (s_nil))) (s_var 1))) (ss_cons (s_setIx (s_op o_div (s_ix i_ix (s_var 0) (s_int)) (s_var 1)) (s_var 0) (s_int)) (ss_one (s_ret (s_var 2))))) (ss_nil)) (ss_cons (s_setIx (s_op o_mod (s_callTy k_int rfl T.n_int (by decide +kernel) (s_cons (s_op o_add (s_op o_mul (s_ix i_ix (s_var 0) (s_int)) (s_int)) (s_int)) (s_nil))) (s_int)) (s_var 0) (s_int)) (ss_one (s_ret (s_op o_mod (s_callTy k_int rfl T.n_int (by decide +kernel) (s_cons (s_op o_div (s_op o_mod (s_callTy k_int rfl T.n_int (by decide +kernel) (s_cons (s_op o_mul (s_ix i_ix (s_var 0) (s_int)) (s_ix i_ix (s_var 0) (s_int))) (s_nil))) (s_int)) (s_int)) (s_nil))) (s_var 1)))))
theorem ok__law_one (T : Tx P K mg) {f : Addr} {fd : FuncData} (F : FT K mg "_law_one" "_law_one" st__law_one ps__law_one f fd) : FnOk P w K mg base (L2.CX P w) 2 f fd ps__law_one (spOf ⟨K, mg⟩ 2 m__law_one) := by
  obtain ⟨f__law_take, fd__law_take, F__law_take⟩ := T.f__law_take
  have G__law_take := ok__law_take (w := w) (base := base) T F__law_take
  exact fn_ok (k := 1) F.fn sc__law_one fun cdv A outer s H E hr => by
    show SSs _ _ (defBody st__law_one) (b__law_one)
    unfold b__law_one
    exact ss_one (s_ret (s_ix i_ix (s_var 1) (s_call G__law_take (Room.mono hr (by first | decide | omega)) F__law_take.g F__law_take.k F__law_take.b (takes_of rfl rfl rfl rfl) (s_cons (s_var 0) (s_cons (s_callB k_len rfl T.n_len (by decide +kernel) (s_cons (s_var 1) (s_nil))) (s_nil))) (cons_len (cons_len (fun _ _ _ _ => nil_len))))))
theorem ok__law_pattern (T : Tx P K mg) {f : Addr} {fd : FuncData} (F : FT K mg "_law_pattern" "_law_pattern" st__law_pattern ps__law_pattern f fd) : FnOk P w K mg base (L2.CX P w) 2 f fd ps__law_pattern (spOf ⟨K, mg⟩ 2 m__law_pattern) := by
  obtain ⟨f__law_take, fd__law_take, F__law_take⟩ := T.f__law_take
  have G__law_take := ok__law_take (w := w) (base := base) T F__law_take
  exact fn_ok (k := 1) F.fn sc__law_pattern fun cdv A outer s H E hr => by
    show SSs _ _ (defBody st__law_pattern) (b__law_pattern)
    unfold b__law_pattern
    exact ss_cons (s_par (i := 2) (j := 3) rfl sc__law_pattern.nd (s_lst (s_nil)) (s_var 1)) (ss_cons (s_while 1000 (passes_of rfl) (s_pw (s_and (s_cmpT o_ge (s_var 3) (s_int)) (s_and1 (s_pw (s_or (s_cmpT (o_eq (by have z := Room.u64 hr; exact z)) (s_var 2) (s_lst (s_nil))) (s_or1 (s_cmpT (o_eq (by have z := Room.u64 hr; exact z)) (s_call G__law_take (Room.mono hr (by first | decide | omega)) F__law_take.g F__law_take.k F__law_take.b (takes_of rfl rfl rfl rfl) (s_cons (s_var 0) (s_cons (s_int) (s_nil))) (cons_len (cons_len (fun _ _ _ _ => nil_len)))) (s_int)))))))) (ss_cons (s_set (i := 4) sc__law_pattern.nd (s_ifE (s_cmpT (o_ne (by have z := Room.u64 hr; exact z)) (s_var 2) (s_lst (s_nil))) (s_callB (k_min rfl) rfl T.n_min (by decide +kernel) (s_cons (s_var 3) (s_cons (s_ix i_ix (s_var 2) (s_un o_neg (s_int))) (s_nil)))) (s_var 3))) (ss_cons (s_drop (s_mtL PySem.F.slot_list_append md_append m_append (s_var 2) (s_cons (s_ifE (s_cmpT (o_eq (by have z := Room.u64 hr; exact z)) (s_call G__law_take (Room.mono hr (by first | decide | omega)) F__law_take.g F__law_take.k F__law_take.b (takes_of rfl rfl rfl rfl) (s_cons (s_var 0) (s_cons (s_int) (s_nil))) (cons_len (cons_len (fun _ _ _ _ => nil_len)))) (s_int)) (s_int) (s_op o_add (s_int) (s_call G__law_take (Room.mono hr (by first | decide | omega)) F__law_take.g F__law_take.k F__law_take.b (takes_of rfl rfl rfl rfl) (s_cons (s_var 0) (s_cons (s_op o_sub (s_var 4) (s_int)) (s_nil))) (cons_len (cons_len (fun _ _ _ _ => nil_len)))))) (s_nil)))) (ss_one (s_set (i := 3) sc__law_pattern.nd (s_op o_sub (s_var 3) (s_ix i_ix (s_var 2) (s_un o_neg (s_int))))))))) (ss_one (s_ret (s_callTy k_tuple rfl T.n_tuple (by decide +kernel) (s_cons (s_var 2) (s_nil))))))
theorem ok__law_chosen_n (T : Tx P K mg) {f : Addr} {fd : FuncData} (F : FT K mg "_law_chosen" "_law_chosen" st__law_chosen ps__law_chosen f fd) : ∀ n : Nat, FnOk P w K mg base (L2.CX P w) (1 + n) f fd ps__law_chosen (spOf ⟨K, mg⟩ 2 (m__law_chosen n)) := by
  intro n
  induction n with
  | zero => exact fn_stuck (ps := ps__law_chosen)
  | succ n G__law_chosen =>
  have F__law_chosen := F
  exact fn_ok (k := 1 + n) F.fn sc__law_chosen fun cdv A outer s H E hr => by
    show SSs _ _ (defBody st__law_chosen) (b__law_chosen (m__law_chosen n))
    unfold b__law_chosen
    exact ss_cons (s_if (s_cmpT (o_eq (by have z := Room.u64 hr; exact z)) (s_var 1) (s_int)) (ss_one (s_ret (s_lst (s_cons (s_tup (s_nil)) (s_nil))))) (ss_nil)) (ss_cons (s_set (i := 2) sc__law_chosen.nd (s_lst (s_nil))) (ss_cons (s_for (tp := false) (passes_of rfl) rfl (it_range1 T.n_range (s_op o_add (s_op o_sub (s_callB k_len rfl T.n_len (by decide +kernel) (s_cons (s_var 0) (s_nil))) (s_var 1)) (s_int))) (g_nm sc__law_chosen.nd) (ss_one (s_drop (s_mtL PySem.F.slot_list_extend md_extend m_ext (s_var 2) (s_cons (s_comp (own := [("_law_more", 4)]) rfl sc__law_chosen.nd (it_seq (s_call G__law_chosen (Room.mono hr (by first | decide | omega)) F__law_chosen.g F__law_chosen.k F__law_chosen.b (takes_of rfl rfl rfl rfl) (s_cons (s_cut (s_var 0) (s_ps (s_op o_add (s_var 3) (s_int))) s_pn) (s_cons (s_op o_sub (s_var 1) (s_int)) (s_nil))) (cons_len (cons_len (fun _ _ _ _ => nil_len))))) (by first | (show blkC N__law_chosen (defScope st__law_chosen) _ _ = true; decide +kernel) | rfl) (fun _ _ _ _ _ => g_nm sc__law_chosen.nd) (fun _ _ _ _ _ => ts_nil) (fun _ _ _ _ _ => s_op o_add (s_tup (s_cons (s_ix i_ix (s_var 0) (s_var 3)) (s_nil))) (s_var 4))) (s_nil)))))) (ss_one (s_ret (s_var 2)))))
theorem ok__law_chosen (T : Tx P K mg) {f : Addr} {fd : FuncData} (F : FT K mg "_law_chosen" "_law_chosen" st__law_chosen ps__law_chosen f fd) : FnOk P w K mg base (L2.CX P w) 41 f fd ps__law_chosen (spOf ⟨K, mg⟩ 2 (m__law_chosen 40)) := FnOk.mono (ok__law_chosen_n T F 40) (by decide)
theorem ok__law_rows (T : Tx P K mg) {f : Addr} {fd : FuncData} (F : FT K mg "_law_rows" "_law_rows" st__law_rows ps__law_rows f fd) : FnOk P w K mg base (L2.CX P w) 42 f fd ps__law_rows (spOf ⟨K, mg⟩ 2 m__law_rows) := by
  obtain ⟨f__law_chosen, fd__law_chosen, F__law_chosen⟩ := T.f__law_chosen
  have G__law_chosen := ok__law_chosen (w := w) (base := base) T F__law_chosen
  exact fn_ok (k := 41) F.fn sc__law_rows fun cdv A outer s H E hr => by
    show SSs _ _ (defBody st__law_rows) (b__law_rows)
    unfold b__law_rows
    exact ss_cons (s_set (i := 2) sc__law_rows.nd (s_disp (by have z := Room.u64 hr; exact z) (sp_cons (s_tup (s_cons (s_tup (s_nil)) (s_cons (s_callTy k_tuple rfl T.n_tuple (by decide +kernel) (s_cons (s_var 0) (s_nil))) (s_nil)))) (s_bl) (sp_nil)))) (ss_cons (s_for (tp := false) (passes_of rfl) rfl (it_seq (s_var 1)) (g_nm sc__law_rows.nd) (ss_cons (s_set (i := 4) sc__law_rows.nd (s_dic0)) (ss_cons (s_for (tp := false) (passes_of rfl) rfl (it_x (s_var 2)) (g_tp rfl (gs_cons (g_nm sc__law_rows.nd) (gs_cons (g_nm sc__law_rows.nd) (gs_nil)))) (ss_one (s_for (tp := false) (passes_of rfl) rfl (it_seq (s_call G__law_chosen (Room.mono hr (by first | decide | omega)) F__law_chosen.g F__law_chosen.k F__law_chosen.b (takes_of rfl rfl rfl rfl) (s_cons (s_var 6) (s_cons (s_var 3) (s_nil))) (cons_len (cons_len (fun _ _ _ _ => nil_len))))) (g_nm sc__law_rows.nd) (ss_one (s_setX (by have z := Room.u64 hr; exact z) (s_bl) (s_var 4) (s_tup (s_cons (s_callTy k_tuple rfl T.n_tuple (by decide +kernel) (s_cons (s_callB (k_srt (by have z := Room.u64 hr; exact z) rfl) rfl T.n_sorted (by decide +kernel) (s_cons (s_op o_add (s_var 5) (s_tup (s_cons (s_var 7) (s_nil)))) (s_nil))) (s_nil))) (s_cons (s_callTy k_tuple rfl T.n_tuple (by decide +kernel) (s_cons (s_comp (own := [("_law_name", 9)]) rfl sc__law_rows.nd (it_seq (s_var 6)) (by first | (show blkC N__law_rows (defScope st__law_rows) _ _ = true; decide +kernel) | rfl) (fun _ _ _ _ _ => g_nm sc__law_rows.nd) (fun _ _ _ _ _ => ts_one (s_cmpT (o_notIn (by have z := Room.u65 hr; exact z)) (s_var 9) (s_var 7))) (fun _ _ _ _ _ => s_var 9)) (s_nil))) (s_nil))))))))) (ss_one (s_set (i := 2) sc__law_rows.nd (s_var 4)))))) (ss_cons (s_set (i := 8) sc__law_rows.nd (s_dic0)) (ss_cons (s_for (tp := false) (passes_of rfl) rfl (it_x (s_var 2)) (g_tp rfl (gs_cons (g_nm sc__law_rows.nd) (gs_cons (g_nm sc__law_rows.nd) (gs_nil)))) (ss_one (s_setX (by have z := Room.u64 hr; exact z) (s_bl) (s_var 8) (s_var 5)))) (ss_one (s_ret (s_callB (k_srtX (by have z := Room.u64 hr; exact z) rfl) rfl T.n_sorted (by decide +kernel) (s_cons (s_var 8) (s_nil))))))))
theorem ok_want_things (T : Tx P K mg) {f : Addr} {fd : FuncData} (F : FT K mg "want_things" "want_things" st_want_things ps_want_things f fd) : FnOk P w K mg base (L2.CX P w) 1 f fd ps_want_things (spOf ⟨K, mg⟩ 1 m_want_things) := by
  obtain ⟨t_MOST_THINGS, c_MOST_THINGS⟩ := T.c_MOST_THINGS
  obtain ⟨D_, fI_, cc_, ER, EB, ⟨C_BadSize, E_BadSize⟩, ⟨C_BadDay, E_BadDay⟩, ⟨C_TooFew, E_TooFew⟩⟩ := T.er
  exact fn_ok (k := 0) F.fn sc_want_things fun cdv A outer s H E hr => by
    show SSs _ _ (defBody st_want_things) (b_want_things)
    unfold b_want_things
    exact ss_one (s_if (s_not (s_chainT o_le o_le (s_int) (s_var 0) (s_glob (v := .int 12) (d := .int 12) rfl c_MOST_THINGS ⟨_, rfl⟩ (fun _ _ => by simp only [RD])))) (ss_one (s_raise rfl EB E_BadSize (Room.mono hr (by first | decide | omega : 0 ≤ _)) (takes_of rfl rfl rfl rfl) (s_var 0))) (ss_nil))
theorem ok_is_number (T : Tx P K mg) {f : Addr} {fd : FuncData} (F : FT K mg "is_number" "is_number" st_is_number ps_is_number f fd) : FnOk P w K mg base (L2.CX P w) 1 f fd ps_is_number (spOf ⟨K, mg⟩ 1 m_is_number) := by
  exact fn_ok (k := 0) F.fn sc_is_number fun cdv A outer s H E hr => by
    show SSs _ _ (defBody st_is_number) (b_is_number)
    unfold b_is_number
    exact ss_one (s_ret (s_andV (s_callB k_isi rfl T.n_isinstance (by decide +kernel) (s_cons (s_var 0) (s_cons (s_ty T.n_int rfl (by decide +kernel)) (s_nil)))) (s_oneV (s_notV (s_callB k_isi rfl T.n_isinstance (by decide +kernel) (s_cons (s_var 0) (s_cons (s_ty T.n_bool rfl (by decide +kernel)) (s_nil))))))))
theorem ok_is_pattern (T : Tx P K mg) {f : Addr} {fd : FuncData} (F : FT K mg "is_pattern" "is_pattern" st_is_pattern ps_is_pattern f fd) : FnOk P w K mg base (L2.CX P w) 2 f fd ps_is_pattern (spOf ⟨K, mg⟩ 1 m_is_pattern) := by
  obtain ⟨f_is_number, fd_is_number, F_is_number⟩ := T.f_is_number
  have G_is_number := ok_is_number (w := w) (base := base) T F_is_number
  obtain ⟨t_LEAST_GROUP, c_LEAST_GROUP⟩ := T.c_LEAST_GROUP
  exact fn_ok (k := 1) F.fn sc_is_pattern fun cdv A outer s H E hr => by
    show SSs _ _ (defBody st_is_pattern) (b_is_pattern)
    unfold b_is_pattern
    exact ss_cons (s_if (s_pw (s_or (s_not (s_truth (s_callB k_isi rfl T.n_isinstance (by decide +kernel) (s_cons (s_var 0) (s_cons (s_ty T.n_tuple rfl (by decide +kernel)) (s_nil)))))) (s_or1 (s_not (s_truth (s_callB (k_all rfl) rfl T.n_all (by decide +kernel) (s_cons (s_comp (own := [("size", 2)]) rfl sc_is_pattern.nd (it_seq (s_var 0)) (by first | (show blkC N_is_pattern (defScope st_is_pattern) _ _ = true; decide +kernel) | rfl) (fun _ _ _ _ _ => g_nm sc_is_pattern.nd) (fun _ _ _ _ _ => ts_nil) (fun _ _ _ _ _ => s_andV (s_call G_is_number (Room.mono hr (by first | decide | omega)) F_is_number.g F_is_number.k F_is_number.b takes0 (s_cons (s_var 2) (s_nil)) (cons_len (fun _ _ _ _ => nil_len))) (s_oneV (s_cmp o_ge (s_var 2) (s_glob (v := .int 2) (d := .int 2) rfl c_LEAST_GROUP ⟨_, rfl⟩ (fun _ _ => by simp only [RD])))))) (s_nil)))))))) (ss_one (s_ret (s_bl))) (ss_nil)) (ss_one (s_ret (s_callB (k_all rfl) rfl T.n_all (by decide +kernel) (s_cons (s_comp (own := [("at", 1)]) rfl sc_is_pattern.nd (it_range2 T.n_range (s_int) (s_callB k_len rfl T.n_len (by decide +kernel) (s_cons (s_var 0) (s_nil)))) (by first | (show blkC N_is_pattern (defScope st_is_pattern) _ _ = true; decide +kernel) | rfl) (fun _ _ _ _ _ => g_nm sc_is_pattern.nd) (fun _ _ _ _ _ => ts_nil) (fun _ _ _ _ _ => s_cmp o_ge (s_ix i_ix (s_var 0) (s_op o_sub (s_var 1) (s_int))) (s_ix i_ix (s_var 0) (s_var 1)))) (s_nil)))))
theorem ok_want_pattern (T : Tx P K mg) {f : Addr} {fd : FuncData} (F : FT K mg "want_pattern" "want_pattern" st_want_pattern ps_want_pattern f fd) : FnOk P w K mg base (L2.CX P w) 3 f fd ps_want_pattern (spOf ⟨K, mg⟩ 1 m_want_pattern) := by
  obtain ⟨f_is_pattern, fd_is_pattern, F_is_pattern⟩ := T.f_is_pattern
  have G_is_pattern := ok_is_pattern (w := w) (base := base) T F_is_pattern
  obtain ⟨D_, fI_, cc_, ER, EB, ⟨C_BadSize, E_BadSize⟩, ⟨C_BadDay, E_BadDay⟩, ⟨C_TooFew, E_TooFew⟩⟩ := T.er
  exact fn_ok (k := 2) F.fn sc_want_pattern fun cdv A outer s H E hr => by
    show SSs _ _ (defBody st_want_pattern) (b_want_pattern)
    unfold b_want_pattern
    exact ss_one (s_if (s_not (s_truth (s_call G_is_pattern (Room.mono hr (by first | decide | omega)) F_is_pattern.g F_is_pattern.k F_is_pattern.b (takes_of rfl rfl rfl rfl) (s_cons (s_var 0) (s_nil)) (cons_len (fun _ _ _ _ => nil_len))))) (ss_one (s_raise rfl EB E_BadDay (Room.mono hr (by first | decide | omega : 0 ≤ _)) (takes_of rfl rfl rfl rfl) (s_int))) (ss_nil))
theorem ok_want_day (T : Tx P K mg) {f : Addr} {fd : FuncData} (F : FT K mg "want_day" "want_day" st_want_day ps_want_day f fd) : FnOk P w K mg base (L2.CX P w) 4 f fd ps_want_day (spOf ⟨K, mg⟩ 2 m_want_day) := by
  obtain ⟨f_want_things, fd_want_things, F_want_things⟩ := T.f_want_things
  have G_want_things := ok_want_things (w := w) (base := base) T F_want_things
  obtain ⟨f_want_pattern, fd_want_pattern, F_want_pattern⟩ := T.f_want_pattern
  have G_want_pattern := ok_want_pattern (w := w) (base := base) T F_want_pattern
  obtain ⟨D_, fI_, cc_, ER, EB, ⟨C_BadSize, E_BadSize⟩, ⟨C_BadDay, E_BadDay⟩, ⟨C_TooFew, E_TooFew⟩⟩ := T.er
  exact fn_ok (k := 3) F.fn sc_want_day fun cdv A outer s H E hr => by
    show SSs _ _ (defBody st_want_day) (b_want_day)
    unfold b_want_day
    exact ss_cons (s_drop (s_call G_want_things (Room.mono hr (by first | decide | omega)) F_want_things.g F_want_things.k F_want_things.b (takes_of rfl rfl rfl rfl) (s_cons (s_var 0) (s_nil)) (cons_len (fun _ _ _ _ => nil_len)))) (ss_cons (s_drop (s_call G_want_pattern (Room.mono hr (by first | decide | omega)) F_want_pattern.g F_want_pattern.k F_want_pattern.b (takes_of rfl rfl rfl rfl) (s_cons (s_var 1) (s_nil)) (cons_len (fun _ _ _ _ => nil_len)))) (ss_one (s_if (s_cmpT o_gt (s_callB (k_sum rfl) rfl T.n_sum (by decide +kernel) (s_cons (s_var 1) (s_nil))) (s_var 0)) (ss_one (s_raise rfl EB E_TooFew (Room.mono hr (by first | decide | omega : 0 ≤ _)) (takes_of rfl rfl rfl rfl) (s_var 0))) (ss_nil))))
theorem ok_terms (T : Tx P K mg) {f : Addr} {fd : FuncData} (F : FT K mg "terms" "terms" st_terms ps_terms f fd) : FnOk P w K mg base (L2.CX P w) 1 f fd ps_terms (spOf ⟨K, mg⟩ 1 m_terms) := by
  exact fn_ok (k := 0) F.fn sc_terms fun cdv A outer s H E hr => by
    show SSs _ _ (defBody st_terms) (b_terms)
    unfold b_terms
    exact ss_one (s_ret (s_callTy k_tuple rfl T.n_tuple (by decide +kernel) (s_cons (s_comp (own := [("i", 1), ("j", 2)]) rfl sc_terms.nd (it_seq (s_callB (k_srtX (by have z := Room.u64 hr; exact z) rfl) rfl T.n_sorted (by decide +kernel) (s_cons (s_var 0) (s_nil)))) (by first | (show blkC N_terms (defScope st_terms) _ _ = true; decide +kernel) | rfl) (fun _ _ _ _ _ => g_tp rfl (gs_cons (g_nm sc_terms.nd) (gs_cons (g_nm sc_terms.nd) (gs_nil)))) (fun _ _ _ _ _ => ts_one (s_cmpT (o_ne (by have z := Room.u64 hr; exact z)) (s_xget (by have z := Room.u64 hr; exact z) (s_var 0) (s_tup (s_cons (s_var 1) (s_cons (s_var 2) (s_nil))))) (s_int))) (fun _ _ _ _ _ => s_tup (s_cons (s_var 1) (s_cons (s_var 2) (s_cons (s_xget (by have z := Room.u64 hr; exact z) (s_var 0) (s_tup (s_cons (s_var 1) (s_cons (s_var 2) (s_nil))))) (s_nil)))))) (s_nil))))
theorem ok_poly_times (T : Tx P K mg) {f : Addr} {fd : FuncData} (F : FT K mg "poly_times" "poly_times" st_poly_times ps_poly_times f fd) : FnOk P w K mg base (L2.CX P w) 2 f fd ps_poly_times (spOf ⟨K, mg⟩ 2 m_poly_times) := by
  obtain ⟨f_terms, fd_terms, F_terms⟩ := T.f_terms
  have G_terms := ok_terms (w := w) (base := base) T F_terms
  exact fn_ok (k := 1) F.fn sc_poly_times fun cdv A outer s H E hr => by
    show SSs _ _ (defBody st_poly_times) (b_poly_times)
    unfold b_poly_times
    exact ss_cons (s_set (i := 2) sc_poly_times.nd (s_dic0)) (ss_cons (s_for (tp := false) (passes_of rfl) rfl (it_seq (s_var 0)) (g_tp rfl (gs_cons (g_nm sc_poly_times.nd) (gs_cons (g_nm sc_poly_times.nd) (gs_cons (g_nm sc_poly_times.nd) (gs_nil))))) (ss_one (s_for (tp := false) (passes_of rfl) rfl (it_seq (s_var 1)) (g_tp rfl (gs_cons (g_nm sc_poly_times.nd) (gs_cons (g_nm sc_poly_times.nd) (gs_cons (g_nm sc_poly_times.nd) (gs_nil))))) (ss_one (s_setX (by have z := Room.u64 hr; exact z) (s_op o_add (s_getD (by have z := Room.u64 hr; exact z) (s_var 2) (s_tup (s_cons (s_op o_add (s_var 3) (s_var 6)) (s_cons (s_op o_add (s_var 4) (s_var 7)) (s_nil)))) (s_int)) (s_op o_mul (s_var 5) (s_var 8))) (s_var 2) (s_tup (s_cons (s_op o_add (s_var 3) (s_var 6)) (s_cons (s_op o_add (s_var 4) (s_var 7)) (s_nil))))))))) (ss_one (s_ret (s_call G_terms (Room.mono hr (by first | decide | omega)) F_terms.g F_terms.k F_terms.b (takes_of rfl rfl rfl rfl) (s_cons (s_var 2) (s_nil)) (cons_len (fun _ _ _ _ => nil_len))))))
theorem ok_product (T : Tx P K mg) {f : Addr} {fd : FuncData} (F : FT K mg "product" "product" st_product ps_product f fd) : FnOk P w K mg base (L2.CX P w) 3 f fd ps_product (spOf ⟨K, mg⟩ 1 m_product) := by
  obtain ⟨f_poly_times, fd_poly_times, F_poly_times⟩ := T.f_poly_times
  have G_poly_times := ok_poly_times (w := w) (base := base) T F_poly_times
  exact fn_ok (k := 2) F.fn sc_product fun cdv A outer s H E hr => by
    show SSs _ _ (defBody st_product) (b_product)
    unfold b_product
    exact ss_cons (s_set (i := 1) sc_product.nd (s_tup (s_cons (s_tup (s_cons (s_int) (s_cons (s_int) (s_cons (s_int) (s_nil))))) (s_nil)))) (ss_cons (s_for (tp := false) (passes_of rfl) rfl (it_seq (s_var 0)) (g_nm sc_product.nd) (ss_one (s_set (i := 1) sc_product.nd (s_call G_poly_times (Room.mono hr (by first | decide | omega)) F_poly_times.g F_poly_times.k F_poly_times.b (takes_of rfl rfl rfl rfl) (s_cons (s_var 1) (s_cons (s_var 2) (s_nil))) (cons_len (cons_len (fun _ _ _ _ => nil_len))))))) (ss_one (s_ret (s_var 1))))
theorem ok_single (T : Tx P K mg) {f : Addr} {fd : FuncData} (F : FT K mg "single" "single" st_single ps_single f fd) : FnOk P w K mg base (L2.CX P w) 1 f fd ps_single (spOf ⟨K, mg⟩ 1 m_single) := by
  exact fn_ok (k := 0) F.fn sc_single fun cdv A outer s H E hr => by
    show SSs _ _ (defBody st_single) (b_single)
    unfold b_single
    exact ss_one (s_ret (s_callTy k_tuple rfl T.n_tuple (by decide +kernel) (s_cons (s_comp (own := [("i", 1)]) rfl sc_single.nd (it_range1 T.n_range (s_op o_add (s_var 0) (s_int))) (by first | (show blkC N_single (defScope st_single) _ _ = true; decide +kernel) | rfl) (fun _ _ _ _ _ => g_nm sc_single.nd) (fun _ _ _ _ _ => ts_nil) (fun _ _ _ _ _ => s_tup (s_cons (s_var 1) (s_cons (s_var 1) (s_cons (s_callM k_comb T.m_comb (s_cons (s_var 0) (s_cons (s_var 1) (s_nil)))) (s_nil)))))) (s_nil))))
theorem ok_whole_of (T : Tx P K mg) {f : Addr} {fd : FuncData} (F : FT K mg "whole_of" "whole_of" st_whole_of ps_whole_of f fd) : FnOk P w K mg base (L2.CX P w) 4 f fd ps_whole_of (spOf ⟨K, mg⟩ 2 m_whole_of) := by
  obtain ⟨f_product, fd_product, F_product⟩ := T.f_product
  have G_product := ok_product (w := w) (base := base) T F_product
  obtain ⟨f_single, fd_single, F_single⟩ := T.f_single
  have G_single := ok_single (w := w) (base := base) T F_single
  exact fn_ok (k := 3) F.fn sc_whole_of fun cdv A outer s H E hr => by
    show SSs _ _ (defBody st_whole_of) (b_whole_of)
    unfold b_whole_of
    exact ss_one (s_ret (s_call G_product (Room.mono hr (by first | decide | omega)) F_product.g F_product.k F_product.b (takes_of rfl rfl rfl rfl) (s_cons (s_op o_add (s_comp (own := [("size", 2)]) rfl sc_whole_of.nd (it_seq (s_var 1)) (by first | (show blkC N_whole_of (defScope st_whole_of) _ _ = true; decide +kernel) | rfl) (fun _ _ _ _ _ => g_nm sc_whole_of.nd) (fun _ _ _ _ _ => ts_nil) (fun _ _ _ _ _ => s_tup (s_cons (s_tup (s_cons (s_int) (s_cons (s_int) (s_cons (s_int) (s_nil))))) (s_cons (s_tup (s_cons (s_var 2) (s_cons (s_int) (s_cons (s_int) (s_nil))))) (s_nil))))) (s_lst (s_cons (s_call G_single (Room.mono hr (by first | decide | omega)) F_single.g F_single.k F_single.b (takes_of rfl rfl rfl rfl) (s_cons (s_op o_sub (s_var 0) (s_callB (k_sum rfl) rfl T.n_sum (by decide +kernel) (s_cons (s_var 1) (s_nil)))) (s_nil)) (cons_len (fun _ _ _ _ => nil_len))) (s_nil)))) (s_nil)) (cons_len (fun _ _ _ _ => nil_len))))
theorem ok_whole (T : Tx P K mg) {f : Addr} {fd : FuncData} (F : FT K mg "whole" "whole" st_whole ps_whole f fd) : FnOk P w K mg base (L2.CX P w) 5 f fd ps_whole (spOf ⟨K, mg⟩ 2 m_whole) := by
  obtain ⟨f_want_day, fd_want_day, F_want_day⟩ := T.f_want_day
  have G_want_day := ok_want_day (w := w) (base := base) T F_want_day
  obtain ⟨f_whole_of, fd_whole_of, F_whole_of⟩ := T.f_whole_of
  have G_whole_of := ok_whole_of (w := w) (base := base) T F_whole_of
  exact fn_ok (k := 4) F.fn sc_whole fun cdv A outer s H E hr => by
    show SSs _ _ (defBody st_whole) (b_whole)
    unfold b_whole
    exact ss_cons (s_drop (s_call G_want_day (Room.mono hr (by first | decide | omega)) F_want_day.g F_want_day.k F_want_day.b (takes_of rfl rfl rfl rfl) (s_cons (s_var 0) (s_cons (s_var 1) (s_nil))) (cons_len (cons_len (fun _ _ _ _ => nil_len))))) (ss_one (s_ret (s_call G_whole_of (Room.mono hr (by first | decide | omega)) F_whole_of.g F_whole_of.k F_whole_of.b (takes_of rfl rfl rfl rfl) (s_cons (s_var 0) (s_cons (s_var 1) (s_nil))) (cons_len (cons_len (fun _ _ _ _ => nil_len))))))
theorem ok_touched_of (T : Tx P K mg) {f : Addr} {fd : FuncData} (F : FT K mg "touched_of" "touched_of" st_touched_of ps_touched_of f fd) : FnOk P w K mg base (L2.CX P w) 4 f fd ps_touched_of (spOf ⟨K, mg⟩ 2 m_touched_of) := by
  obtain ⟨f_product, fd_product, F_product⟩ := T.f_product
  have G_product := ok_product (w := w) (base := base) T F_product
  obtain ⟨f_single, fd_single, F_single⟩ := T.f_single
  have G_single := ok_single (w := w) (base := base) T F_single
  exact fn_ok (k := 3) F.fn sc_touched_of fun cdv A outer s H E hr => by
    show SSs _ _ (defBody st_touched_of) (b_touched_of)
    unfold b_touched_of
    exact ss_cons (s_setComp (i := 2) (own := [("size", 3)]) rfl sc_touched_of.nd (it_seq (s_var 1)) (by first | (show blkC N_touched_of (defScope st_touched_of) _ _ = true; decide +kernel) | rfl) (fun _ _ _ _ _ => g_nm sc_touched_of.nd) (fun _ _ _ _ _ => ts_nil) (fun _ _ _ _ _ => s_op o_add (s_tup (s_cons (s_tup (s_cons (s_int) (s_cons (s_int) (s_cons (s_int) (s_nil))))) (s_nil))) (s_callTy k_tuple rfl T.n_tuple (by decide +kernel) (s_cons (s_comp (own := [("i", 4)]) rfl sc_touched_of.nd (it_range2 T.n_range (s_int) (s_op o_add (s_var 3) (s_int))) (by first | (show blkC N_touched_of (defScope st_touched_of) _ _ = true; decide +kernel) | rfl) (fun _ _ _ _ _ => g_nm sc_touched_of.nd) (fun _ _ _ _ _ => ts_nil) (fun _ _ _ _ _ => s_tup (s_cons (s_var 4) (s_cons (s_int) (s_cons (s_callM k_comb T.m_comb (s_cons (s_var 3) (s_cons (s_var 4) (s_nil)))) (s_nil)))))) (s_nil)))) rfl) (ss_one (s_ret (s_call G_product (Room.mono hr (by first | decide | omega)) F_product.g F_product.k F_product.b (takes_of rfl rfl rfl rfl) (s_cons (s_op o_add (s_var 2) (s_lst (s_cons (s_call G_single (Room.mono hr (by first | decide | omega)) F_single.g F_single.k F_single.b (takes_of rfl rfl rfl rfl) (s_cons (s_op o_sub (s_var 0) (s_callB (k_sum rfl) rfl T.n_sum (by decide +kernel) (s_cons (s_var 1) (s_nil)))) (s_nil)) (cons_len (fun _ _ _ _ => nil_len))) (s_nil)))) (s_nil)) (cons_len (fun _ _ _ _ => nil_len)))))
theorem ok_touched (T : Tx P K mg) {f : Addr} {fd : FuncData} (F : FT K mg "touched" "touched" st_touched ps_touched f fd) : FnOk P w K mg base (L2.CX P w) 5 f fd ps_touched (spOf ⟨K, mg⟩ 2 m_touched) := by
  obtain ⟨f_want_day, fd_want_day, F_want_day⟩ := T.f_want_day
  have G_want_day := ok_want_day (w := w) (base := base) T F_want_day
  obtain ⟨f_touched_of, fd_touched_of, F_touched_of⟩ := T.f_touched_of
  have G_touched_of := ok_touched_of (w := w) (base := base) T F_touched_of
  exact fn_ok (k := 4) F.fn sc_touched fun cdv A outer s H E hr => by
    show SSs _ _ (defBody st_touched) (b_touched)
    unfold b_touched
    exact ss_cons (s_drop (s_call G_want_day (Room.mono hr (by first | decide | omega)) F_want_day.g F_want_day.k F_want_day.b (takes_of rfl rfl rfl rfl) (s_cons (s_var 0) (s_cons (s_var 1) (s_nil))) (cons_len (cons_len (fun _ _ _ _ => nil_len))))) (ss_one (s_ret (s_call G_touched_of (Room.mono hr (by first | decide | omega)) F_touched_of.g F_touched_of.k F_touched_of.b (takes_of rfl rfl rfl rfl) (s_cons (s_var 0) (s_cons (s_var 1) (s_nil))) (cons_len (cons_len (fun _ _ _ _ => nil_len))))))
theorem ok__law_form_right (T : Tx P K mg) {f : Addr} {fd : FuncData} (F : FT K mg "_law_form_right" "_law_form_right" st__law_form_right ps__law_form_right f fd) : FnOk P w K mg base (L2.CX P w) 1 f fd ps__law_form_right (spOf ⟨K, mg⟩ 2 m__law_form_right) := by
  exact fn_ok (k := 0) F.fn sc__law_form_right fun cdv A outer s H E hr => by
    show SSs _ _ (defBody st__law_form_right) (b__law_form_right)
    unfold b__law_form_right
    exact ss_cons (s_if (s_pw (s_or (s_not (s_truth (s_callB k_isi rfl T.n_isinstance (by decide +kernel) (s_cons (s_var 0) (s_cons (s_ty T.n_tuple rfl (by decide +kernel)) (s_nil)))))) (s_or1 (s_cmpT (o_ne (by have z := Room.u64 hr; exact z)) (s_comp (own := [("_law_part", 3)]) rfl sc__law_form_right.nd (it_seq (s_var 0)) (by first | (show blkC N__law_form_right (defScope st__law_form_right) _ _ = true; decide +kernel) | rfl) (fun _ _ _ _ _ => g_nm sc__law_form_right.nd) (fun _ _ _ _ _ => ts_one (s_pw (s_or (s_cmpT (o_ne (by have z := Room.u64 hr; exact z)) (s_callB k_len rfl T.n_len (by decide +kernel) (s_cons (s_var 3) (s_nil))) (s_int)) (s_or1 (s_cmpT (o_eq (by have z := Room.u64 hr; exact z)) (s_ix i_ix (s_var 3) (s_int)) (s_int)))))) (fun _ _ _ _ _ => s_var 3)) (s_lst (s_nil)))))) (ss_one (s_ret (s_bl))) (ss_nil)) (ss_cons (s_setComp (i := 2) (own := [("_law_part", 3)]) rfl sc__law_form_right.nd (it_seq (s_var 0)) (by first | (show blkC N__law_form_right (defScope st__law_form_right) _ _ = true; decide +kernel) | rfl) (fun _ _ _ _ _ => g_nm sc__law_form_right.nd) (fun _ _ _ _ _ => ts_nil) (fun _ _ _ _ _ => s_cut (s_var 3) s_pn (s_ps (s_int))) rfl) (ss_one (s_ret (s_andV (s_cmp (o_eq (by have z := Room.u64 hr; exact z)) (s_var 2) (s_ssetP (by have z := Room.u64 hr; exact z) rfl rfl T.n_sorted (by decide +kernel) rfl T.n_set (by decide +kernel) (s_var 2))) (s_oneV (s_cmp (o_eq (by have z := Room.u64 hr; exact z)) (s_comp (own := [("_law_place", 4)]) rfl sc__law_form_right.nd (it_seq (s_var 2)) (by first | (show blkC N__law_form_right (defScope st__law_form_right) _ _ = true; decide +kernel) | rfl) (fun _ _ _ _ _ => g_nm sc__law_form_right.nd) (fun _ _ _ _ _ => ts_one (s_not (s_chain3T o_le o_le o_le (s_int) (s_ix i_ix (s_var 4) (s_int)) (s_ix i_ix (s_var 4) (s_int)) (s_var 1)))) (fun _ _ _ _ _ => s_var 4)) (s_lst (s_nil))))))))
theorem ok__law_behind (T : Tx P K mg) {f : Addr} {fd : FuncData} (F : FT K mg "_law_behind" "_law_behind" st__law_behind ps__law_behind f fd) : FnOk P w K mg base (L2.CX P w) 1 f fd ps__law_behind (spOf ⟨K, mg⟩ 3 m__law_behind) := by
  exact fn_ok (k := 0) F.fn sc__law_behind fun cdv A outer s H E hr => by
    show SSs _ _ (defBody st__law_behind) (b__law_behind)
    unfold b__law_behind
    exact ss_cons (s_asg (s_tup (s_cons (s_callTy k_list rfl T.n_list (by decide +kernel) (s_cons (s_var 1) (s_nil))) (s_cons (s_lst (s_nil)) (s_nil)))) (g_tp rfl (gs_cons (g_nm sc__law_behind.nd) (gs_cons (g_nm sc__law_behind.nd) (gs_nil))))) (ss_cons (s_for (tp := false) (passes_of rfl) rfl (it_seq (s_var 1)) (g_nm sc__law_behind.nd) (ss_one (s_set (i := 4) sc__law_behind.nd (s_op o_add (s_var 4) (s_callTy k_list rfl T.n_list (by decide +kernel) (s_cons (s_var 5) (s_nil))))))) (ss_one (s_ret (s_op o_add (s_var 3) (s_comp (own := [("_law_line", 6)]) rfl sc__law_behind.nd (it_range1 T.n_range (s_var 0)) (by first | (show blkC N__law_behind (defScope st__law_behind) _ _ = true; decide +kernel) | rfl) (fun _ _ _ _ _ => g_nm sc__law_behind.nd) (fun _ _ _ _ _ => ts_one (s_cmpT (o_notIn (by have z := Room.u65 hr; exact z)) (s_var 6) (s_var 4))) (fun _ _ _ _ _ => s_tup (s_cons (s_var 6) (s_nil))))))))
theorem ok__law_counts_of (T : Tx P K mg) {f : Addr} {fd : FuncData} (F : FT K mg "_law_counts_of" "_law_counts_of" st__law_counts_of ps__law_counts_of f fd) : FnOk P w K mg base (L2.CX P w) 2 f fd ps__law_counts_of (spOf ⟨K, mg⟩ 4 m__law_counts_of) := by
  obtain ⟨f__law_behind, fd__law_behind, F__law_behind⟩ := T.f__law_behind
  have G__law_behind := ok__law_behind (w := w) (base := base) T F__law_behind
  exact fn_ok (k := 1) F.fn sc__law_counts_of fun cdv A outer s H E hr => by
    show SSs _ _ (defBody st__law_counts_of) (b__law_counts_of)
    unfold b__law_counts_of
    exact ss_cons (s_set (i := 4) sc__law_counts_of.nd (s_op o_mul (s_lst (s_cons (s_int) (s_nil))) (s_op o_add (s_var 0) (s_int)))) (ss_cons (s_for (tp := false) (passes_of rfl) rfl (it_seq (s_var 1)) (g_nm sc__law_counts_of.nd) (ss_cons (s_setComp (i := 6) (own := [("_law_line", 7)]) rfl sc__law_counts_of.nd (it_seq (s_call G__law_behind (Room.mono hr (by first | decide | omega)) F__law_behind.g F__law_behind.k F__law_behind.b (takes_of rfl rfl rfl rfl) (s_cons (s_var 0) (s_cons (s_var 5) (s_cons (s_var 2) (s_nil)))) (cons_len (cons_len (cons_len (fun _ _ _ _ => nil_len)))))) (by first | (show blkC N__law_counts_of (defScope st__law_counts_of) _ _ = true; decide +kernel) | rfl) (fun _ _ _ _ _ => g_nm sc__law_counts_of.nd) (fun _ _ _ _ _ => ts_one (s_cmpT (o_ne (by have z := Room.u64 hr; exact z)) (s_comp (own := [("_law_x", 8)]) rfl sc__law_counts_of.nd (it_seq (s_var 7)) (by first | (show blkC N__law_counts_of (defScope st__law_counts_of) _ _ = true; decide +kernel) | rfl) (fun _ _ _ _ _ => g_nm sc__law_counts_of.nd) (fun _ _ _ _ _ => ts_one (s_cmpT (o_in (by have z := Room.u65 hr; exact z)) (s_var 8) (s_var 2))) (fun _ _ _ _ _ => s_var 8)) (s_lst (s_nil)))) (fun _ _ _ _ _ => s_var 7) rfl) (ss_one (s_if (s_pw (s_or (s_not (s_truth (s_var 3))) (s_or1 (s_cmpT (o_eq (by have z := Room.u64 hr; exact z)) (s_comp (own := [("_law_line", 7)]) rfl sc__law_counts_of.nd (it_seq (s_var 6)) (by first | (show blkC N__law_counts_of (defScope st__law_counts_of) _ _ = true; decide +kernel) | rfl) (fun _ _ _ _ _ => g_nm sc__law_counts_of.nd) (fun _ _ _ _ _ => ts_one (s_cmpT (o_ne (by have z := Room.u64 hr; exact z)) (s_comp (own := [("_law_x", 8)]) rfl sc__law_counts_of.nd (it_seq (s_var 7)) (by first | (show blkC N__law_counts_of (defScope st__law_counts_of) _ _ = true; decide +kernel) | rfl) (fun _ _ _ _ _ => g_nm sc__law_counts_of.nd) (fun _ _ _ _ _ => ts_one (s_cmpT (o_notIn (by have z := Room.u65 hr; exact z)) (s_var 8) (s_var 2))) (fun _ _ _ _ _ => s_var 8)) (s_lst (s_nil)))) (fun _ _ _ _ _ => s_var 7)) (s_lst (s_nil)))))) (ss_one (s_setIx (s_op o_add (s_ix i_ix (s_var 4) (s_callB k_len rfl T.n_len (by decide +kernel) (s_cons (s_var 6) (s_nil)))) (s_int)) (s_var 4) (s_callB k_len rfl T.n_len (by decide +kernel) (s_cons (s_var 6) (s_nil))))) (ss_nil))))) (ss_one (s_ret (s_var 4))))
theorem ok__law_choose (T : Tx P K mg) {f : Addr} {fd : FuncData} (F : FT K mg "_law_choose" "_law_choose" st__law_choose ps__law_choose f fd) : FnOk P w K mg base (L2.CX P w) 1 f fd ps__law_choose (spOf ⟨K, mg⟩ 2 m__law_choose) := by
  exact fn_ok (k := 0) F.fn sc__law_choose fun cdv A outer s H E hr => by
    show SSs _ _ (defBody st__law_choose) (b__law_choose)
    unfold b__law_choose
    exact ss_cons (s_set (i := 2) sc__law_choose.nd (s_int)) (ss_cons (s_for (tp := false) (passes_of rfl) rfl (it_range1 T.n_range (s_var 1)) (g_nm sc__law_choose.nd) (ss_one (s_set (i := 2) sc__law_choose.nd (s_op o_div (s_op o_mul (s_var 2) (s_op o_sub (s_var 0) (s_var 3))) (s_op o_add (s_var 3) (s_int)))))) (ss_one (s_ret (s_var 2))))
theorem ok__law_right (T : Tx P K mg) {f : Addr} {fd : FuncData} (F : FT K mg "_law_right" "_law_right" st__law_right ps__law_right f fd) : FnOk P w K mg base (L2.CX P w) 43 f fd ps__law_right (spOf ⟨K, mg⟩ 1 m__law_right) := by
  obtain ⟨f__law_one, fd__law_one, F__law_one⟩ := T.f__law_one
  have G__law_one := ok__law_one (w := w) (base := base) T F__law_one
  obtain ⟨f__law_take, fd__law_take, F__law_take⟩ := T.f__law_take
  have G__law_take := ok__law_take (w := w) (base := base) T F__law_take
  obtain ⟨f__law_pattern, fd__law_pattern, F__law_pattern⟩ := T.f__law_pattern
  have G__law_pattern := ok__law_pattern (w := w) (base := base) T F__law_pattern
  obtain ⟨f__law_rows, fd__law_rows, F__law_rows⟩ := T.f__law_rows
  have G__law_rows := ok__law_rows (w := w) (base := base) T F__law_rows
  obtain ⟨f_whole, fd_whole, F_whole⟩ := T.f_whole
  have G_whole := ok_whole (w := w) (base := base) T F_whole
  obtain ⟨f_touched, fd_touched, F_touched⟩ := T.f_touched
  have G_touched := ok_touched (w := w) (base := base) T F_touched
  obtain ⟨f__law_form_right, fd__law_form_right, F__law_form_right⟩ := T.f__law_form_right
  have G__law_form_right := ok__law_form_right (w := w) (base := base) T F__law_form_right
  obtain ⟨f__law_counts_of, fd__law_counts_of, F__law_counts_of⟩ := T.f__law_counts_of
  have G__law_counts_of := ok__law_counts_of (w := w) (base := base) T F__law_counts_of
  obtain ⟨f__law_choose, fd__law_choose, F__law_choose⟩ := T.f__law_choose
  have G__law_choose := ok__law_choose (w := w) (base := base) T F__law_choose
  exact fn_ok (k := 42) F.fn sc__law_right fun cdv A outer s H E hr => by
    show SSs _ _ (defBody st__law_right) (b__law_right)
    unfold b__law_right
    exact ss_cons (s_set (i := 1) sc__law_right.nd (s_call G__law_one (Room.mono hr (by first | decide | omega)) F__law_one.g F__law_one.k F__law_one.b (takes_of rfl rfl rfl rfl) (s_cons (s_var 0) (s_cons (s_lst (s_cons (s_int) (s_cons (s_int) (s_cons (s_int) (s_cons (s_int) (s_cons (s_int) (s_cons (s_int) (s_cons (s_int) (s_nil))))))))) (s_nil))) (cons_len (cons_len (fun _ _ _ _ => nil_len))))) (ss_cons (s_set (i := 2) sc__law_right.nd (s_ifE (s_pw (s_and (s_cmpT o_gt (s_var 1) (s_int)) (s_and1 (s_cmpT o_gt (s_call G__law_take (Room.mono hr (by first | decide | omega)) F__law_take.g F__law_take.k F__law_take.b (takes_of rfl rfl rfl rfl) (s_cons (s_var 0) (s_cons (s_int) (s_nil))) (cons_len (cons_len (fun _ _ _ _ => nil_len)))) (s_int))))) (s_call G__law_pattern (Room.mono hr (by first | decide | omega)) F__law_pattern.g F__law_pattern.k F__law_pattern.b (takes_of rfl rfl rfl rfl) (s_cons (s_var 0) (s_cons (s_var 1) (s_nil))) (cons_len (cons_len (fun _ _ _ _ => nil_len)))) (s_tup (s_nil)))) (ss_cons (s_set (i := 3) sc__law_right.nd (s_call G__law_rows (Room.mono hr (by first | decide | omega)) F__law_rows.g F__law_rows.k F__law_rows.b (takes_of rfl rfl rfl rfl) (s_cons (s_lrg rfl rfl T.n_list rfl T.n_range (s_var 1)) (s_cons (s_var 2) (s_nil))) (cons_len (cons_len (fun _ _ _ _ => nil_len))))) (ss_cons (s_for (tp := false) (passes_of rfl) rfl (it_seq (s_lst (s_cons (s_bl) (s_cons (s_bl) (s_nil))))) (g_nm sc__law_right.nd) (ss_cons (s_set (i := 5) sc__law_right.nd (s_ifE (s_truth (s_var 4)) (s_call G_whole (Room.mono hr (by first | decide | omega)) F_whole.g F_whole.k F_whole.b (takes_of rfl rfl rfl rfl) (s_cons (s_var 1) (s_cons (s_var 2) (s_nil))) (cons_len (cons_len (fun _ _ _ _ => nil_len)))) (s_callK G_touched (Room.mono hr (by first | decide | omega)) F_touched.g F_touched.k (kbd_of (ks := ["pattern", "k"]) (is := [1, 0]) F_touched.fn fun _ _ _ _ _ _ ws hl => match ws, hl with | [_, _], _ => rfl) (takes_of rfl rfl rfl rfl) (s_kcons (s_var 2) (s_kcons (s_var 1) (s_knil))) (cons_len (cons_len (fun _ _ _ _ => nil_len))) (fun xs hl => match xs, hl with | [_, _], _ => rfl)))) (ss_cons (s_if (s_not (s_truth (s_call G__law_form_right (Room.mono hr (by first | decide | omega)) F__law_form_right.g F__law_form_right.k F__law_form_right.b (takes_of rfl rfl rfl rfl) (s_cons (s_var 5) (s_cons (s_var 1) (s_nil))) (cons_len (cons_len (fun _ _ _ _ => nil_len)))))) (ss_one (s_ret (s_bl))) (ss_nil)) (ss_cons (s_set (i := 6) sc__law_right.nd (s_callTy (k_dictX rfl (by have z := Room.u64 hr; exact z)) rfl T.n_dict (by decide +kernel) (s_cons (s_comp (own := [("_law_part", 11)]) rfl sc__law_right.nd (it_seq (s_var 5)) (by first | (show blkC N__law_right (defScope st__law_right) _ _ = true; decide +kernel) | rfl) (fun _ _ _ _ _ => g_nm sc__law_right.nd) (fun _ _ _ _ _ => ts_nil) (fun _ _ _ _ _ => s_tup (s_cons (s_tup (s_cons (s_ix i_ix (s_var 11) (s_int)) (s_cons (s_ix i_ix (s_var 11) (s_int)) (s_nil)))) (s_cons (s_ix i_ix (s_var 11) (s_int)) (s_nil))))) (s_nil)))) (ss_one (s_for (tp := false) (passes_of rfl) rfl (it_range1 T.n_range (s_op o_add (s_var 1) (s_int))) (g_nm sc__law_right.nd) (ss_cons (s_asg (s_tup (s_cons (s_lrg rfl rfl T.n_list rfl T.n_range (s_var 7)) (s_cons (s_lrg rfl rfl T.n_list rfl T.n_range (s_var 1)) (s_nil)))) (g_tp rfl (gs_cons (g_nm sc__law_right.nd) (gs_cons (g_nm sc__law_right.nd) (gs_nil))))) (ss_cons (s_if (s_cmpT (o_eq (by have z := Room.u64 hr; exact z)) (s_call G__law_take (Room.mono hr (by first | decide | omega)) F__law_take.g F__law_take.k F__law_take.b (takes_of rfl rfl rfl rfl) (s_cons (s_var 0) (s_cons (s_int) (s_nil))) (cons_len (cons_len (fun _ _ _ _ => nil_len)))) (s_int)) (ss_one (s_setComp (i := 8) (own := [("_law_turn", 12)]) rfl sc__law_right.nd (it_range1 T.n_range (s_var 7)) (by first | (show blkC N__law_right (defScope st__law_right) _ _ = true; decide +kernel) | rfl) (fun _ _ _ _ _ => g_nm sc__law_right.nd) (fun _ _ _ _ _ => ts_nil) (fun _ _ _ _ _ => s_mtL PySem.F.slot_list_pop md_pop m_popAt (s_var 9) (s_cons (s_call G__law_take (Room.mono hr (by first | decide | omega)) F__law_take.g F__law_take.k F__law_take.b takes0 (s_cons (s_var 0) (s_cons (s_callB k_len rfl T.n_len (by decide +kernel) (s_cons (s_var 9) (s_nil))) (s_nil))) (cons_len (cons_len (fun _ _ _ _ => nil_len)))) (s_nil))) rfl)) (ss_nil)) (ss_cons (s_set (i := 10) sc__law_right.nd (s_call G__law_counts_of (Room.mono hr (by first | decide | omega)) F__law_counts_of.g F__law_counts_of.k F__law_counts_of.b (takes_of rfl rfl rfl rfl) (s_cons (s_var 1) (s_cons (s_var 3) (s_cons (s_var 8) (s_cons (s_var 4) (s_nil))))) (cons_len (cons_len (cons_len (cons_len (fun _ _ _ _ => nil_len))))))) (ss_one (s_if (s_cmpT (o_ne (by have z := Room.u64 hr; exact z)) (s_comp (own := [("_law_j", 13)]) rfl sc__law_right.nd (it_range1 T.n_range (s_op o_add (s_var 1) (s_int))) (by first | (show blkC N__law_right (defScope st__law_right) _ _ = true; decide +kernel) | rfl) (fun _ _ _ _ _ => g_nm sc__law_right.nd) (fun _ _ _ _ _ => ts_nil) (fun _ _ _ _ _ => s_op o_mul (s_getD (by have z := Room.u64 hr; exact z) (s_var 6) (s_tup (s_cons (s_var 7) (s_cons (s_var 13) (s_nil)))) (s_int)) (s_callB k_len rfl T.n_len (by decide +kernel) (s_cons (s_var 3) (s_nil))))) (s_comp (own := [("_law_many", 14)]) rfl sc__law_right.nd (it_seq (s_var 10)) (by first | (show blkC N__law_right (defScope st__law_right) _ _ = true; decide +kernel) | rfl) (fun _ _ _ _ _ => g_nm sc__law_right.nd) (fun _ _ _ _ _ => ts_nil) (fun _ _ _ _ _ => s_op o_mul (s_call G__law_choose (Room.mono hr (by first | decide | omega)) F__law_choose.g F__law_choose.k F__law_choose.b takes0 (s_cons (s_var 1) (s_cons (s_var 7) (s_nil))) (cons_len (cons_len (fun _ _ _ _ => nil_len)))) (s_var 14)))) (ss_one (s_ret (s_bl))) (ss_nil)))))))))))) (ss_one (s_ret (s_cmp (o_eq (by have z := Room.u64 hr; exact z)) (s_callK G_whole (Room.mono hr (by first | decide | omega)) F_whole.g F_whole.k (kbd_of (ks := ["pattern", "k"]) (is := [1, 0]) F_whole.fn fun _ _ _ _ _ _ ws hl => match ws, hl with | [_, _], _ => rfl) (takes_of rfl rfl rfl rfl) (s_kcons (s_var 2) (s_kcons (s_var 1) (s_knil))) (cons_len (cons_len (fun _ _ _ _ => nil_len))) (fun xs hl => match xs, hl with | [_, _], _ => rfl)) (s_call G_whole (Room.mono hr (by first | decide | omega)) F_whole.g F_whole.k F_whole.b (takes_of rfl rfl rfl rfl) (s_cons (s_var 1) (s_cons (s_var 2) (s_nil))) (cons_len (cons_len (fun _ _ _ _ => nil_len))))))))))
theorem ok__law_pool (T : Tx P K mg) {f : Addr} {fd : FuncData} (F : FT K mg "_law_pool" "_law_pool" st__law_pool ps__law_pool f fd) : FnOk P w K mg base (L2.CX P w) 1 f fd ps__law_pool (spOf ⟨K, mg⟩ 2 m__law_pool) := by
  exact fn_ok (k := 0) F.fn sc__law_pool fun cdv A outer s H E hr => by
    show SSs _ _ (defBody st__law_pool) (b__law_pool)
    unfold b__law_pool
    exact ss_cons (s_set (i := 2) sc__law_pool.nd (s_int)) (ss_cons (s_if (s_cmpT o_lt (s_var 1) (s_callB k_len rfl T.n_len (by decide +kernel) (s_cons (s_var 0) (s_nil)))) (ss_one (s_set (i := 2) sc__law_pool.nd (s_ix i_ix (s_var 0) (s_var 1)))) (ss_one (s_if (s_truth (s_var 0)) (ss_one (s_set (i := 2) sc__law_pool.nd (s_ix i_ix (s_var 0) (s_int)))) (ss_nil)))) (ss_cons (s_set (i := 3) sc__law_pool.nd (s_callB (k_max rfl) rfl T.n_max (by decide +kernel) (s_cons (s_callTy k_int rfl T.n_int (by decide +kernel) (s_cons (s_var 2) (s_nil))) (s_cons (s_callTy k_int rfl T.n_int (by decide +kernel) (s_cons (s_op o_sub (s_un o_neg (s_int)) (s_var 2)) (s_nil))) (s_nil))))) (ss_cons (s_set (i := 4) sc__law_pool.nd (s_op o_mod (s_callTy k_int rfl T.n_int (by decide +kernel) (s_cons (s_op o_mul (s_op o_add (s_op o_add (s_op o_add (s_op o_mod (s_callTy k_int rfl T.n_int (by decide +kernel) (s_cons (s_var 3) (s_nil))) (s_int)) (s_op o_mul (s_op o_mul (s_int) (s_var 1)) (s_var 1))) (s_op o_mul (s_int) (s_var 1))) (s_int)) (s_int)) (s_nil))) (s_int))) (ss_one (s_ret (s_lst (s_cons (s_op o_mul (s_var 3) (s_callTy k_int rfl T.n_int (by decide +kernel) (s_cons (s_cmp o_ge (s_var 3) (s_op o_pow (s_int) (s_int))) (s_nil)))) (s_cons (s_var 4) (s_nil)))))))))
theorem ok_law (T : Tx P K mg) {f : Addr} {fd : FuncData} (F : FT K mg "law" "law" st_law ps_law f fd) : FnOk P w K mg base (L2.CX P w) 44 f fd ps_law (spOf ⟨K, mg⟩ 1 m_law) := by
  obtain ⟨f__law_right, fd__law_right, F__law_right⟩ := T.f__law_right
  have G__law_right := ok__law_right (w := w) (base := base) T F__law_right
  obtain ⟨f__law_pool, fd__law_pool, F__law_pool⟩ := T.f__law_pool
  have G__law_pool := ok__law_pool (w := w) (base := base) T F__law_pool
  exact fn_ok (k := 43) F.fn sc_law fun cdv A outer s H E hr => by
    show SSs _ _ (defBody st_law) (b_law)
    unfold b_law
    exact ss_cons (s_for (tp := false) (passes_of rfl) rfl (it_range1 T.n_range (s_callB (k_max rfl) rfl T.n_max (by decide +kernel) (s_cons (s_int) (s_cons (s_callB (k_min rfl) rfl T.n_min (by decide +kernel) (s_cons (s_callB k_len rfl T.n_len (by decide +kernel) (s_cons (s_var 0) (s_nil))) (s_cons (s_int) (s_nil)))) (s_nil))))) (g_nm sc_law.nd) (ss_one (s_if (s_not (s_truth (s_call G__law_right (Room.mono hr (by first | decide | omega)) F__law_right.g F__law_right.k F__law_right.b (takes_of rfl rfl rfl rfl) (s_cons (s_call G__law_pool (Room.mono hr (by first | decide | omega)) F__law_pool.g F__law_pool.k F__law_pool.b (takes_of rfl rfl rfl rfl) (s_cons (s_var 0) (s_cons (s_var 1) (s_nil))) (cons_len (cons_len (fun _ _ _ _ => nil_len)))) (s_nil)) (cons_len (fun _ _ _ _ => nil_len))))) (ss_one (s_ret (s_bl))) (ss_nil)))) (ss_one (s_ret (s_bl)))
end
theorem er_fin {P : Program} {K : PySem.W.Frag} {h : Heap} {mg : Str → Option Value} (X : K.In h) (G : h.Ns mainGlobals mg) {D fI cc : Addr} (R : RefK P K D fI cc) {C0 : Addr} {C1 : Addr} {C2 : Addr} (E0 : ErrK K "BadSize" C0 D fI) (E1 : ErrK K "BadDay" C1 D fI) (E2 : ErrK K "TooFew" C2 D fI) (nd : (D :: [C0, C1, C2]).Nodup) :
    (∃ D fI cc, mg "Refused" = some (.ref D) ∧ BaseTxt P K mg D fI cc ∧ (∃ C, ErrTxt K mg "BadSize" C D fI) ∧ (∃ C, ErrTxt K mg "BadDay" C D fI) ∧ (∃ C, ErrTxt K mg "TooFew" C D fI)) ∧ EF K mg errs := by
  have nd' : (D :: ([("BadSize", C0), ("BadDay", C1), ("TooFew", C2)] : List (Str × Addr)).map (·.2)).Nodup := nd
  have n0 : C0 ≠ D := fun z => (List.nodup_cons.mp nd).1 (z ▸ by simp)
  have n1 : C1 ≠ D := fun z => (List.nodup_cons.mp nd).1 (z ▸ by simp)
  have n2 : C2 ≠ D := fun z => (List.nodup_cons.mp nd).1 (z ▸ by simp)
  refine ⟨⟨D, fI, cc, PySem.W.mg_of X G R.a, R.base X G, ⟨C0, E0.txt X G n0⟩, ⟨C1, E1.txt X G n1⟩, ⟨C2, E2.txt X G n2⟩⟩, ?_⟩
  have r := ef_mk X G (ps := [("BadSize", C0), ("BadDay", C1), ("TooFew", C2)]) R (by
    intro p hp
    simp only [List.mem_cons, List.not_mem_nil, or_false] at hp
    rcases hp with rfl | rfl | rfl
    · exact E0
    · exact E1
    · exact E2) nd' (show (("Refused" : Str) :: errs).Nodup by decide +kernel)
  exact r
theorem tx_fin {w : World} {K : PySem.W.Frag} {h : Heap} {mg : Str → Option Value} {fa : Addr} (KX : K.In h) (G : h.Ns mainGlobals mg) (hmg : mg "law" = some (.ref fa))
    (f__law_take : ∃ f fd, FT K mg "_law_take" "_law_take" st__law_take ps__law_take f fd)
    (f__law_one : ∃ f fd, FT K mg "_law_one" "_law_one" st__law_one ps__law_one f fd)
    (f__law_pattern : ∃ f fd, FT K mg "_law_pattern" "_law_pattern" st__law_pattern ps__law_pattern f fd)
    (f__law_chosen : ∃ f fd, FT K mg "_law_chosen" "_law_chosen" st__law_chosen ps__law_chosen f fd)
    (f__law_rows : ∃ f fd, FT K mg "_law_rows" "_law_rows" st__law_rows ps__law_rows f fd)
    (f_want_things : ∃ f fd, FT K mg "want_things" "want_things" st_want_things ps_want_things f fd)
    (f_is_number : ∃ f fd, FT K mg "is_number" "is_number" st_is_number ps_is_number f fd)
    (f_is_pattern : ∃ f fd, FT K mg "is_pattern" "is_pattern" st_is_pattern ps_is_pattern f fd)
    (f_want_pattern : ∃ f fd, FT K mg "want_pattern" "want_pattern" st_want_pattern ps_want_pattern f fd)
    (f_want_day : ∃ f fd, FT K mg "want_day" "want_day" st_want_day ps_want_day f fd)
    (f_terms : ∃ f fd, FT K mg "terms" "terms" st_terms ps_terms f fd)
    (f_poly_times : ∃ f fd, FT K mg "poly_times" "poly_times" st_poly_times ps_poly_times f fd)
    (f_product : ∃ f fd, FT K mg "product" "product" st_product ps_product f fd)
    (f_single : ∃ f fd, FT K mg "single" "single" st_single ps_single f fd)
    (f_whole_of : ∃ f fd, FT K mg "whole_of" "whole_of" st_whole_of ps_whole_of f fd)
    (f_whole : ∃ f fd, FT K mg "whole" "whole" st_whole ps_whole f fd)
    (f_touched_of : ∃ f fd, FT K mg "touched_of" "touched_of" st_touched_of ps_touched_of f fd)
    (f_touched : ∃ f fd, FT K mg "touched" "touched" st_touched ps_touched f fd)
    (f__law_form_right : ∃ f fd, FT K mg "_law_form_right" "_law_form_right" st__law_form_right ps__law_form_right f fd)
    (f__law_behind : ∃ f fd, FT K mg "_law_behind" "_law_behind" st__law_behind ps__law_behind f fd)
    (f__law_counts_of : ∃ f fd, FT K mg "_law_counts_of" "_law_counts_of" st__law_counts_of ps__law_counts_of f fd)
    (f__law_choose : ∃ f fd, FT K mg "_law_choose" "_law_choose" st__law_choose ps__law_choose f fd)
    (f__law_right : ∃ f fd, FT K mg "_law_right" "_law_right" st__law_right ps__law_right f fd)
    (f__law_pool : ∃ f fd, FT K mg "_law_pool" "_law_pool" st__law_pool ps__law_pool f fd)
    (f_law : ∃ f fd, FT K mg "law" "law" st_law ps_law f fd)
    (n_all : mg "all" = none)
    (n_bool : mg "bool" = none)
    (n_dict : mg "dict" = none)
    (n_int : mg "int" = none)
    (n_isinstance : mg "isinstance" = none)
    (n_len : mg "len" = none)
    (n_list : mg "list" = none)
    (n_max : mg "max" = none)
    (n_min : mg "min" = none)
    (n_range : mg "range" = none)
    (n_set : mg "set" = none)
    (n_sorted : mg "sorted" = none)
    (n_sum : mg "sum" = none)
    (n_tuple : mg "tuple" = none)
    (c_LEAST_GROUP : ∃ t, mg "LEAST_GROUP" = some (.int 2 t))
    (c_MOST_THINGS : ∃ t, mg "MOST_THINGS" = some (.int 12 t))
    (m_comb : mg "comb" = some (.builtin "math.comb"))
    (er_ : (∃ D fI cc, mg "Refused" = some (.ref D) ∧ BaseTxt PySem.Challenge.rw_datedlines_k04_told_lines_listed.prog K mg D fI cc ∧ (∃ C, ErrTxt K mg "BadSize" C D fI) ∧ (∃ C, ErrTxt K mg "BadDay" C D fI) ∧ (∃ C, ErrTxt K mg "TooFew" C D fI)) ∧ EF K mg errs)
    : ∃ (K : PySem.W.Frag) (fd : FuncData), K.In h ∧ Binds K fd ps_law [] ∧ (∀ base : Heap, K.In base → base.Ns mainGlobals mg → FnOk PySem.Challenge.rw_datedlines_k04_told_lines_listed.prog w K mg base (L2.CX PySem.Challenge.rw_datedlines_k04_told_lines_listed.prog w) 44 fa fd ps_law (spOf ⟨K, mg⟩ 1 m_law)) ∧
      ∀ (s : Shared) (u : Value), BindsTo s fd ⟨[u], []⟩ [("_law_script", u)] := by
  have T : Tx PySem.Challenge.rw_datedlines_k04_told_lines_listed.prog K mg := ⟨f__law_take, f__law_one, f__law_pattern, f__law_chosen, f__law_rows, f_want_things, f_is_number, f_is_pattern, f_want_pattern, f_want_day, f_terms, f_poly_times, f_product, f_single, f_whole_of, f_whole, f_touched_of, f_touched, f__law_form_right, f__law_behind, f__law_counts_of, f__law_choose, f__law_right, f__law_pool, f_law, n_all, n_bool, n_dict, n_int, n_isinstance, n_len, n_list, n_max, n_min, n_range, n_set, n_sorted, n_sum, n_tuple, c_LEAST_GROUP, c_MOST_THINGS, m_comb, er_.1, er_.2⟩
  obtain ⟨f, fd, F⟩ := f_law
  have e := F.g.symm.trans hmg
  cases e
  exact ⟨K, fd, KX, F.b, fun base _ _ => ok_law T F, fun s u => F.bt s [u] rfl⟩
end Gk

set_option Elab.async false
set_option linter.all false
set_option maxRecDepth 100000
namespace Gk
open PySem Sx
def IsSrc (h : Hc) (n : Nat) : Prop := ∃ b m : Int, h[n]? = some (false, .lst [.int b, .int m]) ∧ 0 ≤ m ∧ m < 2147483647
structure Go (n : Nat) (h h' : Hc) : Prop where
  len : h.length ≤ h'.length
  keep : ∀ i, i < h.length → i ≠ n → h'[i]? = h[i]?
  src : IsSrc h' n
theorem Go.refl {n : Nat} {h : Hc} (s : IsSrc h n) : Go n h h := ⟨Nat.le_refl _, fun _ _ _ => rfl, s⟩
theorem Go.trans {n : Nat} {h h1 h2 : Hc} (a : Go n h h1) (b : Go n h1 h2) : Go n h h2 :=
  ⟨Nat.le_trans a.len b.len, fun i hi hn => (b.keep i (Nat.lt_of_lt_of_le hi a.len) hn).trans (a.keep i hi hn), b.src⟩
theorem IsSrc.lt {h : Hc} {n : Nat} (s : IsSrc h n) : n < h.length := by
  obtain ⟨b, m, e, _⟩ := s
  exact (List.getElem?_eq_some_iff.mp e).1
theorem Go.app {n : Nat} {h h' : Hc} (a : Go n h h') (l : Hc) : Go n h (h' ++ l) := by
  refine ⟨by rw [List.length_append]; have := a.len; omega, fun i hi hn => ?_, ?_⟩
  · rw [List.getElem?_append_left (Nat.lt_of_lt_of_le hi a.len)]
    exact a.keep i hi hn
  · obtain ⟨b, m, e, q⟩ := a.src
    exact ⟨b, m, by rw [List.getElem?_append_left (List.getElem?_eq_some_iff.mp e).1]; exact e, q⟩
theorem Go.put {n k : Nat} {h h' : Hc} (a : Go n h h') (hk : h.length ≤ k) (hn : n < h.length) (p : Bool × O) : Go n h (h'.set k p) := by
  refine ⟨by rw [List.length_set]; exact a.len, fun i hi hn => ?_, ?_⟩
  · rw [List.getElem?_set_ne (by omega)]
    exact a.keep i hi hn
  · obtain ⟨b, m, e, q⟩ := a.src
    exact ⟨b, m, by rw [List.getElem?_set_ne (by omega)]; exact e, q⟩
theorem fmod_lt {a b : Int} (h : 0 < b) : 0 ≤ a.fmod b ∧ a.fmod b < b := ⟨Int.fmod_nonneg_of_pos a h, Int.fmod_lt_of_pos a h⟩
theorem take_set {h : Hc} {n : Nat} {top : Int} (s : IsSrc h n) (h0 : 0 < top) (h1 : top < 1073741824) :
    wE (m__law_take [.ref n, .int top] h) fun r h' => ∃ d b m : Int, r = .int d ∧ 0 ≤ d ∧ d < top ∧ h' = h.set n (false, .lst [.int b, .int m]) ∧ 0 ≤ m ∧ m < 2147483647 := by
  obtain ⟨b, m, e, m0, m1⟩ := s
  have hd : divOk top = true := by
    unfold divOk
    have e1 : (top != 0) = true := by simp; omega
    have e2 : Nat.blt top.natAbs 1073741824 = true := by rw [Nat.blt_eq]; omega
    rw [e1, e2]; rfl
  have d32 : divOk 32 = true := by decide
  have tz : ¬ top = 0 := by omega
  have e0 := fun p => q_ixR (p := p) e
  have hm1 : mulOk m 39373 = true := by
    unfold mulOk small64b
    simp only [Bool.or_eq_true, Bool.and_eq_true, decide_eq_true_eq]
    exact .inl (.inl ⟨by omega, by omega⟩)
  by_cases c : 0 < b
  · have z := fmod_lt (a := b) h0
    refine wE.of (a := .int (b.fmod top)) (h := h.set n (false, .lst [.int (b.fdiv top), .int m])) ?_ ⟨_, _, _, rfl, z.1, z.2, rfl, m0, m1⟩
    unfold m__law_take runD b__law_take
    simp [q_bok, q_bxn, q_ofok, q_ofxn, q_vo, q_var, q_k, q_c1, q_c2, q_nil, q_cons, q_c, q_call, q_callK, pick, q_b, q_tru, q_not, q_and, q_or, q_ifE, q_andV, q_orV, q_notV, q_chain, q_seq, q_tnx, q_trt, q_txn, q_tbk, q_tct, q_skip, q_drop, q_ret, q_retN, q_bk, q_ct, q_set, q_par, q_par3, q_if, q_raise, q_mt, q_mt0, q_end0, q_endr, q_endx, q_lt, q_le, q_gt, q_ge, q_sub, q_add, q_neg, q_inti, q_intb, q_max, q_min, q_lenT, q_lenF, q_truT, q_truF, q_truB, q_truI, q_ixT, q_ixF, at_0, at_1, er_int, er_bl, er_str, er_non, er_tup, er_flst, er_ref, er_obj, er_ty, er_gl, q_lst, q_tup, q_cutT, q_pn, q_ps, q_slT, q_itS, seqL_t, sz_0, sz_1, sz_2, sz_3, sz_4, sz_5, sz_6, sz_7, sz_8, sz_9, sz_10, sz_11, sz_12, sz_13, sz_14, e0, c, q_mod tz, q_div hd, cSetIx, e, Sx.putAt, L2.ixN]
  · have z := fmod_lt (a := m * 39373 + 7) (b := 2147483647) (by decide)
    generalize hm : (m * 39373 + 7).fmod 2147483647 = m2 at z
    have hm2 : mulOk m2 m2 = true := by
      unfold mulOk small64b
      simp only [Bool.or_eq_true, Bool.and_eq_true, decide_eq_true_eq]
      exact .inl (.inl ⟨by omega, by omega⟩)
    have e1 := fun p => q_ixR (p := p) (get_set (x := (false, .lst [.int b, .int m2])) e)
    have z2 := fmod_lt (a := ((m2 * m2).fmod 2147483629).fdiv 32) h0
    refine wE.of (a := .int ((((m2 * m2).fmod 2147483629).fdiv 32).fmod top)) (h := h.set n (false, .lst [.int b, .int m2])) ?_ ⟨_, _, _, rfl, z2.1, z2.2, rfl, z.1, z.2⟩
    unfold m__law_take runD b__law_take
    simp [q_bok, q_bxn, q_ofok, q_ofxn, q_vo, q_var, q_k, q_c1, q_c2, q_nil, q_cons, q_c, q_call, q_callK, pick, q_b, q_tru, q_not, q_and, q_or, q_ifE, q_andV, q_orV, q_notV, q_chain, q_seq, q_tnx, q_trt, q_txn, q_tbk, q_tct, q_skip, q_drop, q_ret, q_retN, q_bk, q_ct, q_set, q_par, q_par3, q_if, q_raise, q_mt, q_mt0, q_end0, q_endr, q_endx, q_lt, q_le, q_gt, q_ge, q_sub, q_add, q_neg, q_inti, q_intb, q_max, q_min, q_lenT, q_lenF, q_truT, q_truF, q_truB, q_truI, q_ixT, q_ixF, at_0, at_1, er_int, er_bl, er_str, er_non, er_tup, er_flst, er_ref, er_obj, er_ty, er_gl, q_lst, q_tup, q_cutT, q_pn, q_ps, q_slT, q_itS, seqL_t, sz_0, sz_1, sz_2, sz_3, sz_4, sz_5, sz_6, sz_7, sz_8, sz_9, sz_10, sz_11, sz_12, sz_13, sz_14, e0, e1, c, q_mod tz, q_div d32, q_mul hm1, q_mul hm2, q_mod, hm, cSetIx, e, Sx.putAt, L2.ixN]
theorem mulL {i j : Int} (h : small64b i = true) : mulOk i j = true := by unfold mulOk; rw [h]; rfl
theorem mulR {i j : Int} (h : small64b j = true) : mulOk i j = true := by unfold mulOk; rw [h, Bool.or_true]; rfl
theorem ix_at {x : D} {h : Hc} {ds : List D} {i : Nat} {d : D} (hx : asSeq x h = some ds) (hi : ds[i]? = some d) : gIx x (.int (i : Nat)) h = some (d, h) := by
  have hl := (List.getElem?_eq_some_iff.mp hi).1
  have e : L2.atI ds (i : Int) = some d := by
    unfold L2.atI L2.ixN
    have h1 : (0 : Int) ≤ (i : Int) := by omega
    have h2 : (i : Int) < (ds.length : Nat) := by omega
    rw [if_pos h1, if_pos h2]
    simpa using hi
  cases x with
  | str z => cases hx
  | _ => simp only [gIx, hx, e]
theorem seq_set {x : D} {h : Hc} {n : Nat} {p : Bool × O} {ds : List D} (hx : asSeq x h = some ds) (hk : x ≠ .ref n) : asSeq x (h.set n p) = some ds := by
  cases x with
  | ref k =>
    have hk' : n ≠ k := fun z => hk (by rw [z])
    simp only [asSeq, List.getElem?_set_ne hk'] at hx ⊢
    exact hx
  | _ => exact hx
theorem one_set {h : Hc} {n : Nat} {x : D} {ds : List D} (s : IsSrc h n) (hx : asSeq x h = some ds) (hk : x ≠ .ref n) (hl : x.isErr = false) (h0 : 0 < ds.length) (h1 : ds.length < 1073741824) :
    wE (m__law_one [.ref n, x] h) fun r h' => ∃ (i : Nat) (b m : Int), ds[i]? = some r ∧ h' = h.set n (false, .lst [.int b, .int m]) ∧ 0 ≤ m ∧ m < 2147483647 := by
  have len : gLen [x] h = some (.int ds.length, h) := by
    cases x with
    | str z => cases hx
    | _ => simp only [gLen, hx]
  obtain ⟨r, h', e, d, b, m, rfl, d0, d1, rfl, m0, m1⟩ := (take_set (top := (ds.length : Nat)) s (by omega) (by omega)).eq
  obtain ⟨i, rfl⟩ := Int.eq_ofNat_of_zero_le d0
  have hi : i < ds.length := by omega
  have e2 : gIx x (.int (i : Nat)) (h.set n (false, .lst [.int b, .int m])) = some (ds[i], h.set n (false, .lst [.int b, .int m])) := ix_at (seq_set hx hk) (List.getElem?_eq_getElem hi)
  refine wE.of (a := ds[i]) (h := h.set n (false, .lst [.int b, .int m])) ?_ ⟨i, _, _, by simp [hi], rfl, m0, m1⟩
  unfold m__law_one runD b__law_one
  simp [q_bok, q_bxn, q_ofok, q_ofxn, q_vo, q_var, q_k, q_c1, q_c2, q_nil, q_cons, q_c, q_call, q_callK, pick, q_b, q_tru, q_not, q_and, q_or, q_ifE, q_andV, q_orV, q_notV, q_chain, q_seq, q_tnx, q_trt, q_txn, q_tbk, q_tct, q_skip, q_drop, q_ret, q_retN, q_bk, q_ct, q_set, q_par, q_par3, q_if, q_raise, q_mt, q_mt0, q_end0, q_endr, q_endx, q_lt, q_le, q_gt, q_ge, q_sub, q_add, q_neg, q_inti, q_intb, q_max, q_min, q_lenT, q_lenF, q_truT, q_truF, q_truB, q_truI, q_ixT, q_ixF, at_0, at_1, er_int, er_bl, er_str, er_non, er_tup, er_flst, er_ref, er_obj, er_ty, er_gl, q_lst, q_tup, q_cutT, q_pn, q_ps, q_slT, q_itS, seqL_t, sz_0, sz_1, sz_2, sz_3, sz_4, sz_5, sz_6, sz_7, sz_8, sz_9, sz_10, sz_11, sz_12, sz_13, sz_14, hl, len, e, e2]
def bigI (c : Int) : Int := if -1 - c > c then -1 - c else c
def mixI (c k : Int) : Int := ((bigI c).fmod 2147483629 + 7919 * k * k + 31 * k + 17) * 48271
def srcB (c : Int) : Int := bigI c * (if 1000000000000000000 ≤ bigI c then 1 else 0)
theorem p18 {h : Hc} : gPow (.int 10) (.int 18) h = some (.int 1000000000000000000, h) := id rfl
theorem pool_eq {ns : List Int} {k : Nat} {h : Hc} (hk : k ≤ 63) : ∃ c : Int, m__law_pool [.flst (ns.map .int), .int k] h = .ok (.ref h.length) (h ++ [(false, .lst [.int (srcB c), .int ((mixI c k).fmod 2147483647)])]) := by
  have s2 : (2 : Nat) ≤ sizeLine := by decide
  have k1 : ∀ i, mulOk i 48271 = true := fun i => mulR rfl
  have k2 : ∀ i, mulOk 7919 i = true := fun i => mulL rfl
  have k3 : ∀ i, mulOk 31 i = true := fun i => mulL rfl
  have k4 : mulOk (7919 * (k : Int)) k = true := mulR (by unfold small64b; simp only [Bool.and_eq_true, decide_eq_true_eq]; omega)
  have k5 : ∀ (i : Int) (P : Prop) [Decidable P], mulOk i (if P then 1 else 0) = true := fun i P _ => mulR (by split <;> rfl)
  have n1 : ¬ (2147483629 : Int) = 0 := by decide
  have n2 : ¬ (2147483647 : Int) = 0 := by decide
  unfold m__law_pool runD b__law_pool
  by_cases c : (k : Int) < ns.length
  · have hk' : k < ns.length := by omega
    have g : L2.atI (ns.map D.int) (k : Int) = some (.int ns[k]) := at_nat (by simp [hk'])
    refine ⟨ns[k], ?_⟩
    unfold srcB mixI bigI
    simp [q_bok, q_bxn, q_ofok, q_ofxn, q_vo, q_var, q_k, q_c1, q_c2, q_nil, q_cons, q_c, q_call, q_callK, pick, q_b, q_tru, q_not, q_and, q_or, q_ifE, q_andV, q_orV, q_notV, q_chain, q_seq, q_tnx, q_trt, q_txn, q_tbk, q_tct, q_skip, q_drop, q_ret, q_retN, q_bk, q_ct, q_set, q_par, q_par3, q_if, q_raise, q_mt, q_mt0, q_end0, q_endr, q_endx, q_lt, q_le, q_gt, q_ge, q_sub, q_add, q_neg, q_inti, q_intb, q_max, q_min, q_lenT, q_lenF, q_truT, q_truF, q_truB, q_truI, q_ixT, q_ixF, at_0, at_1, er_int, er_bl, er_str, er_non, er_tup, er_flst, er_ref, er_obj, er_ty, er_gl, q_lst, q_tup, q_cutT, q_pn, q_ps, q_slT, q_itS, seqL_t, sz_0, sz_1, sz_2, sz_3, sz_4, sz_5, sz_6, sz_7, sz_8, sz_9, sz_10, sz_11, sz_12, sz_13, sz_14, c, g, q_mod n1, q_mod n2, q_mul, k1, k2, k3, k4, k5, p18, s2]
  · cases ns with
    | nil =>
      refine ⟨0, ?_⟩
      unfold srcB mixI bigI
      have c : ¬ (k : Int) < 0 := by omega
      have k6 : ∀ i, mulOk 0 i = true := fun i => mulL rfl
      simp [q_bok, q_bxn, q_ofok, q_ofxn, q_vo, q_var, q_k, q_c1, q_c2, q_nil, q_cons, q_c, q_call, q_callK, pick, q_b, q_tru, q_not, q_and, q_or, q_ifE, q_andV, q_orV, q_notV, q_chain, q_seq, q_tnx, q_trt, q_txn, q_tbk, q_tct, q_skip, q_drop, q_ret, q_retN, q_bk, q_ct, q_set, q_par, q_par3, q_if, q_raise, q_mt, q_mt0, q_end0, q_endr, q_endx, q_lt, q_le, q_gt, q_ge, q_sub, q_add, q_neg, q_inti, q_intb, q_max, q_min, q_lenT, q_lenF, q_truT, q_truF, q_truB, q_truI, q_ixT, q_ixF, at_0, at_1, er_int, er_bl, er_str, er_non, er_tup, er_flst, er_ref, er_obj, er_ty, er_gl, q_lst, q_tup, q_cutT, q_pn, q_ps, q_slT, q_itS, seqL_t, sz_0, sz_1, sz_2, sz_3, sz_4, sz_5, sz_6, sz_7, sz_8, sz_9, sz_10, sz_11, sz_12, sz_13, sz_14, c, k6, q_mod n1, q_mod n2, q_mul, k1, k2, k3, k4, k5, p18, s2]
    | cons i l =>
      refine ⟨i, ?_⟩
      unfold srcB mixI bigI
      have c : ¬ (k : Int) < (l.length : Nat) + 1 := by simpa using c
      simp [q_bok, q_bxn, q_ofok, q_ofxn, q_vo, q_var, q_k, q_c1, q_c2, q_nil, q_cons, q_c, q_call, q_callK, pick, q_b, q_tru, q_not, q_and, q_or, q_ifE, q_andV, q_orV, q_notV, q_chain, q_seq, q_tnx, q_trt, q_txn, q_tbk, q_tct, q_skip, q_drop, q_ret, q_retN, q_bk, q_ct, q_set, q_par, q_par3, q_if, q_raise, q_mt, q_mt0, q_end0, q_endr, q_endx, q_lt, q_le, q_gt, q_ge, q_sub, q_add, q_neg, q_inti, q_intb, q_max, q_min, q_lenT, q_lenF, q_truT, q_truF, q_truB, q_truI, q_ixT, q_ixF, at_0, at_1, er_int, er_bl, er_str, er_non, er_tup, er_flst, er_ref, er_obj, er_ty, er_gl, q_lst, q_tup, q_cutT, q_pn, q_ps, q_slT, q_itS, seqL_t, sz_0, sz_1, sz_2, sz_3, sz_4, sz_5, sz_6, sz_7, sz_8, sz_9, sz_10, sz_11, sz_12, sz_13, sz_14, c, q_mod n1, q_mod n2, q_mul, k1, k2, k3, k4, k5, p18, s2]
theorem pool_new {ns : List Int} {k : Nat} {h : Hc} (hk : k ≤ 63) : ∃ b m : Int, m__law_pool [.flst (ns.map .int), .int k] h = .ok (.ref h.length) (h ++ [(false, .lst [.int b, .int m])]) ∧ 0 ≤ m ∧ m < 2147483647 := by
  obtain ⟨c, e⟩ := pool_eq (ns := ns) (h := h) hk
  exact ⟨_, _, e, fmod_lt (by decide)⟩
theorem Go.take {n : Nat} {h : Hc} {b m : Int} (s : IsSrc h n) (m0 : 0 ≤ m) (m1 : m < 2147483647) : Go n h (h.set n (false, .lst [.int b, .int m])) := by
  obtain ⟨b0, k0, e, _⟩ := s
  exact ⟨by simp, fun i _ hn => List.getElem?_set_ne (Ne.symm hn), ⟨b, m, get_set e, m0, m1⟩⟩
theorem take_go {h : Hc} {n : Nat} {top : Int} (s : IsSrc h n) (h0 : 0 < top) (h1 : top < 1073741824) : ∃ (d : Int) (h' : Hc), m__law_take [.ref n, .int top] h = .ok (.int d) h' ∧ 0 ≤ d ∧ d < top ∧ Go n h h' := by
  obtain ⟨_, h', e, d, b, m, rfl, d0, d1, rfl, m0, m1⟩ := (take_set s h0 h1).eq
  exact ⟨d, _, e, d0, d1, Go.take s m0 m1⟩
theorem one_go {h : Hc} {n : Nat} {x : D} {ds : List D} (s : IsSrc h n) (hx : asSeq x h = some ds) (hk : x ≠ .ref n) (hl : x.isErr = false) (h0 : 0 < ds.length) (h1 : ds.length < 1073741824) :
    ∃ (r : D) (h' : Hc), m__law_one [.ref n, x] h = .ok r h' ∧ r ∈ ds ∧ Go n h h' := by
  obtain ⟨r, h', e, i, b, m, d0, rfl, m0, m1⟩ := (one_set s hx hk hl h0 h1).eq
  exact ⟨r, _, e, List.mem_of_getElem? d0, Go.take s m0 m1⟩
theorem at_last {l : List D} {d : D} (z : l.getLast? = some d) : L2.atI l (-1) = some d := by
  rw [List.getLast?_eq_getElem?] at z
  have hl := (List.getElem?_eq_some_iff.mp z).1
  unfold L2.atI L2.ixN
  rw [if_neg (by decide), if_pos (by omega)]
  have e : ((-1 : Int) + (l.length : Nat)).toNat = l.length - 1 := by omega
  rw [e]
  exact z

def cnt : List Int → List (List Int) → Int → Nat → List Int
  | born, [], now, d => [now + (born.count (d : Int) : Nat)]
  | born, p :: r, now, d => (now + (born.count (d : Int) : Nat)) :: cnt born r (now + (born.count (d : Int) : Nat) - p.sum + p.length) (d + 1)

def lessL (p : List Int) : Int := p.sum - p.length
def lostL : List (List Int) → Int
  | [] => 0
  | p :: r => lessL p + lostL r
def bornBy (b : List Int) (d : Int) : Int := ((b.filter fun x => decide (x ≤ d)).length : Nat)
theorem bornBy_cons {x : Int} {l : List Int} {d : Int} : bornBy (x :: l) d = (if x ≤ d then 1 else 0) + bornBy l d := by
  unfold bornBy
  rw [List.filter_cons]
  by_cases c : x ≤ d
  · simp [c]; omega
  · simp [c]
theorem bornBy_next : ∀ (l : List Int) (d : Int), bornBy l (d + 1) = bornBy l d + (l.count (d + 1) : Nat)
  | [], _ => rfl
  | x :: l, d => by
    rw [bornBy_cons, bornBy_cons, bornBy_next l d, List.count_cons]
    by_cases c : x ≤ d
    · have c2 : x ≤ d + 1 := by omega
      have c3 : ¬ x = d + 1 := by omega
      simp [c, c2, c3]; omega
    · by_cases c3 : x = d + 1
      · simp [c, c3]; omega
      · have c2 : ¬ x ≤ d + 1 := by omega
        simp [c, c2, c3]
theorem bornBy_neg : ∀ (l : List Int), (∀ x ∈ l, 0 ≤ x) → bornBy l (-1) = 0
  | [], _ => rfl
  | x :: l, h => by
    rw [bornBy_cons, bornBy_neg l fun y hy => h y (by simp [hy])]
    have := h x (by simp)
    rw [if_neg (by omega)]; rfl
theorem lostL_snoc : ∀ (l : List (List Int)) (p : List Int), lostL (l ++ [p]) = lostL l + lessL p
  | [], p => by simp [lostL]
  | q :: l, p => by
    simp only [List.cons_append, lostL, lostL_snoc l p]
    omega
structure PatV (p : List Int) : Prop where
  two : ∀ x ∈ p, 2 ≤ x
  fall : ∀ (i : Nat) (h : i + 1 < p.length), p[i + 1] ≤ p[i]
theorem num_int {i : Int} {h : Hc} : m_is_number [.int i] h = .ok (.bl true) h := by
  unfold m_is_number runD b_is_number
  simp [q_bok, q_bxn, q_ofok, q_ofxn, q_vo, q_var, q_k, q_c1, q_c2, q_nil, q_cons, q_c, q_call, q_callK, pick, q_b, q_tru, q_not, q_and, q_or, q_ifE, q_andV, q_orV, q_notV, q_chain, q_seq, q_tnx, q_trt, q_txn, q_tbk, q_tct, q_skip, q_drop, q_ret, q_retN, q_bk, q_ct, q_set, q_par, q_par3, q_if, q_raise, q_mt, q_mt0, q_end0, q_endr, q_endx, q_lt, q_le, q_gt, q_ge, q_sub, q_add, q_neg, q_inti, q_intb, q_max, q_min, q_lenT, q_lenF, q_truT, q_truF, q_truB, q_truI, q_ixT, q_ixF, at_0, at_1, er_int, er_bl, er_str, er_non, er_tup, er_flst, er_ref, er_obj, er_ty, er_gl, q_lst, q_tup, q_cutT, q_pn, q_ps, q_slT, q_itS, seqL_t, sz_0, sz_1, sz_2, sz_3, sz_4, sz_5, sz_6, sz_7, sz_8, sz_9, sz_10, sz_11, sz_12, sz_13, sz_14, isi_int, isi_intb]
theorem pat_ok {p : List Int} {h : Hc} (v : PatV p) (hl : p.length ≤ 100) : wE (m_is_pattern [iT p] h) fun r h' => r = .bl true ∧ ∃ l, h' = h ++ l := by
  have sz : (200 : Nat) < sizeLine := by decide
  obtain ⟨A, gA, c1⟩ : ∃ A : List Bool, A.all id = true ∧ cCompB (.nm 2) cYes (cAndV (cCall m_is_number (cCons (cVar 2) cNil)) (Sx.c2 gGe (cVar 2) (cK (.int 2)))) (wipeD [some (iT p), none, none] [2]) (iL p) h = .ok (A.map D.bl) h := by
    refine ⟨p.map fun _ => true, by simp, ?_⟩
    rw [List.map_map]
    refine comp_all D.int _ p fun a ha => ⟨_, rfl, ?_⟩
    have := v.two a ha
    simp [q_bok, q_bxn, q_ofok, q_ofxn, q_vo, q_var, q_k, q_c1, q_c2, q_nil, q_cons, q_c, q_call, q_callK, pick, q_b, q_tru, q_not, q_and, q_or, q_ifE, q_andV, q_orV, q_notV, q_chain, q_seq, q_tnx, q_trt, q_txn, q_tbk, q_tct, q_skip, q_drop, q_ret, q_retN, q_bk, q_ct, q_set, q_par, q_par3, q_if, q_raise, q_mt, q_mt0, q_end0, q_endr, q_endx, q_lt, q_le, q_gt, q_ge, q_sub, q_add, q_neg, q_inti, q_intb, q_max, q_min, q_lenT, q_lenF, q_truT, q_truF, q_truB, q_truI, q_ixT, q_ixF, at_0, at_1, er_int, er_bl, er_str, er_non, er_tup, er_flst, er_ref, er_obj, er_ty, er_gl, q_lst, q_tup, q_cutT, q_pn, q_ps, q_slT, q_itS, seqL_t, sz_0, sz_1, sz_2, sz_3, sz_4, sz_5, sz_6, sz_7, sz_8, sz_9, sz_10, sz_11, sz_12, sz_13, sz_14, wipeD, num_int, this]
  have d1 := q_comp (ci := cItS (cVar 0)) (l := iL p) (h := h) (ρ := [some (iT p), none, none]) (vs := [2]) (by simp [q_bok, q_bxn, q_ofok, q_ofxn, q_vo, q_var, q_k, q_c1, q_c2, q_nil, q_cons, q_c, q_call, q_callK, pick, q_b, q_tru, q_not, q_and, q_or, q_ifE, q_andV, q_orV, q_notV, q_chain, q_seq, q_tnx, q_trt, q_txn, q_tbk, q_tct, q_skip, q_drop, q_ret, q_retN, q_bk, q_ct, q_set, q_par, q_par3, q_if, q_raise, q_mt, q_mt0, q_end0, q_endr, q_endx, q_lt, q_le, q_gt, q_ge, q_sub, q_add, q_neg, q_inti, q_intb, q_max, q_min, q_lenT, q_lenF, q_truT, q_truF, q_truB, q_truI, q_ixT, q_ixF, at_0, at_1, er_int, er_bl, er_str, er_non, er_tup, er_flst, er_ref, er_obj, er_ty, er_gl, q_lst, q_tup, q_cutT, q_pn, q_ps, q_slT, q_itS, seqL_t, sz_0, sz_1, sz_2, sz_3, sz_4, sz_5, sz_6, sz_7, sz_8, sz_9, sz_10, sz_11, sz_12, sz_13, sz_14]) (by simp; omega) c1
  generalize hh : h ++ [(false, O.lst (A.map D.bl))] = h1 at d1
  have g1 : gAll [.ref h.length] h1 = some (.bl true, h1) := by rw [← hh, q_allR get_new, gA]
  obtain ⟨B, gB, c2⟩ : ∃ B : List Bool, B.all id = true ∧ cCompB (.nm 1) cYes (Sx.c2 gGe (Sx.c2 gIx (cVar 0) (Sx.c2 gSub (cVar 1) (cK (.int 1)))) (Sx.c2 gIx (cVar 0) (cVar 1))) (wipeD [some (iT p), none, none] [1]) ((List.range ((p.length : Int) - 1).toNat).map fun (k : Nat) => .int (1 + (k : Int))) h1 = .ok (B.map D.bl) h1 := by
    refine ⟨(List.range ((p.length : Int) - 1).toNat).map fun _ => true, by simp, ?_⟩
    rw [List.map_map]
    refine comp_all (fun (k : Nat) => .int (1 + (k : Int))) _ (List.range ((p.length : Int) - 1).toNat) fun a ha => ⟨_, asg_nm, ?_⟩
    have ha2 : a < ((p.length : Int) - 1).toNat := by simpa using ha
    have hlt : a + 1 < p.length := by omega
    have i1 : L2.atI (iL p) (1 + (a : Int)) = some (.int p[a + 1]) := by
      have := at_nat (l := iL p) (i := a + 1) (d := .int p[a + 1]) (by simp [hlt])
      have e : ((a + 1 : Nat) : Int) = 1 + (a : Int) := by omega
      rwa [e] at this
    have i2 : L2.atI (iL p) (1 + (a : Int) - 1) = some (.int p[a]) := by
      have := at_nat (l := iL p) (i := a) (d := .int p[a]) (by simp [Nat.lt_of_succ_lt hlt])
      have e : 1 + (a : Int) - 1 = (a : Int) := by omega
      rw [e]; exact this
    have f := v.fall a hlt
    simp only [q_c2, q_var, q_k, wipeD, List.set_cons_succ, List.set_cons_zero, List.getElem?_cons_succ, List.getElem?_cons_zero, er_tup, er_int, Bool.false_eq_true, if_false, q_bok, q_sub, q_vo, q_ixT, i1, i2, q_ge, f, decide_true, Function.comp]
  have d2 := q_comp (ci := cItR2 (cK (.int 1)) (cC gLen (cCons (cVar 0) cNil))) (l := (List.range ((p.length : Int) - 1).toNat).map fun (k : Nat) => .int (1 + (k : Int))) (h := h1) (ρ := [some (iT p), none, none]) (vs := [1])
    (q_itR2 (h1 := h1) (by simp [q_bok, q_bxn, q_ofok, q_ofxn, q_vo, q_var, q_k, q_c1, q_c2, q_nil, q_cons, q_c, q_call, q_callK, pick, q_b, q_tru, q_not, q_and, q_or, q_ifE, q_andV, q_orV, q_notV, q_chain, q_seq, q_tnx, q_trt, q_txn, q_tbk, q_tct, q_skip, q_drop, q_ret, q_retN, q_bk, q_ct, q_set, q_par, q_par3, q_if, q_raise, q_mt, q_mt0, q_end0, q_endr, q_endx, q_lt, q_le, q_gt, q_ge, q_sub, q_add, q_neg, q_inti, q_intb, q_max, q_min, q_lenT, q_lenF, q_truT, q_truF, q_truB, q_truI, q_ixT, q_ixF, at_0, at_1, er_int, er_bl, er_str, er_non, er_tup, er_flst, er_ref, er_obj, er_ty, er_gl, q_lst, q_tup, q_cutT, q_pn, q_ps, q_slT, q_itS, seqL_t, sz_0, sz_1, sz_2, sz_3, sz_4, sz_5, sz_6, sz_7, sz_8, sz_9, sz_10, sz_11, sz_12, sz_13, sz_14]) (j := (p.length : Nat)) (by simp [q_bok, q_bxn, q_ofok, q_ofxn, q_vo, q_var, q_k, q_c1, q_c2, q_nil, q_cons, q_c, q_call, q_callK, pick, q_b, q_tru, q_not, q_and, q_or, q_ifE, q_andV, q_orV, q_notV, q_chain, q_seq, q_tnx, q_trt, q_txn, q_tbk, q_tct, q_skip, q_drop, q_ret, q_retN, q_bk, q_ct, q_set, q_par, q_par3, q_if, q_raise, q_mt, q_mt0, q_end0, q_endr, q_endx, q_lt, q_le, q_gt, q_ge, q_sub, q_add, q_neg, q_inti, q_intb, q_max, q_min, q_lenT, q_lenF, q_truT, q_truF, q_truB, q_truI, q_ixT, q_ixF, at_0, at_1, er_int, er_bl, er_str, er_non, er_tup, er_flst, er_ref, er_obj, er_ty, er_gl, q_lst, q_tup, q_cutT, q_pn, q_ps, q_slT, q_itS, seqL_t, sz_0, sz_1, sz_2, sz_3, sz_4, sz_5, sz_6, sz_7, sz_8, sz_9, sz_10, sz_11, sz_12, sz_13, sz_14]) (by omega) (by omega) (by omega) (by omega)) (by simp; omega) c2
  have g2 := q_allR (l := B) (get_new (h := h1) (p := (false, .lst (B.map D.bl))))
  rw [gB] at g2
  refine wE.of (a := .bl true) (h := h1 ++ [(false, .lst (B.map D.bl))]) ?_ ⟨rfl, [(false, .lst (A.map D.bl)), (false, .lst (B.map D.bl))], by rw [← hh]; simp⟩
  unfold m_is_pattern runD b_is_pattern
  simp [q_bok, q_bxn, q_ofok, q_ofxn, q_vo, q_var, q_k, q_c1, q_c2, q_nil, q_cons, q_c, q_call, q_callK, pick, q_b, q_tru, q_not, q_and, q_or, q_ifE, q_andV, q_orV, q_notV, q_chain, q_seq, q_tnx, q_trt, q_txn, q_tbk, q_tct, q_skip, q_drop, q_ret, q_retN, q_bk, q_ct, q_set, q_par, q_par3, q_if, q_raise, q_mt, q_mt0, q_end0, q_endr, q_endx, q_lt, q_le, q_gt, q_ge, q_sub, q_add, q_neg, q_inti, q_intb, q_max, q_min, q_lenT, q_lenF, q_truT, q_truF, q_truB, q_truI, q_ixT, q_ixF, at_0, at_1, er_int, er_bl, er_str, er_non, er_tup, er_flst, er_ref, er_obj, er_ty, er_gl, q_lst, q_tup, q_cutT, q_pn, q_ps, q_slT, q_itS, seqL_t, sz_0, sz_1, sz_2, sz_3, sz_4, sz_5, sz_6, sz_7, sz_8, sz_9, sz_10, sz_11, sz_12, sz_13, sz_14, isi_tup, d1, d2, g1, g2]

structure CalV (born : List Int) (days : List (List Int)) : Prop where
  b1 : 1 ≤ born.length
  b2 : born.length ≤ 12
  d2 : days.length ≤ 11
  pat : ∀ p ∈ days, PatV p ∧ p ≠ [] ∧ p.length ≤ 100
  inb : ∀ x ∈ born, 0 ≤ x ∧ x ≤ days.length
  few : ∀ (d : Nat) (p : List Int) (n : Int), days[d]? = some p → (cnt born days 0 0)[d]? = some n → p.sum ≤ n

structure Kp (n : Nat) (h : Hc) (L : List (Nat × List D)) (h1 : Hc) : Prop where
  go : Go n h h1
  at_ : ∀ a c, (a, c) ∈ L → h1[a]? = some (false, .lst c)
  far : ∀ a c, (a, c) ∈ L → h.length ≤ a
section
variable {n : Nat} {h h1 h2 : Hc} {L : List (Nat × List D)}
theorem Kp.app (k : Kp n h L h1) (l : Hc) : Kp n h L (h1 ++ l) :=
  ⟨k.go.app l, fun a c m => by rw [List.getElem?_append_left (List.getElem?_eq_some_iff.mp (k.at_ a c m)).1]; exact k.at_ a c m, k.far⟩
theorem Kp.step (k : Kp n h L h1) (hn : n < h.length) (g : Go n h1 h2) : Kp n h L h2 :=
  ⟨k.go.trans g, fun a c m => (g.keep a (List.getElem?_eq_some_iff.mp (k.at_ a c m)).1 (by have := k.far a c m; omega)).trans (k.at_ a c m), k.far⟩
theorem Kp.add (k : Kp n h L h1) (c : List D) : Kp n h ((h1.length, c) :: L) (h1 ++ [(false, .lst c)]) :=
  ⟨k.go.app _, fun a x m => by
    rcases List.mem_cons.mp m with z | z
    · cases z; exact get_new
    · exact (k.app _).at_ a x z, fun a x m => by
    rcases List.mem_cons.mp m with z | z
    · cases z; exact k.go.len
    · exact k.far a x z⟩
theorem Kp.sub {L' : List (Nat × List D)} (k : Kp n h L h1) (s : ∀ p ∈ L', p ∈ L) : Kp n h L' h1 := ⟨k.go, fun a c m => k.at_ a c (s _ m), fun a c m => k.far a c (s _ m)⟩
theorem Kp.put {a : Nat} {c c' : List D} (k : Kp n h ((a, c) :: L) h1) (hn : n < h.length) (ne : ∀ p ∈ L, p.1 ≠ a) : Kp n h ((a, c') :: L) (h1.set a (false, .lst c')) :=
  ⟨k.go.put (k.far a c (by simp)) hn _, fun b x m => by
    rcases List.mem_cons.mp m with z | z
    · cases z; exact get_set (k.at_ a c (by simp))
    · rw [List.getElem?_set_ne (Ne.symm (ne _ z))]; exact k.at_ b x (by simp [z]), fun b x m => by
    rcases List.mem_cons.mp m with z | z
    · cases z; exact k.far a c (by simp)
    · exact k.far b x (by simp [z])⟩
end
theorem sum_len : ∀ (p : List Int), (∀ x ∈ p, 2 ≤ x) → (p.length : Int) ≤ p.sum
  | [], _ => by simp
  | x :: p, h => by
    have := sum_len p fun y hy => h y (by simp [hy])
    have := h x (by simp)
    simp; omega
theorem PatV.less {p : List Int} (v : PatV p) : 0 ≤ lessL p := by
  have := sum_len p v.two
  unfold lessL; omega
structure DaysV (W : List Int) (D : List (List Int)) : Prop where
  pat : ∀ p ∈ D, PatV p ∧ p ≠ [] ∧ p.length ≤ 100
  few : ∀ (i : Nat) (p : List Int), D[i]? = some p → p.sum ≤ bornBy W i - lostL (D.take i)
theorem DaysV.snoc {W : List Int} {D : List (List Int)} {p : List Int} (v : DaysV W D) (h1 : PatV p ∧ p ≠ [] ∧ p.length ≤ 100) (h2 : p.sum ≤ bornBy W D.length - lostL D) : DaysV W (D ++ [p]) := by
  refine ⟨fun q hq => ?_, fun i q hq => ?_⟩
  · rcases List.mem_append.mp hq with z | z
    · exact v.pat q z
    · rw [List.mem_singleton.mp z]; exact h1
  · by_cases c : i < D.length
    · rw [List.getElem?_append_left c] at hq
      rw [List.take_append_of_le_length (Nat.le_of_lt c)]
      exact v.few i q hq
    · have hi := (List.getElem?_eq_some_iff.mp hq).1
      have e : i = D.length := by simp at hi; omega
      subst e
      simp at hq
      subst hq
      simpa using h2

end Gk

set_option Elab.async false
set_option linter.all false
set_option maxRecDepth 100000
namespace Gk
open PySem Sx
abbrev AL := List (Int × List Int)
def gotA : AL → Int → Option (List Int)
  | [], _ => none
  | e :: r, k => if e.1 = k then some e.2 else gotA r k
def putA (al : AL) (k : Int) (l : List Int) : AL := if (gotA al k).isSome then al.map (fun e => if e.1 = k then (e.1, l) else e) else al ++ [(k, l)]
def dropA (al : AL) (k : Int) : AL := al.filter fun e => !decide (e.1 = k)
abbrev keys (al : AL) : List Int := al.map (·.1)
theorem got_mem (k : Int) : ∀ al : AL, (gotA al k).isSome = true ↔ k ∈ keys al
  | [] => by simp [gotA]
  | e :: r => by
    have ih := got_mem k r
    simp only [gotA, keys, List.map_cons, List.mem_cons]
    by_cases c : e.1 = k
    · simp [c]
    · rw [if_neg c, ih]
      constructor
      · exact .inr
      · rintro (z | z)
        · exact absurd z.symm c
        · exact z
theorem got_some {k : Int} {al : AL} (h : k ∈ keys al) : ∃ l, gotA al k = some l := Option.isSome_iff_exists.mp ((got_mem k al).mpr h)
theorem got_app (k : Int) : ∀ a b : AL, gotA (a ++ b) k = match gotA a k with | some l => some l | none => gotA b k
  | [], b => rfl
  | e :: r, b => by
    simp only [List.cons_append, gotA]
    by_cases c : e.1 = k
    · rw [if_pos c, if_pos c]
    · rw [if_neg c, if_neg c]; exact got_app k r b
theorem got_map (k : Int) (l : List Int) (j : Int) : ∀ al : AL, gotA (al.map fun e => if e.1 = k then (e.1, l) else e) j = if k = j then (gotA al j).map (fun _ => l) else gotA al j
  | [] => by simp [gotA]
  | e :: r => by
    have ih := got_map k l j r
    rw [List.map_cons]
    by_cases c : e.1 = k
    · rw [if_pos c]
      simp only [gotA]
      by_cases d : e.1 = j
      · have : k = j := c.symm.trans d
        rw [if_pos d, if_pos this, if_pos d]; rfl
      · rw [if_neg d, ih, if_neg d]
    · rw [if_neg c]
      simp only [gotA]
      by_cases d : e.1 = j
      · have : ¬ k = j := fun z => c (d.trans z.symm)
        rw [if_pos d, if_neg this, if_pos d]
      · rw [if_neg d, ih, if_neg d]
theorem got_put (al : AL) (k : Int) (l : List Int) (j : Int) : gotA (putA al k l) j = if k = j then some l else gotA al j := by
  unfold putA
  by_cases c : (gotA al k).isSome = true
  · rw [if_pos c, got_map]
    by_cases d : k = j
    · subst d
      rw [if_pos rfl, if_pos rfl]
      obtain ⟨x, hx⟩ := Option.isSome_iff_exists.mp c
      rw [hx]; rfl
    · rw [if_neg d, if_neg d]
  · rw [if_neg c, got_app]
    by_cases d : k = j
    · subst d
      rw [if_pos rfl]
      have : gotA al k = none := by
        cases q : gotA al k with
        | none => rfl
        | some x => rw [q] at c; exact absurd rfl c
      rw [this]
      simp [gotA]
    · rw [if_neg d]
      cases gotA al j with
      | none => simp [gotA, d]
      | some x => rfl
theorem got_drop (k j : Int) : ∀ al : AL, gotA (dropA al k) j = if k = j then none else gotA al j
  | [] => by simp [dropA, gotA]
  | e :: r => by
    have ih := got_drop k j r
    unfold dropA at ih ⊢
    rw [List.filter_cons]
    by_cases c : e.1 = k
    · rw [decide_eq_true c, if_neg (by decide), ih]
      by_cases d : k = j
      · rw [if_pos d, if_pos d]
      · rw [if_neg d, if_neg d]
        simp only [gotA]
        rw [if_neg fun z => d (c.symm.trans z)]
    · rw [decide_eq_false c, if_pos (by decide)]
      simp only [gotA]
      by_cases d : e.1 = j
      · rw [if_pos d, if_neg fun z => c (d.trans z.symm), if_pos d]
      · rw [if_neg d, ih, if_neg d]
theorem keys_put (al : AL) (k : Int) (l : List Int) : keys (putA al k l) = if k ∈ keys al then keys al else keys al ++ [k] := by
  unfold putA
  by_cases c : k ∈ keys al
  · rw [if_pos ((got_mem k al).mpr c), if_pos c]
    simp only [keys, List.map_map]
    apply List.map_congr_left
    intro e _
    by_cases q : e.1 = k <;> simp [Function.comp, q]
  · rw [if_neg fun z => c ((got_mem k al).mp z), if_neg c]
    simp [keys]
theorem keys_drop (al : AL) (k : Int) : keys (dropA al k) = (keys al).filter fun j => !decide (j = k) := by
  unfold dropA keys
  rw [List.filter_map]
  rfl
theorem nd_put {al : AL} {k : Int} {l : List Int} (h : (keys al).Nodup) : (keys (putA al k l)).Nodup := by
  rw [keys_put]
  by_cases c : k ∈ keys al
  · rw [if_pos c]; exact h
  · rw [if_neg c, List.nodup_append]
    refine ⟨h, by simp, fun a ha b hb z => ?_⟩
    simp at hb; subst hb; subst z
    exact c ha
theorem nd_drop {al : AL} {k : Int} (h : (keys al).Nodup) : (keys (dropA al k)).Nodup := by
  rw [keys_drop]; exact h.filter _
theorem asc_ext : ∀ {a b : List Int}, a.Pairwise (· < ·) → b.Pairwise (· < ·) → (∀ x, x ∈ a ↔ x ∈ b) → a = b
  | [], [], _, _, _ => rfl
  | [], y :: b, _, _, h => absurd ((h y).mpr (by simp)) (by simp)
  | x :: a, [], _, _, h => absurd ((h x).mp (by simp)) (by simp)
  | x :: a, y :: b, ha, hb, h => by
    obtain ⟨a1, a2⟩ := List.pairwise_cons.mp ha
    obtain ⟨b1, b2⟩ := List.pairwise_cons.mp hb
    have xy : x = y := by
      rcases List.mem_cons.mp ((h x).mp (by simp)) with z | z
      · exact z
      · rcases List.mem_cons.mp ((h y).mpr (by simp)) with w | w
        · exact w.symm
        · have := a1 y w
          have := b1 x z
          omega
    subst xy
    congr 1
    refine asc_ext a2 b2 fun z => ?_
    constructor
    · intro hz
      rcases List.mem_cons.mp ((h z).mp (by simp [hz])) with w | w
      · have := a1 z hz; omega
      · exact w
    · intro hz
      rcases List.mem_cons.mp ((h z).mpr (by simp [hz])) with w | w
      · have := b1 z hz; omega
      · exact w
theorem sortI_mem {x : Int} {l : List Int} : x ∈ sortI l ↔ x ∈ l := (sortI_perm l).mem_iff
theorem sortI_asc {l : List Int} (h : l.Nodup) : (sortI l).Pairwise (· < ·) := by
  have s := sortI_sorted l
  have n : (sortI l).Nodup := (sortI_perm l).nodup_iff.mpr h
  have := s.and n
  exact this.imp fun ⟨a, b⟩ => by omega
def popA : AL → List Int → AL × List Int
  | al, [] => (al, [])
  | al, k :: g => ((popA (dropA al k) g).1, (gotA al k).getD [] ++ (popA (dropA al k) g).2)
def grpA (al : AL) (g : List Int) : AL := putA (popA al g).1 (g.headD 0) (sortI (popA al g).2)
def rowA (al : AL) (row : List (List Int)) : AL := row.foldl grpA al
def allA (al : AL) (g : List Int) : List Int := (g.map fun k => (gotA al k).getD []).flatten
theorem got_pop (j : Int) : ∀ (g : List Int) (al : AL), gotA (popA al g).1 j = if j ∈ g then none else gotA al j
  | [], al => by simp [popA]
  | k :: g, al => by
    rw [popA, got_pop j g, got_drop]
    by_cases c : j = k
    · subst c; simp
    · have c2 : ¬ k = j := fun z => c z.symm
      simp [c, c2]
theorem pop_all : ∀ (g : List Int) (al : AL), g.Nodup → (popA al g).2 = allA al g
  | [], al, _ => rfl
  | k :: g, al, h => by
    obtain ⟨h1, h2⟩ := List.nodup_cons.mp h
    rw [popA, pop_all g _ h2]
    unfold allA
    rw [List.map_cons, List.flatten_cons]
    have e : (g.map fun j => (gotA (dropA al k) j).getD []) = g.map fun j => (gotA al j).getD [] := by
      apply List.map_congr_left
      intro j hj
      rw [got_drop, if_neg]
      rintro rfl
      exact h1 hj
    rw [e]
theorem nd_pop : ∀ (g : List Int) (al : AL), (keys al).Nodup → (keys (popA al g).1).Nodup
  | [], al, h => h
  | k :: g, al, h => nd_pop g _ (nd_drop h)
theorem nd_grp {al : AL} {g : List Int} (h : (keys al).Nodup) : (keys (grpA al g)).Nodup := nd_put (nd_pop g al h)
theorem nd_row : ∀ (row : List (List Int)) (al : AL), (keys al).Nodup → (keys (rowA al row)).Nodup
  | [], al, h => h
  | g :: row, al, h => nd_row row (grpA al g) (nd_grp h)
theorem got_grp {al : AL} {g : List Int} (nd : g.Nodup) (j : Int) : gotA (grpA al g) j = if g.headD 0 = j then some (sortI (allA al g)) else if j ∈ g then none else gotA al j := by
  unfold grpA
  rw [got_put, pop_all g al nd, got_pop]
structure GrpOk (al : AL) (g : List Int) : Prop where
  ne : g ≠ []
  nd : g.Nodup
  live : ∀ k ∈ g, k ∈ keys al
def RowOk : AL → List (List Int) → Prop
  | _, [] => True
  | al, g :: r => GrpOk al g ∧ RowOk (grpA al g) r
theorem head_mem {g : List Int} (h : g ≠ []) : g.headD 0 ∈ g := by
  cases g with
  | nil => exact absurd rfl h
  | cons k g => simp
theorem keys_grp {al : AL} {g : List Int} (o : GrpOk al g) (j : Int) : j ∈ keys (grpA al g) ↔ j ∈ keys al ∧ j ∉ g.tail := by
  rw [← got_mem, got_grp o.nd]
  obtain ⟨k, r, rfl⟩ := List.exists_cons_of_ne_nil o.ne
  have n := List.nodup_cons.mp o.nd
  by_cases c : k = j
  · subst c
    have := o.live k (by simp)
    simp [this, n.1]
  · have c2 : ¬ j = k := fun z => c z.symm
    show (if k = j then _ else if j ∈ k :: r then none else gotA al j).isSome = true ↔ _
    rw [if_neg c]
    by_cases d : j ∈ r
    · rw [if_pos (by simp [d])]
      simp [d]
    · rw [if_neg (by simp [d, c2]), got_mem]
      simp [d]
def tails (row : List (List Int)) : List Int := (row.map List.tail).flatten
theorem keys_row : ∀ (row : List (List Int)) (al : AL), RowOk al row → ∀ j, j ∈ keys (rowA al row) ↔ j ∈ keys al ∧ j ∉ tails row
  | [], al, _, j => by simp [rowA, tails]
  | g :: row, al, o, j => by
    have ih := keys_row row (grpA al g) o.2 j
    show j ∈ keys (rowA (grpA al g) row) ↔ _
    rw [ih, keys_grp o.1]
    simp only [tails, List.map_cons, List.flatten_cons, List.mem_append, not_or]
    exact and_assoc
theorem rowOk_of : ∀ (row : List (List Int)) (al : AL), (∀ g ∈ row, g ≠ []) → row.flatten.Nodup → (∀ g ∈ row, ∀ k ∈ g, k ∈ keys al) → RowOk al row
  | [], _, _, _, _ => trivial
  | g :: row, al, h1, h2, h3 => by
    rw [List.flatten_cons, List.nodup_append] at h2
    obtain ⟨n1, n2, n3⟩ := h2
    have o : GrpOk al g := ⟨h1 g (by simp), n1, h3 g (by simp)⟩
    refine ⟨o, rowOk_of row _ (fun g' hg => h1 g' (by simp [hg])) n2 fun g' hg k hk => ?_⟩
    rw [keys_grp o]
    refine ⟨h3 g' (by simp [hg]) k hk, fun z => ?_⟩
    exact n3 k (List.mem_of_mem_tail z) k (List.mem_flatten.mpr ⟨g', hg, hk⟩) rfl
theorem len_drop {al : AL} {k : Int} (nd : (keys al).Nodup) (h : k ∈ keys al) : (dropA al k).length + 1 = al.length := by
  have e : (dropA al k).length = (keys (dropA al k)).length := by simp [keys]
  have e2 : al.length = (keys al).length := by simp [keys]
  rw [e, e2, keys_drop]
  generalize keys al = K at nd h
  induction K with
  | nil => simp at h
  | cons x K ih =>
    obtain ⟨n1, n2⟩ := List.nodup_cons.mp nd
    rw [List.filter_cons]
    by_cases c : x = k
    · subst c
      rw [decide_eq_true rfl, if_neg (by decide)]
      have : K.filter (fun j => !decide (j = x)) = K := by
        apply List.filter_eq_self.mpr
        intro j hj
        rw [decide_eq_false]; rfl
        rintro rfl
        exact n1 hj
      rw [this]; rfl
    · rw [decide_eq_false c, if_pos (by decide), List.length_cons, List.length_cons]
      have : k ∈ K := by
        rcases List.mem_cons.mp h with z | z
        · exact absurd z.symm c
        · exact z
      have := ih n2 this
      omega
theorem len_pop : ∀ (g : List Int) (al : AL), (keys al).Nodup → g.Nodup → (∀ k ∈ g, k ∈ keys al) → (popA al g).1.length + g.length = al.length
  | [], al, _, _, _ => rfl
  | k :: g, al, nd, ng, h => by
    obtain ⟨n1, n2⟩ := List.nodup_cons.mp ng
    have a := len_drop nd (h k (by simp))
    have b := len_pop g (dropA al k) (nd_drop nd) n2 fun j hj => by
      rw [keys_drop, List.mem_filter]
      refine ⟨h j (by simp [hj]), ?_⟩
      rw [decide_eq_false]; rfl
      rintro rfl
      exact n1 hj
    rw [popA, List.length_cons]
    show (popA (dropA al k) g).1.length + (g.length + 1) = al.length
    omega
theorem len_grp {al : AL} {g : List Int} (nd : (keys al).Nodup) (o : GrpOk al g) : (grpA al g).length + g.length = al.length + 1 := by
  have a := len_pop g al nd o.nd o.live
  have e : (grpA al g).length = (keys (grpA al g)).length := by simp [keys]
  have e2 : (popA al g).1.length = (keys (popA al g).1).length := by simp [keys]
  have nk : g.headD 0 ∉ keys (popA al g).1 := by
    rw [← got_mem, got_pop, if_pos (head_mem o.ne)]; simp
  rw [e]
  unfold grpA
  rw [keys_put, if_neg nk, List.length_append, ← e2]
  simp
  omega
theorem len_row : ∀ (row : List (List Int)) (al : AL), (keys al).Nodup → RowOk al row → (rowA al row).length + row.flatten.length = al.length + row.length
  | [], al, _, _ => rfl
  | g :: row, al, nd, o => by
    have a := len_grp nd o.1
    have b := len_row row (grpA al g) (nd_grp nd) o.2
    show (rowA (grpA al g) row).length + _ = _
    simp only [List.flatten_cons, List.length_append, List.length_cons]
    omega

def wA : AL → Nat
  | [] => 0
  | e :: r => e.2.length + wA r
theorem wA_filter (k : Int) : ∀ al : AL, wA (dropA al k) ≤ wA al
  | [] => Nat.le_refl _
  | e :: r => by
    have ih := wA_filter k r
    unfold dropA at ih ⊢
    rw [List.filter_cons]
    by_cases c : e.1 = k
    · rw [decide_eq_true c, if_neg (by decide)]
      simp only [wA]; omega
    · rw [decide_eq_false c, if_pos (by decide)]
      simp only [wA]; omega
theorem wA_drop {k : Int} {l : List Int} : ∀ {al : AL}, gotA al k = some l → wA (dropA al k) + l.length ≤ wA al
  | [], h => by cases h
  | e :: r, h => by
    unfold dropA
    rw [List.filter_cons]
    simp only [gotA] at h
    by_cases c : e.1 = k
    · rw [if_pos c] at h
      cases h
      rw [decide_eq_true c, if_neg (by decide)]
      have := wA_filter k r
      unfold dropA at this
      simp only [wA]; omega
    · rw [if_neg c] at h
      have ih := wA_drop h
      unfold dropA at ih
      rw [decide_eq_false c, if_pos (by decide)]
      simp only [wA]; omega
theorem wA_app : ∀ a b : AL, wA (a ++ b) = wA a + wA b
  | [], b => by simp [wA]
  | e :: r, b => by
    simp only [List.cons_append, wA, wA_app r b]; omega
theorem wA_new {al : AL} {k : Int} {l : List Int} (h : k ∉ keys al) : wA (putA al k l) = wA al + l.length := by
  unfold putA
  rw [if_neg fun z => h ((got_mem k al).mp z), wA_app]
  simp [wA]
theorem wA_pop : ∀ (g : List Int) (al : AL), (∀ k ∈ g, k ∈ keys al) → g.Nodup → wA (popA al g).1 + (popA al g).2.length ≤ wA al
  | [], al, _, _ => by simp [popA]
  | k :: g, al, h, ng => by
    obtain ⟨n1, n2⟩ := List.nodup_cons.mp ng
    obtain ⟨l, hl⟩ := got_some (h k (by simp))
    have a := wA_drop hl
    have b := wA_pop g (dropA al k) (fun j hj => by
      rw [keys_drop, List.mem_filter]
      refine ⟨h j (by simp [hj]), ?_⟩
      rw [decide_eq_false]; rfl
      rintro rfl
      exact n1 hj) n2
    simp only [popA, hl, Option.getD_some, List.length_append]
    omega
theorem wA_grp {al : AL} {g : List Int} (o : GrpOk al g) : wA (grpA al g) ≤ wA al := by
  have a := wA_pop g al o.live o.nd
  have nk : g.headD 0 ∉ keys (popA al g).1 := by
    rw [← got_mem, got_pop, if_pos (head_mem o.ne)]; simp
  unfold grpA
  rw [wA_new nk, (sortI_perm _).length_eq]
  exact a
section
variable {b : List Int} {ds : List (List Int)} {h : Hc}
def newF (d : Int) : List Int → Nat → AL → AL
  | [], _, al => al
  | x :: b, i, al => newF d b (i + 1) (if x = d then putA al i [(i : Int)] else al)
end

structure RowV (al : AL) (p : List Int) (row : List (List Int)) : Prop where
  ne : row ≠ []
  some_ : ∀ g ∈ row, g ≠ []
  asc : ∀ g ∈ row, g.Pairwise (· < ·)
  live : ∀ g ∈ row, ∀ k ∈ g, k ∈ keys al
  nd : row.flatten.Nodup
  srt : sortR row = row
  pat : (sortI (row.map fun g => (g.length : Int))).reverse = p
  len : row.length ≤ 12
  flen : row.flatten.length ≤ 12
theorem RowV.ok {al : AL} {p : List Int} {row : List (List Int)} (v : RowV al p row) : RowOk al row := rowOk_of row al v.some_ v.nd v.live
section
variable {b : List Int} {ds : List (List Int)} {h : Hc}
end

section
variable {b : List Int} {ds : List (List Int)} {h : Hc}
theorem new_at {d : Int} {n : Nat} : ∀ {b : List Int} {i : Nat} {al : AL}, b[n]? = some d → gotA (newF d b i al) ((i + n : Nat) : Int) = some [((i + n : Nat) : Int)] := by
  induction n with
  | zero =>
    intro b i al hb
    cases b with
    | nil => simp at hb
    | cons x b =>
      simp at hb
      subst hb
      rw [newF, if_pos rfl]
      have keep : ∀ (b : List Int) (i j : Nat) (al : AL), j < i → gotA (newF x b i al) (j : Int) = gotA al (j : Int) := by
        intro b
        induction b with
        | nil => intro i j al _; rfl
        | cons y b ih =>
          intro i j al hj
          rw [newF, ih _ _ _ (by omega)]
          split
          · rw [got_put, if_neg (by omega)]
          · rfl
      show gotA _ ((i : Nat) : Int) = some [((i : Nat) : Int)]
      rw [keep b (i + 1) i _ (by omega), got_put, if_pos rfl]
  | succ n ih =>
    intro b i al hb
    cases b with
    | nil => simp at hb
    | cons x b =>
      rw [newF]
      have := ih (b := b) (i := i + 1) (al := if x = d then putA al i [(i : Int)] else al) (by simpa using hb)
      have e : i + 1 + n = i + (n + 1) := by omega
      rw [e] at this
      exact this
theorem new_keep {d j : Int} : ∀ {b : List Int} {i : Nat} {al : AL}, (∀ n, b[n]? = some d → j ≠ ((i + n : Nat) : Int)) → gotA (newF d b i al) j = gotA al j
  | [], i, al, _ => rfl
  | x :: b, i, al, h => by
    rw [newF, new_keep (b := b) (i := i + 1) fun n hn => by
      have := h (n + 1) (by simpa using hn)
      have e : i + 1 + n = i + (n + 1) := by omega
      rw [e]; exact this]
    by_cases c : x = d
    · rw [if_pos c, got_put, if_neg]
      have := h 0 (by simp [c])
      simpa using Ne.symm this
    · rw [if_neg c]
theorem new_nd {d : Int} : ∀ {b : List Int} {i : Nat} {al : AL}, (keys al).Nodup → (keys (newF d b i al)).Nodup
  | [], _, _, h => h
  | x :: b, i, al, h => by
    rw [newF]
    refine new_nd ?_
    split
    · exact nd_put h
    · exact h
theorem new_len {d : Int} : ∀ {b : List Int} {i : Nat} {al : AL}, (∀ n, b[n]? = some d → ((i + n : Nat) : Int) ∉ keys al) → (newF d b i al).length = al.length + b.count d ∧ wA (newF d b i al) = wA al + b.count d
  | [], i, al, _ => by simp [newF]
  | x :: b, i, al, h => by
    rw [newF]
    by_cases c : x = d
    · rw [if_pos c]
      have h0 := h 0 (by simp [c])
      rw [Nat.add_zero] at h0
      have kp : keys (putA al i [(i : Int)]) = keys al ++ [(i : Int)] := by rw [keys_put, if_neg h0]
      obtain ⟨a, w⟩ := new_len (b := b) (i := i + 1) (al := putA al i [(i : Int)]) (d := d) fun n hn => by
        rw [kp, List.mem_append]
        have := h (n + 1) (by simpa using hn)
        have e : i + 1 + n = i + (n + 1) := by omega
        rw [e]
        rintro (z | z)
        · exact this z
        · simp at z; omega
      have l1 : (putA al i [(i : Int)]).length = al.length + 1 := by
        have e1 : (putA al i [(i : Int)]).length = (keys (putA al i [(i : Int)])).length := by simp [keys]
        rw [e1, kp]; simp
      have w1 := wA_new (l := [(i : Int)]) h0
      rw [a, w, l1, w1, c, List.count_cons_self]
      exact ⟨by omega, by rw [List.length_singleton]; omega⟩
    · rw [if_neg c]
      obtain ⟨a, w⟩ := new_len (b := b) (i := i + 1) (al := al) (d := d) fun n hn => by
        have := h (n + 1) (by simpa using hn)
        have e : i + 1 + n = i + (n + 1) := by omega
        rw [e]; exact this
      rw [a, w, List.count_cons_of_ne c]
      exact ⟨rfl, rfl⟩
theorem new_keys {d : Int} {b : List Int} {i : Nat} {al : AL} (k : Int) : k ∈ keys (newF d b i al) ↔ k ∈ keys al ∨ ∃ n, b[n]? = some d ∧ k = ((i + n : Nat) : Int) := by
  by_cases c : ∃ n, b[n]? = some d ∧ k = ((i + n : Nat) : Int)
  · obtain ⟨n, hn, rfl⟩ := c
    refine ⟨fun _ => .inr ⟨n, hn, rfl⟩, fun _ => ?_⟩
    rw [← got_mem, new_at hn]; rfl
  · have : gotA (newF d b i al) k = gotA al k := new_keep fun n hn z => c ⟨n, hn, z⟩
    rw [← got_mem, this, got_mem]
    exact ⟨.inl, fun z => z.resolve_right c⟩
def aheadA (b : List Int) (rows : List (List (List Int))) : Nat → AL
  | 0 => newF 0 b 0 []
  | d + 1 => newF ((d + 1 : Nat) : Int) b 0 (rowA (aheadA b rows d) (rows.getD d []))
def TrV (b : List Int) (ds : List (List Int)) (rows : List (List (List Int))) : Prop := ∀ (d : Nat) (row : List (List Int)) (p : List Int), rows[d]? = some row → ds[d]? = some p → RowV (aheadA b rows d) p row
structure AhV (b : List Int) (ds : List (List Int)) (d : Nat) (al : AL) : Prop where
  nd : (keys al).Nodup
  own : ∀ k ∈ keys al, ∃ (n : Nat) (v : Int), k = (n : Int) ∧ b[n]? = some v ∧ v ≤ d
  len : (al.length : Int) = bornBy b d - lostL (ds.take d)
  w : (wA al : Int) ≤ bornBy b d
theorem perm_sum {a b : List Int} (h : a.Perm b) : a.sum = b.sum := by
  induction h with
  | nil => rfl
  | cons x _ ih => rw [List.sum_cons, List.sum_cons, ih]
  | swap x y l => simp only [List.sum_cons]; omega
  | trans _ _ i1 i2 => exact i1.trans i2
theorem RowV.sizes {al : AL} {p : List Int} {row : List (List Int)} (v : RowV al p row) : p.sum = (row.flatten.length : Nat) ∧ p.length = row.length := by
  have e := v.pat
  have pm : p.Perm (row.map fun g => (g.length : Int)) := by
    rw [← e]
    exact (List.reverse_perm _).trans (sortI_perm _)
  refine ⟨?_, by rw [pm.length_eq, List.length_map]⟩
  have s : p.sum = (row.map fun g => (g.length : Int)).sum := perm_sum pm
  rw [s]
  have : ∀ row : List (List Int), (row.map fun g => (g.length : Int)).sum = (row.flatten.length : Nat) := by
    intro row
    induction row with
    | nil => rfl
    | cons g row ih =>
      rw [List.map_cons, List.sum_cons, ih, List.flatten_cons, List.length_append]
      omega
  exact this row
theorem ahead_inv (v : CalV b ds) {rows : List (List (List Int))} (T : TrV b ds rows) (hl : rows.length ≤ ds.length) : ∀ d, d ≤ rows.length → AhV b ds d (aheadA b rows d)
  | 0, _ => by
    have nn : ∀ x ∈ b, 0 ≤ x := fun x hx => (v.inb x hx).1
    have nl := new_len (d := 0) (b := b) (i := 0) (al := []) fun n hn => by simp [keys]
    have c0 : bornBy b 0 = (b.count 0 : Nat) := by
      have e := bornBy_next b (-1)
      rw [bornBy_neg b nn] at e
      simpa using e
    refine ⟨new_nd (by simp [keys]), fun k hk => ?_, ?_, ?_⟩
    · have hk : k ∈ keys (newF 0 b 0 []) := hk
      rw [new_keys] at hk
      rcases hk with z | ⟨n, hn, rfl⟩
      · simp [keys] at z
      · exact ⟨n, 0, by simp, hn, by simp⟩
    · show ((newF 0 b 0 []).length : Int) = _
      rw [nl.1]; simp [lostL, c0]
    · show (wA (newF 0 b 0 []) : Int) ≤ _
      rw [nl.2]; simp [wA, c0]
  | d + 1, hd => by
    have ih := ahead_inv v T hl d (by omega)
    have hr : rows[d]? = some rows[d] := List.getElem?_eq_getElem (by omega)
    have hp : ds[d]? = some ds[d] := List.getElem?_eq_getElem (by omega)
    have rv := T d _ _ hr hp
    have eg : rows.getD d [] = rows[d] := by rw [List.getD_eq_getElem?_getD, hr]; rfl
    generalize rows[d] = row at hr rv eg
    have ok := rv.ok
    have kr := keys_row row _ ok
    have lr := len_row row _ ih.nd ok
    have wr : ∀ (row : List (List Int)) (al : AL), RowOk al row → wA (rowA al row) ≤ wA al := by
      intro row
      induction row with
      | nil => intro al _; exact Nat.le_refl _
      | cons g row ih => intro al o; exact Nat.le_trans (ih _ o.2) (wA_grp o.1)
    have wr := wr row _ ok
    obtain ⟨s1, s2⟩ := rv.sizes
    have own2 : ∀ k ∈ keys (rowA (aheadA b rows d) row), ∃ (n : Nat) (v : Int), k = (n : Int) ∧ b[n]? = some v ∧ v ≤ d := fun k hk => ih.own k ((kr k).mp hk).1
    have ab : ∀ n, b[n]? = some ((d + 1 : Nat) : Int) → ((0 + n : Nat) : Int) ∉ keys (rowA (aheadA b rows d) row) := by
      intro n hn z
      obtain ⟨m, v, e1, e2, e3⟩ := own2 _ z
      have : m = n := by omega
      subst this
      rw [hn] at e2
      cases e2
      omega
    have nl := new_len (d := ((d + 1 : Nat) : Int)) (b := b) (i := 0) (al := rowA (aheadA b rows d) row) ab
    have bn := bornBy_next b (d : Int)
    have ed : ((d + 1 : Nat) : Int) = (d : Int) + 1 := by omega
    have et : lostL (ds.take (d + 1)) = lostL (ds.take d) + lessL ds[d] := by
      rw [List.take_add_one, hp]
      show lostL (ds.take d ++ [ds[d]]) = _
      rw [lostL_snoc]
    have il := ih.len
    have iw := ih.w
    unfold lessL at et
    have ea : aheadA b rows (d + 1) = newF ((d + 1 : Nat) : Int) b 0 (rowA (aheadA b rows d) row) := by rw [aheadA, eg]
    rw [ea]
    have nd2 := nd_row row _ ih.nd
    generalize rowA (aheadA b rows d) row = al2 at *
    refine ⟨new_nd nd2, fun k hk => ?_, ?_, ?_⟩
    · rw [new_keys] at hk
      rcases hk with z | ⟨n, hn, rfl⟩
      · obtain ⟨n, v, e1, e2, e3⟩ := own2 k z
        exact ⟨n, v, e1, e2, by omega⟩
      · exact ⟨n, _, by simp, hn, by omega⟩
    · rw [nl.1, ed, bn, et]
      omega
    · rw [nl.2, ed, bn]
      omega
end

theorem q_compR2 {t : TGT} {tt : CT} {e : CE} {ρ : Rho} {vs : List Nat} {ci : CI} {h0 h : Hc} {l xs : List D} {w : Nat} {p : Bool × O} (hw : h[w]? = some p) (e1 : ci ρ h0 = .ok (l, [w]) h) (z : l.length < sizeLine) (e2 : cCompB t tt e (wipeD ρ vs) l (lckL [w] h) = .ok xs (lckL [w] h)) :
    cComp vs ci t tt e ρ h0 = .ok (.ref h.length) (h ++ [(false, .lst xs)]) := by
  unfold cComp
  rw [e1]
  show (if decide (l.length < sizeLine) = true then _ else _) = _
  rw [if_pos (by simpa using z)]
  show (Res.bind (ulkR h [w] (noX (cCompB t tt e (wipeD ρ vs) l (lckL [w] h)))) _) = _
  rw [e2]
  show Res.ok (D.ref (ulkL h [w] (lckL [w] h)).length) (ulkL h [w] (lckL [w] h) ++ _) = _
  rw [ulk_lck hw]
section
variable {b : List Int} {ds : List (List Int)} {h : Hc}
structure TreeV (b : List Int) (ds : List (List Int)) (rows : List (List (List Int))) : Prop where
  cal : CalV b ds
  len : rows.length = ds.length
  tr : TrV b ds rows
theorem TreeV.ah {rows : List (List (List Int))} (v : TreeV b ds rows) {d : Nat} (hd : d ≤ ds.length) : AhV b ds d (aheadA b rows d) := ahead_inv v.cal v.tr (by rw [v.len]; omega) d (by rw [v.len]; exact hd)
theorem TreeV.row {rows : List (List (List Int))} (v : TreeV b ds rows) {d : Nat} (hd : d < ds.length) : ∃ row p, rows[d]? = some row ∧ ds[d]? = some p ∧ RowV (aheadA b rows d) p row ∧ rows.getD d [] = row := by
  have h1 : d < rows.length := by rw [v.len]; exact hd
  have e1 : rows[d]? = some rows[d] := List.getElem?_eq_getElem h1
  have e2 : ds[d]? = some ds[d] := List.getElem?_eq_getElem hd
  exact ⟨_, _, e1, e2, v.tr d _ _ e1 e2, by rw [List.getD_eq_getElem?_getD, e1]; rfl⟩
end

theorem sortI_head {l : List Int} {m : Int} (hm : m ∈ l) (h : ∀ x ∈ l, m ≤ x) : (sortI l).head? = some m := by
  have s := sortI_sorted l
  have hs : m ∈ sortI l := sortI_mem.mpr hm
  cases e : sortI l with
  | nil => rw [e] at hs; simp at hs
  | cons a r =>
    rw [e] at s hs
    have a1 := (List.pairwise_cons.mp s).1
    have ha : m ≤ a := h a (sortI_mem.mp (by rw [e]; simp))
    rcases List.mem_cons.mp hs with z | z
    · rw [z]; rfl
    · have := a1 m z
      have : a = m := by omega
      rw [this]; rfl
def GoodA (al : AL) : Prop := ∀ k l, gotA al k = some l → l.head? = some k ∧ ∀ x ∈ l, k ≤ x
theorem GoodA.grp {al : AL} {g : List Int} (ga : GoodA al) (o : GrpOk al g) (asc : g.Pairwise (· < ·)) : GoodA (grpA al g) := by
  intro k l hl
  rw [got_grp o.nd] at hl
  by_cases c : g.headD 0 = k
  · rw [if_pos c] at hl
    cases hl
    obtain ⟨a, t, rfl⟩ := List.exists_cons_of_ne_nil o.ne
    have ck : a = k := c
    subst ck
    have aa := (List.pairwise_cons.mp asc).1
    have mem : ∀ x ∈ allA al (a :: t), a ≤ x := by
      intro x hx
      obtain ⟨y, hy, hx⟩ := List.mem_flatten.mp hx
      obtain ⟨j, hj, rfl⟩ := List.mem_map.mp hy
      obtain ⟨l, hl⟩ := got_some (o.live j hj)
      rw [hl] at hx
      have := (ga j l hl).2 x hx
      rcases List.mem_cons.mp hj with z | z
      · omega
      · have := aa j z; omega
    have am : a ∈ allA al (a :: t) := by
      obtain ⟨l, hl⟩ := got_some (o.live a (by simp))
      have := (ga a l hl).1
      refine List.mem_flatten.mpr ⟨l, List.mem_map.mpr ⟨a, by simp, by rw [hl]; rfl⟩, ?_⟩
      cases l with
      | nil => cases this
      | cons z l => simp at this; subst this; simp
    exact ⟨sortI_head am mem, fun x hx => mem x (sortI_mem.mp hx)⟩
  · rw [if_neg c] at hl
    split at hl
    · cases hl
    · exact ga k l hl
theorem GoodA.row : ∀ {row : List (List Int)} {al : AL}, GoodA al → RowOk al row → (∀ g ∈ row, g.Pairwise (· < ·)) → GoodA (rowA al row)
  | [], _, ga, _, _ => ga
  | g :: row, al, ga, o, h => GoodA.row (row := row) (ga.grp o.1 (h g (by simp))) o.2 fun x hx => h x (by simp [hx])
theorem GoodA.new {d : Int} {b : List Int} {al : AL} (ga : GoodA al) : GoodA (newF d b 0 al) := by
  intro k l hl
  by_cases c : ∃ n, b[n]? = some d ∧ k = ((0 + n : Nat) : Int)
  · obtain ⟨n, hn, rfl⟩ := c
    rw [new_at hn] at hl
    cases hl
    exact ⟨rfl, by simp⟩
  · rw [new_keep fun n hn z => c ⟨n, hn, z⟩] at hl
    exact ga k l hl
section
variable {b : List Int} {ds : List (List Int)} {h : Hc}
end

section
variable {b : List Int} {ds : List (List Int)} {h : Hc}
end

structure ApartA (b : List Int) (d : Int) (al : AL) : Prop where
  one : ∀ k j l m x, gotA al k = some l → gotA al j = some m → x ∈ l → x ∈ m → k = j
  leaf : ∀ k l x, gotA al k = some l → x ∈ l → ∃ (n : Nat) (v : Int), x = (n : Int) ∧ b[n]? = some v ∧ v ≤ d
theorem mem_all {al : AL} {g : List Int} {x : Int} (lv : ∀ k ∈ g, k ∈ keys al) : x ∈ allA al g ↔ ∃ k l, k ∈ g ∧ gotA al k = some l ∧ x ∈ l := by
  constructor
  · intro h
    obtain ⟨y, hy, hx⟩ := List.mem_flatten.mp h
    obtain ⟨k, hk, rfl⟩ := List.mem_map.mp hy
    obtain ⟨l, hl⟩ := got_some (lv k hk)
    rw [hl] at hx
    exact ⟨k, l, hk, hl, hx⟩
  · rintro ⟨k, l, hk, hl, hx⟩
    exact List.mem_flatten.mpr ⟨l, List.mem_map.mpr ⟨k, hk, by rw [hl]; rfl⟩, hx⟩
theorem grp_leaf {al : AL} {g : List Int} (o : GrpOk al g) {k : Int} {l : List Int} {x : Int} (hk : gotA (grpA al g) k = some l) (hx : x ∈ l) : ∃ j m, gotA al j = some m ∧ x ∈ m ∧ ((j ∈ g ∧ k = g.headD 0) ∨ (j ∉ g ∧ k = j)) := by
  rw [got_grp o.nd] at hk
  by_cases c : g.headD 0 = k
  · rw [if_pos c] at hk
    cases hk
    obtain ⟨j, m, h1, h2, h3⟩ := (mem_all o.live).mp (sortI_mem.mp hx)
    exact ⟨j, m, h2, h3, .inl ⟨h1, c.symm⟩⟩
  · rw [if_neg c] at hk
    by_cases d : k ∈ g
    · rw [if_pos d] at hk; cases hk
    · rw [if_neg d] at hk
      exact ⟨k, l, hk, hx, .inr ⟨d, rfl⟩⟩
theorem ApartA.grp {b : List Int} {d : Int} {al : AL} {g : List Int} (a : ApartA b d al) (o : GrpOk al g) : ApartA b d (grpA al g) := by
  refine ⟨fun k j l m x hk hj hl hm => ?_, fun k l x hk hx => ?_⟩
  · obtain ⟨k', l', e1, e2, e3⟩ := grp_leaf o hk hl
    obtain ⟨j', m', f1, f2, f3⟩ := grp_leaf o hj hm
    have := a.one k' j' l' m' x e1 f1 e2 f2
    subst this
    rcases e3 with ⟨e3, e4⟩ | ⟨e3, e4⟩
    · rcases f3 with ⟨_, f4⟩ | ⟨f3, _⟩
      · rw [e4, f4]
      · exact absurd e3 f3
    · rcases f3 with ⟨f3, _⟩ | ⟨_, f4⟩
      · exact absurd f3 e3
      · rw [e4, f4]
  · obtain ⟨k', l', e1, e2, _⟩ := grp_leaf o hk hx
    exact a.leaf k' l' x e1 e2
theorem ApartA.row {b : List Int} {d : Int} : ∀ {row : List (List Int)} {al : AL}, ApartA b d al → RowOk al row → ApartA b d (rowA al row)
  | [], _, a, _ => a
  | g :: row, al, a, o => ApartA.row (row := row) (a.grp o.1) o.2
theorem ApartA.new {b : List Int} {d e : Int} {al : AL} (a : ApartA b e al) (h : e < d) : ApartA b d (newF d b 0 al) := by
  have key : ∀ k l x, gotA (newF d b 0 al) k = some l → x ∈ l → (gotA al k = some l ∧ ∃ (n : Nat) (v : Int), x = (n : Int) ∧ b[n]? = some v ∧ v ≤ e) ∨ (x = k ∧ ∃ n : Nat, k = (n : Int) ∧ b[n]? = some d) := by
    intro k l x hk hx
    by_cases c : ∃ n, b[n]? = some d ∧ k = ((0 + n : Nat) : Int)
    · obtain ⟨n, hn, ek⟩ := c
      rw [ek, new_at hn] at hk
      cases hk
      simp at hx
      exact .inr ⟨by rw [hx, ek]; simp, n, by simpa using ek, hn⟩
    · rw [new_keep fun n hn z => c ⟨n, hn, z⟩] at hk
      exact .inl ⟨hk, a.leaf k l x hk hx⟩
  refine ⟨fun k j l m x hk hj hl hm => ?_, fun k l x hk hx => ?_⟩
  · rcases key k l x hk hl with ⟨k1, n, v, e1, e2, e3⟩ | ⟨k1, n, e1, e2⟩
    · rcases key j m x hj hm with ⟨j1, _⟩ | ⟨j1, n2, f1, f2⟩
      · exact a.one k j l m x k1 j1 hl hm
      · exfalso
        have : n2 = n := by omega
        subst this
        rw [f2] at e2
        cases e2
        omega
    · rcases key j m x hj hm with ⟨j1, n2, v, f1, f2, f3⟩ | ⟨j1, n2, f1, f2⟩
      · exfalso
        have : n2 = n := by omega
        subst this
        rw [f2] at e2
        cases e2
        omega
      · omega
  · rcases key k l x hk hx with ⟨_, n, v, e1, e2, e3⟩ | ⟨k1, n, e1, e2⟩
    · exact ⟨n, v, e1, e2, by omega⟩
    · exact ⟨n, d, by omega, e2, by omega⟩
section
variable {b : List Int} {ds : List (List Int)} {h : Hc}
end

theorem leR_an {a b : List Int} (h1 : leR a b = true) (h2 : leR b a = true) : a = b := Std.le_antisymm (of_decide_eq_true h1) (of_decide_eq_true h2)
theorem sortR_uniq {a b : List (List Int)} (p : a.Perm b) (s : a.Pairwise (fun a b => leR a b = true)) : a = sortR b := by
  have q : a.Perm (sortR b) := p.trans (sortR_perm b).symm
  exact List.Perm.eq_of_pairwise (le := fun a b => leR a b = true) (fun a b _ _ h1 h2 => leR_an h1 h2) s (sortR_sorted b) q
def picksL : List Int → Nat → List (List Int)
  | _, 0 => [[]]
  | [], _ + 1 => []
  | x :: r, k + 1 => (picksL r k).map (fun l => x :: l) ++ picksL r (k + 1)
theorem picks_mem : ∀ (names : List Int) (k : Nat) (g : List Int), g ∈ picksL names k ↔ g.Sublist names ∧ g.length = k
  | names, 0, g => by
    cases names <;> simp only [picksL, List.mem_singleton] <;> exact ⟨fun e => by subst e; simp, fun e => List.eq_nil_of_length_eq_zero e.2⟩
  | [], k + 1, g => by
    simp only [picksL, List.not_mem_nil, false_iff]
    rintro ⟨h1, h2⟩
    have := List.sublist_nil.mp h1
    subst this; simp at h2
  | x :: r, k + 1, g => by
    simp only [picksL, List.mem_append, List.mem_map, picks_mem r k, picks_mem r (k + 1)]
    constructor
    · rintro (⟨l, ⟨h1, h2⟩, rfl⟩ | ⟨h1, h2⟩)
      · exact ⟨h1.cons_cons x, by simp [h2]⟩
      · exact ⟨h1.cons x, h2⟩
    · rintro ⟨h1, h2⟩
      cases h1 with
      | cons _ h => exact .inr ⟨h, h2⟩
      | cons_cons _ h => exact .inl ⟨_, ⟨h, by simpa using h2⟩, rfl⟩
theorem picks_nd : ∀ (names : List Int) (k : Nat), names.Nodup → (picksL names k).Nodup
  | names, 0, _ => by cases names <;> simp [picksL]
  | [], k + 1, _ => by simp [picksL]
  | x :: r, k + 1, nd => by
    obtain ⟨n1, n2⟩ := List.nodup_cons.mp nd
    simp only [picksL]
    refine List.nodup_append.mpr ⟨?_, picks_nd r (k + 1) n2, ?_⟩
    · exact List.pairwise_map.mpr ((picks_nd r k n2).imp fun h e => h (List.cons.inj e).2)
    · intro a ha b hb e
      obtain ⟨l, _, rfl⟩ := List.mem_map.mp ha
      subst e
      have := ((picks_mem r (k + 1) _).mp hb).1.subset (List.mem_cons_self)
      exact n1 this
theorem picks_len : ∀ (names : List Int) (k : Nat), (picksL names k).length ≤ 2 ^ names.length
  | names, 0 => by
    have : 0 < 2 ^ names.length := Nat.pow_pos (by decide)
    cases names <;> simp [picksL] <;> exact this
  | [], k + 1 => by simp [picksL]
  | x :: r, k + 1 => by
    have h1 := picks_len r k
    have h2 := picks_len r (k + 1)
    simp only [picksL, List.length_append, List.length_map, List.length_cons, Nat.pow_succ]
    omega
def minusL (names g : List Int) : List Int := names.filter fun x => !decide (x ∈ g)
def okG (g : List Int) (row : List (List Int)) : Bool := row.all fun o => decide (o.length ≠ g.length) || !leR o g
def groupsL : List Int → List Int → List (List (List Int))
  | _, [] => [[]]
  | names, s :: p => ((picksL names s.toNat).map fun g => ((groupsL (minusL names g) p).filter (okG g)).map fun row => sortR (g :: row)).flatten
structure RowP (names p : List Int) (row : List (List Int)) : Prop where
  sub : ∀ g ∈ row, g.Sublist names
  nd : row.flatten.Nodup
  srt : row.Pairwise fun a b => leR a b = true
  pat : (sortI (row.map fun g => (g.length : Int))).reverse = p
theorem fall_rev {l : List Int} (h : l.Pairwise (fun a b => b ≤ a)) : (sortI l).reverse = l := by
  have e : l.reverse = sortI l := sortI_uniq (List.reverse_perm l) (List.pairwise_reverse.mpr h)
  rw [← e, List.reverse_reverse]
theorem rev_perm {l p : List Int} (e : (sortI l).reverse = p) : p.Perm l := by
  rw [← e]; exact (List.reverse_perm _).trans (sortI_perm l)
theorem rev_of {l p : List Int} (e : p.Perm l) (h : p.Pairwise (fun a b => b ≤ a)) : (sortI l).reverse = p := by
  rw [show sortI l = sortI p from sortI_uniq ((sortI_perm l).trans e.symm) (sortI_sorted l)]
  exact fall_rev h
theorem minus_sub (names g : List Int) : (minusL names g).Sublist names := List.filter_sublist
theorem minus_mem {names g : List Int} {x : Int} : x ∈ minusL names g ↔ x ∈ names ∧ x ∉ g := by
  unfold minusL
  rw [List.mem_filter]
  simp
theorem flat_perm {a b : List (List Int)} (h : a.Perm b) : a.flatten.Perm b.flatten := h.flatten
theorem rows_in {p names : List Int} {row : List (List Int)} (r : RowP names p row) : ∀ x ∈ row.flatten, x ∈ names := fun x hx => by
  obtain ⟨g, h1, h2⟩ := List.mem_flatten.mp hx
  exact (r.sub g h1).subset h2
theorem groups_mem : ∀ (p names : List Int), names.Pairwise (· < ·) → p.Pairwise (fun a b => b ≤ a) → (∀ s ∈ p, 1 ≤ s) → ∀ row, row ∈ groupsL names p ↔ RowP names p row
  | [], names, _, _, _, row => by
    simp only [groupsL, List.mem_singleton]
    constructor
    · rintro rfl
      exact ⟨by simp, by simp, by simp, by simp [sortI]⟩
    · intro h
      have e := rev_perm h.pat
      have := e.length_eq
      simp at this
      exact List.eq_nil_of_length_eq_zero this.symm
  | s :: p, names, asc, fall, pos, row => by
    obtain ⟨f1, f2⟩ := List.pairwise_cons.mp fall
    have s1 := pos s (by simp)
    have ih := fun g => groups_mem p (minusL names g) (asc.sublist (minus_sub _ _)) f2 (fun t ht => pos t (by simp [ht]))
    have nn : names.Nodup := asc.imp fun h => by omega
    simp only [groupsL, List.mem_flatten, List.mem_map]
    constructor
    · rintro ⟨_, ⟨g, hg, rfl⟩, hr⟩
      obtain ⟨row', hr', rfl⟩ := List.mem_map.mp hr
      obtain ⟨h1, h2⟩ := List.mem_filter.mp hr'
      obtain ⟨g1, g2⟩ := (picks_mem _ _ _).mp hg
      have r := (ih g row').mp h1
      have pm := sortR_perm (g :: row')
      refine ⟨fun x hx => ?_, ?_, sortR_sorted _, ?_⟩
      · rcases List.mem_cons.mp (pm.mem_iff.mp hx) with rfl | hx
        · exact g1
        · exact (r.sub x hx).trans (minus_sub _ _)
      · refine (flat_perm pm).nodup_iff.mpr ?_
        rw [List.flatten_cons]
        refine List.nodup_append.mpr ⟨nn.sublist g1, r.nd, fun a ha b hb e => ?_⟩
        subst e
        exact (minus_mem.mp (rows_in r a hb)).2 ha
      · refine rev_of ?_ fall
        have q := rev_perm r.pat
        refine List.Perm.trans ?_ (pm.map _).symm
        rw [List.map_cons, g2]
        have : ((s.toNat : Nat) : Int) = s := by omega
        rw [this]
        exact q.cons s
    · intro r
      have q := rev_perm r.pat
      have hs : s ∈ row.map fun g => (g.length : Int) := q.mem_iff.mp (by simp)
      -- the first group of the first size
      obtain ⟨g, hg, a, c, rfl, na⟩ : ∃ g, (g.length : Int) = s ∧ ∃ a c, row = a ++ g :: c ∧ ∀ x ∈ a, (x.length : Int) ≠ s := by
        clear r q ih
        induction row with
        | nil => simp at hs
        | cons x row ih =>
          by_cases e : (x.length : Int) = s
          · exact ⟨x, e, [], row, rfl, by simp⟩
          · rw [List.map_cons, List.mem_cons] at hs
            obtain ⟨g, h1, a, c, rfl, h2⟩ := ih (hs.resolve_left fun z => e z.symm)
            refine ⟨g, h1, x :: a, c, rfl, fun y hy => ?_⟩
            rcases List.mem_cons.mp hy with rfl | hy
            · exact e
            · exact h2 y hy
      have pm : (a ++ g :: c).Perm (g :: (a ++ c)) := List.perm_middle
      have gs := r.sub g (by simp)
      have nd2 := (flat_perm pm).nodup_iff.mp r.nd
      rw [List.flatten_cons] at nd2
      obtain ⟨n1, n2, n3⟩ := List.nodup_append.mp nd2
      have gl : g.length = s.toNat := by omega
      have gne : g ≠ [] := by intro z; subst z; simp at hg; omega
      have ps := List.pairwise_append.mp r.srt
      have pc := List.pairwise_cons.mp ps.2.1
      have srt : (a ++ c).Pairwise fun a b => leR a b = true := List.pairwise_append.mpr ⟨ps.1, pc.2, fun x hx y hy => ps.2.2 x hx y (by simp [hy])⟩
      have sub : ∀ x ∈ a ++ c, x.Sublist (minusL names g) := fun x hx => by
        have h1 := r.sub x (pm.mem_iff.mpr (by simp only [List.mem_cons]; exact .inr hx))
        have h2 : x.filter (fun y => !decide (y ∈ g)) = x := List.filter_eq_self.mpr fun y hy => by
          have : y ∉ g := fun z => n3 y z y (List.mem_flatten.mpr ⟨x, hx, hy⟩) rfl
          simp [this]
        rw [← h2]
        exact h1.filter _
      refine ⟨_, ⟨g, (picks_mem _ _ _).mpr ⟨gs, gl⟩, rfl⟩, List.mem_map.mpr ⟨a ++ c, List.mem_filter.mpr ⟨(ih g _).mpr ⟨sub, n2, srt, ?_⟩, ?_⟩, ?_⟩⟩
      · refine rev_of ?_ f2
        have q2 := q.trans (pm.map _)
        rw [List.map_cons, hg] at q2
        exact (List.perm_cons s).mp q2
      · unfold okG
        rw [List.all_eq_true]
        intro o ho
        by_cases e : o.length = g.length
        · have oc : o ∈ c := by
            rcases List.mem_append.mp ho with h | h
            · exact absurd (by rw [e]; exact hg) (na o h)
            · exact h
          have lt : leR g o = true := pc.1 o oc
          have : leR o g = false := by
            cases h : leR o g with
            | false => rfl
            | true =>
              have := leR_an lt h
              subst this
              obtain ⟨y, t, e2⟩ := List.exists_cons_of_ne_nil gne
              exact absurd rfl (n3 y (by rw [e2]; simp) y (List.mem_flatten.mpr ⟨g, ho, by rw [e2]; simp⟩))
          simp [this]
        · simp [e]
      · exact (sortR_uniq pm r.srt).symm
theorem nd_flat {α β : Type} {f : α → List β} : ∀ {l : List α}, l.Nodup → (∀ a ∈ l, (f a).Nodup) → (∀ a ∈ l, ∀ b ∈ l, a ≠ b → ∀ x, x ∈ f a → x ∉ f b) → (l.map f).flatten.Nodup
  | [], _, _, _ => by simp
  | a :: l, nd, h1, h2 => by
    obtain ⟨n1, n2⟩ := List.nodup_cons.mp nd
    rw [List.map_cons, List.flatten_cons]
    refine List.nodup_append.mpr ⟨h1 a (by simp), nd_flat n2 (fun b hb => h1 b (by simp [hb])) (fun b hb c hc => h2 b (by simp [hb]) c (by simp [hc])), fun x hx y hy e => ?_⟩
    subst e
    obtain ⟨_, hm, hx2⟩ := List.mem_flatten.mp hy
    obtain ⟨b, hb, rfl⟩ := List.mem_map.mp hm
    exact h2 a (by simp) b (by simp [hb]) (fun z => n1 (z ▸ hb)) x hx hx2
theorem okG_no {g o : List Int} {row : List (List Int)} (h : okG g row = true) (ho : o ∈ row) (e : o.length = g.length) : leR o g = false := by
  unfold okG at h
  have := List.all_eq_true.mp h o ho
  simpa [e] using this
theorem groups_inj {g1 g2 : List Int} {r1 r2 : List (List Int)} (s1 : r1.Pairwise fun a b => leR a b = true) (s2 : r2.Pairwise fun a b => leR a b = true) (o1 : okG g1 r1 = true) (o2 : okG g2 r2 = true) (l : g1.length = g2.length) (e : sortR (g1 :: r1) = sortR (g2 :: r2)) : g1 = g2 ∧ r1 = r2 := by
  have pm : (g1 :: r1).Perm (g2 :: r2) := by
    have := sortR_perm (g1 :: r1)
    rw [e] at this
    exact this.symm.trans (sortR_perm _)
  have eg : g1 = g2 := by
    rcases List.mem_cons.mp (pm.mem_iff.mp (List.mem_cons_self)) with h | h
    · exact h
    · rcases List.mem_cons.mp (pm.mem_iff.mpr (List.mem_cons_self)) with h' | h'
      · exact h'.symm
      · have a1 := okG_no o2 h l
        have a2 := okG_no o1 h' l.symm
        have := leR_total g1 g2
        rw [a1, a2] at this
        cases this
  subst eg
  refine ⟨rfl, ?_⟩
  have := (List.perm_cons g1).mp pm
  exact (sortR_uniq this s1).trans (sortR_uniq (List.Perm.refl r2) s2).symm
theorem groups_nd : ∀ (p names : List Int), names.Pairwise (· < ·) → p.Pairwise (fun a b => b ≤ a) → (∀ s ∈ p, 1 ≤ s) → (groupsL names p).Nodup
  | [], names, _, _, _ => by simp [groupsL]
  | s :: p, names, asc, fall, pos => by
    obtain ⟨f1, f2⟩ := List.pairwise_cons.mp fall
    have pos2 : ∀ t ∈ p, 1 ≤ t := fun t ht => pos t (by simp [ht])
    have ih := fun g => groups_nd p (minusL names g) (asc.sublist (minus_sub _ _)) f2 pos2
    have mm := fun g => groups_mem p (minusL names g) (asc.sublist (minus_sub _ _)) f2 pos2
    have nn : names.Nodup := asc.imp fun h => by omega
    simp only [groupsL]
    have srt : ∀ g r, r ∈ (groupsL (minusL names g) p).filter (okG g) → r.Pairwise (fun a b => leR a b = true) ∧ okG g r = true := fun g r h => by
      obtain ⟨h1, h2⟩ := List.mem_filter.mp h
      exact ⟨((mm g r).mp h1).srt, h2⟩
    refine nd_flat (picks_nd _ _ nn) (fun g hg => ?_) (fun g1 h1 g2 h2 ne x hx hy => ?_)
    · have nf : ((groupsL (minusL names g) p).filter (okG g)).Nodup := (ih g).sublist List.filter_sublist
      have : ∀ L : List (List (List Int)), (∀ r ∈ L, r.Pairwise (fun a b => leR a b = true) ∧ okG g r = true) → L.Nodup → (L.map fun row => sortR (g :: row)).Nodup := by
        intro L hL nd
        induction L with
        | nil => simp
        | cons r L ih2 =>
          obtain ⟨n1, n2⟩ := List.nodup_cons.mp nd
          rw [List.map_cons]
          refine List.nodup_cons.mpr ⟨fun hm => ?_, ih2 (fun r hr => hL r (by simp [hr])) n2⟩
          obtain ⟨r2, hr2, e⟩ := List.mem_map.mp hm
          obtain ⟨q1, q2⟩ := hL r (by simp)
          obtain ⟨q3, q4⟩ := hL r2 (by simp [hr2])
          have := (groups_inj q3 q1 q4 q2 rfl e).2
          subst this
          exact n1 hr2
      exact this _ (srt g) nf
    · obtain ⟨r1, hr1, rfl⟩ := List.mem_map.mp hx
      obtain ⟨r2, hr2, e⟩ := List.mem_map.mp hy
      obtain ⟨q1, q2⟩ := srt _ _ hr1
      obtain ⟨q3, q4⟩ := srt _ _ hr2
      have l1 := ((picks_mem _ _ _).mp h1).2
      have l2 := ((picks_mem _ _ _).mp h2).2
      exact ne (groups_inj q3 q1 q4 q2 (by omega) e).1.symm
theorem asc_sub : ∀ {l n : List Int}, l.Pairwise (· < ·) → n.Pairwise (· < ·) → (∀ x ∈ l, x ∈ n) → l.Sublist n := fun {l n} hl hn h => by
  have e : l = n.filter fun x => decide (x ∈ l) := by
    refine asc_ext hl (hn.filter _) fun x => ?_
    rw [List.mem_filter, decide_eq_true_eq]
    exact ⟨fun hx => ⟨h x hx, hx⟩, fun hx => hx.2⟩
  rw [e]
  exact List.filter_sublist
def swI (a c x : Int) : Int := if x = a then c else if x = c then a else x
theorem swI_swI (a c x : Int) : swI a c (swI a c x) = x := by
  unfold swI
  by_cases h1 : x = a
  · subst h1
    by_cases h2 : c = x
    · simp [h2]
    · simp [h2]
  · by_cases h2 : x = c
    · subst h2; simp [h1]
    · simp [h1, h2]
theorem swI_inj {a c x y : Int} (h : swI a c x = swI a c y) : x = y := by rw [← swI_swI a c x, h, swI_swI]
theorem swI_in {a c : Int} {n : List Int} (ha : a ∈ n) (hc : c ∈ n) {x : Int} (hx : x ∈ n) : swI a c x ∈ n := by
  unfold swI
  split
  · exact hc
  · split
    · exact ha
    · exact hx
def swG (a c : Int) (g : List Int) : List Int := sortI (g.map (swI a c))
def swR (a c : Int) (row : List (List Int)) : List (List Int) := sortR (row.map (swG a c))
theorem swG_mem {a c x : Int} {g : List Int} : x ∈ swG a c g ↔ swI a c x ∈ g := by
  unfold swG
  rw [sortI_mem, List.mem_map]
  constructor
  · rintro ⟨y, hy, rfl⟩; rw [swI_swI]; exact hy
  · intro h; exact ⟨_, h, swI_swI a c x⟩
theorem map_nd {f : Int → Int} (hf : ∀ x y, f x = f y → x = y) : ∀ {l : List Int}, l.Nodup → (l.map f).Nodup
  | [], _ => by simp
  | x :: l, h => by
    obtain ⟨h1, h2⟩ := List.nodup_cons.mp h
    rw [List.map_cons]
    refine List.nodup_cons.mpr ⟨fun hm => ?_, map_nd hf h2⟩
    obtain ⟨y, hy, e⟩ := List.mem_map.mp hm
    exact h1 (hf _ _ e ▸ hy)
theorem swG_flat {a c : Int} : ∀ row : List (List Int), ((row.map (swG a c)).flatten).Perm (row.flatten.map (swI a c))
  | [] => by simp
  | g :: row => by
    rw [List.map_cons, List.flatten_cons, List.flatten_cons, List.map_append]
    exact (sortI_perm _).append (swG_flat row)
theorem swR_ok {a c : Int} {n p : List Int} {row : List (List Int)} (asc : n.Pairwise (· < ·)) (ha : a ∈ n) (hc : c ∈ n) (r : RowP n p row) : RowP n p (swR a c row) := by
  have pm : (swR a c row).Perm (row.map (swG a c)) := sortR_perm _
  have nn : n.Nodup := asc.imp fun h => by omega
  refine ⟨fun g hg => ?_, ?_, sortR_sorted _, ?_⟩
  · obtain ⟨g0, h0, rfl⟩ := List.mem_map.mp (pm.mem_iff.mp hg)
    have s0 := r.sub g0 h0
    refine asc_sub (sortI_asc (map_nd (fun x y => swI_inj) (nn.sublist s0))) asc fun x hx => ?_
    have := swG_mem.mp hx
    have := swI_in ha hc (s0.subset this)
    rwa [swI_swI] at this
  · refine (flat_perm pm).nodup_iff.mpr ?_
    refine (swG_flat row).nodup_iff.mpr ?_
    exact map_nd (fun x y => swI_inj) r.nd
  · have e : ((swR a c row).map fun g => (g.length : Int)).Perm (row.map fun g => (g.length : Int)) := by
      refine (pm.map _).trans ?_
      rw [List.map_map]
      refine List.Perm.of_eq (List.map_congr_left fun g _ => ?_)
      simp only [Function.comp, swG]
      rw [(sortI_perm _).length_eq, List.length_map]
    rw [← r.pat]
    congr 1
    exact sortI_uniq ((sortI_perm _).trans e) (sortI_sorted _)
theorem swG_swG {a c : Int} {n g : List Int} (asc : n.Pairwise (· < ·)) (s : g.Sublist n) : swG a c (swG a c g) = g := by
  have ga : g.Pairwise (· < ·) := asc.sublist s
  have nd : g.Nodup := ga.imp fun h => by omega
  refine asc_ext (sortI_asc (map_nd (fun x y => swI_inj) ?_)) ga fun x => ?_
  · exact (sortI_perm _).nodup_iff.mpr (map_nd (fun x y => swI_inj) nd)
  · show x ∈ swG a c (swG a c g) ↔ _
    rw [swG_mem, swG_mem, swI_swI]
theorem swR_swR {a c : Int} {n p : List Int} {row : List (List Int)} (asc : n.Pairwise (· < ·)) (r : RowP n p row) : swR a c (swR a c row) = row := by
  have h : ((swR a c row).map (swG a c)).Perm row := by
    refine ((sortR_perm _).map _).trans ?_
    rw [List.map_map]
    refine List.Perm.of_eq ?_
    conv => rhs; rw [← List.map_id row]
    exact List.map_congr_left fun g hg => swG_swG asc (r.sub g hg)
  exact (sortR_uniq h.symm r.srt).symm
theorem count_map {α : Type} (P : α → Bool) (f : α → α) (L : List α) : (L.map f).countP P = L.countP (fun x => P (f x)) := by
  rw [List.countP_map]; rfl
theorem swR_perm {a c : Int} {n p : List Int} (asc : n.Pairwise (· < ·)) (fall : p.Pairwise (fun a b => b ≤ a)) (pos : ∀ s ∈ p, 1 ≤ s) (ha : a ∈ n) (hc : c ∈ n) : ((groupsL n p).map (swR a c)).Perm (groupsL n p) := by
  have mm := groups_mem p n asc fall pos
  have nd := groups_nd p n asc fall pos
  have nd2 : ((groupsL n p).map (swR a c)).Nodup := by
    have : ∀ L : List (List (List Int)), (∀ r ∈ L, RowP n p r) → L.Nodup → (L.map (swR a c)).Nodup := by
      intro L hL nd
      induction L with
      | nil => simp
      | cons r L ih =>
        obtain ⟨n1, n2⟩ := List.nodup_cons.mp nd
        rw [List.map_cons]
        refine List.nodup_cons.mpr ⟨fun hm => ?_, ih (fun r hr => hL r (by simp [hr])) n2⟩
        obtain ⟨r2, h2, e⟩ := List.mem_map.mp hm
        have e2 := congrArg (swR a c) e
        rw [swR_swR asc (hL r2 (by simp [h2])), swR_swR asc (hL r (by simp))] at e2
        exact n1 (e2 ▸ h2)
    exact this _ (fun r h => (mm r).mp h) nd
  refine (List.perm_ext_iff_of_nodup nd2 nd).mpr fun row => ?_
  rw [List.mem_map]
  constructor
  · rintro ⟨r, h, rfl⟩
    exact (mm _).mpr (swR_ok asc ha hc ((mm r).mp h))
  · intro h
    have r := (mm row).mp h
    exact ⟨swR a c row, (mm _).mpr (swR_ok asc ha hc r), swR_swR asc r⟩
theorem swR_count {a c : Int} {n p : List Int} (asc : n.Pairwise (· < ·)) (fall : p.Pairwise (fun a b => b ≤ a)) (pos : ∀ s ∈ p, 1 ≤ s) (ha : a ∈ n) (hc : c ∈ n) (P : List (List Int) → Bool) : (groupsL n p).countP (fun row => P (swR a c row)) = (groupsL n p).countP P := by
  rw [← count_map]
  exact (swR_perm asc fall pos ha hc).countP_eq P
def inR (a : Int) (row : List (List Int)) : Bool := row.any fun g => decide (a ∈ g)
theorem any_perm {α : Type} {P : α → Bool} {a b : List α} (h : a.Perm b) : a.any P = b.any P := by
  rw [Bool.eq_iff_iff, List.any_eq_true, List.any_eq_true]
  exact ⟨fun ⟨x, h1, h2⟩ => ⟨x, h.mem_iff.mp h1, h2⟩, fun ⟨x, h1, h2⟩ => ⟨x, h.mem_iff.mpr h1, h2⟩⟩
theorem inR_sw {a c x : Int} {row : List (List Int)} : inR x (swR a c row) = inR (swI a c x) row := by
  unfold inR swR
  rw [any_perm (sortR_perm _), List.any_map]
  congr 1
  funext g
  simp only [Function.comp]
  exact decide_eq_decide.mpr swG_mem
section
variable {n p : List Int} (asc : n.Pairwise (· < ·)) (fall : p.Pairwise (fun a b => b ≤ a)) (pos : ∀ s ∈ p, 1 ≤ s)
include asc fall pos
end
theorem inR_flat {a : Int} {row : List (List Int)} : inR a row = decide (a ∈ row.flatten) := by
  unfold inR
  rw [Bool.eq_iff_iff, List.any_eq_true, decide_eq_true_eq, List.mem_flatten]
  constructor
  · rintro ⟨g, h1, h2⟩; exact ⟨g, h1, by simpa using h2⟩
  · rintro ⟨g, h1, h2⟩; exact ⟨g, h1, by simpa using h2⟩
theorem sub_count {s n : List Int} (nd : n.Nodup) (sn : s.Nodup) (h : ∀ x ∈ s, x ∈ n) : n.countP (fun x => decide (x ∈ s)) = s.length := by
  rw [List.countP_eq_length_filter]
  refine List.Perm.length_eq ((List.perm_ext_iff_of_nodup (nd.sublist List.filter_sublist) sn).mpr fun x => ?_)
  rw [List.mem_filter, decide_eq_true_eq]
  exact ⟨fun hx => hx.2, fun hx => ⟨h x hx, hx⟩⟩
theorem flat_len : ∀ row : List (List Int), ((row.flatten.length : Nat) : Int) = (row.map fun g => (g.length : Int)).sum
  | [] => rfl
  | g :: row => by
    rw [List.flatten_cons, List.length_append, List.map_cons, List.sum_cons, ← flat_len row]; omega
theorem perm_sumI {a b : List Int} (h : a.Perm b) : a.sum = b.sum := by
  induction h with
  | nil => rfl
  | cons x _ ih => simp [ih]
  | swap x y l => simp only [List.sum_cons]; omega
  | trans _ _ h1 h2 => exact h1.trans h2
theorem RowP.tot {n p : List Int} {row : List (List Int)} (r : RowP n p row) : ((row.flatten.length : Nat) : Int) = p.sum := by
  rw [flat_len, perm_sumI (rev_perm r.pat)]
end Gk

set_option Elab.async false
set_option linter.all false
set_option maxRecDepth 100000
namespace Gk
open PySem Sx
def MonoOn (f : Int → Int) (n : List Int) : Prop := ∀ x ∈ n, ∀ y ∈ n, x < y → f x < f y
theorem MonoOn.sub {f : Int → Int} {n m : List Int} (h : MonoOn f n) (s : ∀ x ∈ m, x ∈ n) : MonoOn f m := fun x hx y hy => h x (s x hx) y (s y hy)
theorem MonoOn.lt {f : Int → Int} {n : List Int} (h : MonoOn f n) {x y : Int} (hx : x ∈ n) (hy : y ∈ n) : (f x < f y ↔ x < y) := by
  refine ⟨fun k => ?_, h x hx y hy⟩
  rcases Int.lt_trichotomy x y with z | z | z
  · exact z
  · subst z; omega
  · have := h y hy x hx z; omega
theorem MonoOn.eq {f : Int → Int} {n : List Int} (h : MonoOn f n) {x y : Int} (hx : x ∈ n) (hy : y ∈ n) : (f x = f y ↔ x = y) := by
  have a := h.lt hx hy
  have b := h.lt hy hx
  constructor
  · intro e; omega
  · intro e; subst e; rfl
def nm (b : List Int) (rows : List (List (List Int))) (d : Nat) : List Int := sortI (keys (aheadA b rows d))
theorem PatV.pw {p : List Int} (v : PatV p) : p.Pairwise (fun a b => b ≤ a) := by
  have : ∀ k i (h1 : i < p.length) (h2 : i + k < p.length), p[i + k] ≤ p[i] := by
    intro k
    induction k with
    | zero => intro i h1 h2; exact Int.le_refl _
    | succ k ih =>
      intro i h1 h2
      have a := ih i h1 (by omega)
      have c := v.fall (i + k) (by omega)
      have e : p[i + (k + 1)] = p[i + k + 1] := rfl
      omega
  refine List.pairwise_iff_getElem.mpr fun i j hi hj lt => ?_
  obtain ⟨k, rfl⟩ := Nat.exists_eq_add_of_lt lt
  have := this (k + 1) i hi hj
  exact this
theorem RowP.v {al : AL} {p : List Int} {row : List (List Int)} (r : RowP (sortI (keys al)) p row) (nd : (keys al).Nodup) (l : al.length ≤ 12) (pv : PatV p) (pn : p ≠ []) : RowV al p row := by
  have asc := sortI_asc nd
  have q := rev_perm r.pat
  have big : ∀ g ∈ row, 2 ≤ g.length := fun g hg => by
    have : (g.length : Int) ∈ p := q.mem_iff.mpr (List.mem_map.mpr ⟨g, hg, rfl⟩)
    have := pv.two _ this
    omega
  have fl : row.flatten.length ≤ 12 := by
    have h1 := sub_count (asc.imp fun h => by omega) r.nd (rows_in r)
    have h2 := List.countP_le_length (p := fun x => decide (x ∈ row.flatten)) (l := sortI (keys al))
    rw [h1, (sortI_perm _).length_eq, List.length_map] at h2
    omega
  have ll : ∀ L : List (List Int), (∀ g ∈ L, 2 ≤ g.length) → L.length ≤ L.flatten.length := by
    intro L hL
    induction L with
    | nil => simp
    | cons g L ih =>
      have := ih fun x hx => hL x (by simp [hx])
      have := hL g (by simp)
      rw [List.flatten_cons, List.length_append, List.length_cons]
      omega
  refine ⟨?_, fun g hg e => ?_, fun g hg => asc.sublist (r.sub g hg), fun g hg k hk => sortI_mem.mp ((r.sub g hg).subset hk), r.nd, ?_, r.pat, ?_, fl⟩
  · intro e; subst e
    have := q.length_eq
    simp at this
    exact pn this
  · have := big g hg
    subst e; simp at this
  · exact (sortR_uniq (List.Perm.refl _) r.srt).symm
  · have := ll row big
    omega
section
variable {b : List Int} {ds : List (List Int)}
def aliveN (b : List Int) (ds : List (List Int)) (d : Nat) : Nat := (bornBy b d - lostL (ds.take d)).toNat
structure AtD (b : List Int) (ds : List (List Int)) (d : Nat) (rows : List (List (List Int))) : Prop where
  len : rows.length = d
  ah : AhV b ds d (aheadA b rows d)
  asc : (nm b rows d).Pairwise (· < ·)
  many : (nm b rows d).length = aliveN b ds d
end

theorem for_ix {α : Type} {t : TGT} {b : CS} {Q : Fl → Rho → Hc → Prop} (mk : α → D) (L : List α) (I : Nat → Rho → Hc → Prop)
    (step : ∀ (i : Nat) (a : α) (ρ : Rho) (h : Hc), L[i]? = some a → I i ρ h → ∃ ρ1, asg t (mk a) ρ = some ρ1 ∧ wS (b ρ1 h) fun f ρ2 h2 => match f with | .nx => I (i + 1) ρ2 h2 | .ct => I (i + 1) ρ2 h2 | .bk => Q .nx ρ2 h2 | f => Q f ρ2 h2)
    (end_ : ∀ ρ h, I L.length ρ h → Q .nx ρ h) {ρ : Rho} {h : Hc} (start : I 0 ρ h) : wS (cForB t b (L.map mk) ρ h) Q := by
  refine for_inv (fun l ρ h => ∃ i, i ≤ L.length ∧ l = (L.drop i).map mk ∧ I i ρ h) ?_ ?_ _ _ _ ⟨0, by omega, by simp, start⟩
  · rintro ρ h ⟨i, hi, e, k⟩
    have e2 := congrArg List.length e
    simp at e2
    have : i = L.length := by omega
    subst this
    exact end_ ρ h k
  · rintro d r ρ h ⟨i, hi, e, k⟩
    have lt : i < L.length := by
      apply Nat.lt_of_not_le
      intro z
      rw [List.drop_eq_nil_of_le z] at e
      cases e
    rw [List.drop_eq_getElem_cons lt, List.map_cons] at e
    cases e
    obtain ⟨ρ1, e1, w⟩ := step i L[i] ρ h (List.getElem?_eq_getElem lt) k
    refine ⟨ρ1, e1, w.mono fun f ρ2 h2 q => ?_⟩
    cases f with
    | nx => exact ⟨i + 1, lt, rfl, q⟩
    | ct => exact ⟨i + 1, lt, rfl, q⟩
    | bk => exact q
    | ret d => exact q
    | exn c x => exact q
theorem range_at {n i a : Nat} (h : (List.range n)[i]? = some a) : a = i ∧ i < n := by
  obtain ⟨h1, h2⟩ := List.getElem?_eq_some_iff.mp h
  simp at h1 h2
  exact ⟨h2.symm, h1⟩
theorem Ap.ge {h h1 : Hc} {i : Nat} (a : Ap h h1) (hi : h1.length ≤ i) : h.length ≤ i := Nat.le_trans a.len hi
theorem comp_apF {α : Type} {t : TGT} {e : CE} {ρ : Rho} (mk F : α → D) : ∀ (l : List α) (h : Hc), (∀ a ∈ l, ∃ ρ1, asg t (mk a) ρ = some ρ1 ∧ ∀ h, ∃ h', e ρ1 h = .ok (F a) h' ∧ Ap h h') → ∃ h', cCompB t cYes e ρ (l.map mk) h = .ok (l.map F) h' ∧ Ap h h'
  | [], h, _ => ⟨h, rfl, .refl⟩
  | a :: l, h, k => by
    obtain ⟨ρ1, e1, k1⟩ := k a (by simp)
    obtain ⟨h1, e2, ap⟩ := k1 h
    obtain ⟨h2, e3, ap2⟩ := comp_apF mk F l h1 fun x hx => k x (by simp [hx])
    refine ⟨h2, ?_, ap.trans ap2⟩
    simp only [List.map_cons, cCompB, e1, cYes, q_bok, e2, e3]

theorem wS_bind2 {x y : CS} {ρ : Rho} {h : Hc} {S : Fl → Rho → Hc → Prop} {R : Rho → Hc → Prop} (w : wS (x ρ h) fun f ρ h => match f with | .nx => R ρ h | f => S f ρ h) (k : ∀ ρ h, R ρ h → wS (y ρ h) S) : wS (cSeq x y ρ h) S :=
  wS_loop (w.mono fun f ρ h q => by
    cases f with
    | nx => exact k _ _ q
    | _ => exact q)
theorem sum_twice : ∀ (p : List Int), (∀ x ∈ p, 2 ≤ x) → 2 * (p.length : Int) ≤ p.sum
  | [], _ => by simp
  | x :: p, h => by
    have := sum_twice p fun y hy => h y (by simp [hy])
    have := h x (by simp)
    simp; omega
theorem le_sumT : ∀ (p : List Int), (∀ x ∈ p, 2 ≤ x) → ∀ a ∈ p, a ≤ p.sum
  | [], _, a, h => by simp at h
  | x :: p, h, a, ha => by
    have h1 := sum_twice p fun y hy => h y (by simp [hy])
    have hx := h x (by simp)
    rw [List.sum_cons]
    rcases List.mem_cons.mp ha with rfl | ha
    · omega
    · have := le_sumT p (fun y hy => h y (by simp [hy])) a ha
      omega

end Gk

set_option Elab.async false
set_option linter.all false
set_option maxRecDepth 100000
namespace Gk
open PySem Sx
section
variable {b : List Int} {ds : List (List Int)}
end

section
variable {b : List Int} {ds : List (List Int)}
end

section
variable {b : List Int} {ds : List (List Int)} {h : Hc}
end

section
variable {b : List Int} {ds : List (List Int)}
end

def sR {α : Type} (l : List α) (f : α → Rat) : Rat := (l.map f).sum
section
variable {α β : Type}
theorem sR_nil {f : α → Rat} : sR [] f = 0 := rfl
theorem sR_cons {f : α → Rat} {a : α} {l : List α} : sR (a :: l) f = f a + sR l f := by simp [sR]
theorem sR_app {f : α → Rat} : ∀ {l m : List α}, sR (l ++ m) f = sR l f + sR m f
  | [], m => by rw [List.nil_append, sR_nil]; grind
  | a :: l, m => by rw [List.cons_append, sR_cons, sR_cons, sR_app]; grind
theorem sR_congr {f g : α → Rat} : ∀ {l : List α}, (∀ a ∈ l, f a = g a) → sR l f = sR l g
  | [], _ => rfl
  | a :: l, h => by rw [sR_cons, sR_cons, h a (by simp), sR_congr fun b hb => h b (by simp [hb])]
theorem sR_map {f : β → Rat} {g : α → β} : ∀ {l : List α}, sR (l.map g) f = sR l fun a => f (g a)
  | [] => rfl
  | a :: l => by rw [List.map_cons, sR_cons, sR_cons, sR_map]
theorem sR_add {f g : α → Rat} : ∀ {l : List α}, sR l (fun a => f a + g a) = sR l f + sR l g
  | [] => by simp only [sR_nil]; grind
  | a :: l => by rw [sR_cons, sR_cons, sR_cons, sR_add]; grind
theorem sR_mul {k : Rat} {f : α → Rat} : ∀ {l : List α}, sR l (fun a => k * f a) = k * sR l f
  | [] => by simp only [sR_nil]; grind
  | a :: l => by rw [sR_cons, sR_cons, sR_mul]; grind
theorem sR_zero : ∀ {l : List α}, sR l (fun _ => (0 : Rat)) = 0
  | [] => rfl
  | a :: l => by rw [sR_cons, sR_zero]; grind
theorem sR_const {k : Rat} : ∀ {l : List α}, sR l (fun _ => k) = (l.length : Nat) * k
  | [] => by simp only [sR_nil, List.length_nil]; grind
  | a :: l => by rw [sR_cons, sR_const, List.length_cons]; grind
theorem sR_swap {f : α → β → Rat} : ∀ {l : List α} {m : List β}, sR l (fun a => sR m fun b => f a b) = sR m (fun b => sR l fun a => f a b)
  | [], m => by simp only [sR_nil]; exact sR_zero.symm
  | a :: l, m => by
    rw [sR_cons, sR_swap]
    simp only [sR_cons]
    rw [sR_add]
theorem sR_perm {f : α → Rat} {l m : List α} (p : l.Perm m) : sR l f = sR m f := by
  induction p with
  | nil => rfl
  | cons a _ ih => rw [sR_cons, sR_cons, ih]
  | swap a b l => simp only [sR_cons]; grind
  | trans _ _ h1 h2 => exact h1.trans h2
theorem countP_sR (P : α → Bool) : ∀ l : List α, ((l.countP P : Nat) : Rat) = sR l fun a => if P a = true then 1 else 0
  | [] => by simp [sR_nil]
  | a :: l => by
    rw [List.countP_cons, sR_cons, ← countP_sR P l]
    split <;> simp <;> grind
end
def subsL : List Int → List (List Int)
  | [] => [[]]
  | x :: r => (subsL r).map (fun l => x :: l) ++ subsL r
theorem subs_sub : ∀ {n : List Int} {B : List Int}, B ∈ subsL n → B.Sublist n
  | [], B, h => by simp [subsL] at h; subst h; exact .slnil
  | x :: r, B, h => by
    simp only [subsL, List.mem_append, List.mem_map] at h
    rcases h with ⟨l, hl, rfl⟩ | h
    · exact (subs_sub hl).cons_cons x
    · exact (subs_sub h).cons x
def chN : Nat → Nat → Nat
  | _, 0 => 1
  | 0, _ + 1 => 0
  | n + 1, k + 1 => chN n k + chN n (k + 1)
theorem ch_zero (n : Nat) : chN n 0 = 1 := by cases n <;> rfl
theorem ch_over : ∀ {n k : Nat}, n < k → chN n k = 0
  | n, 0, h => absurd h (Nat.not_lt_zero _)
  | 0, k + 1, _ => rfl
  | n + 1, k + 1, h => by
    simp only [chN]
    rw [ch_over (by omega), ch_over (by omega)]
theorem ch_pos : ∀ {n k : Nat}, k ≤ n → 0 < chN n k
  | n, 0, _ => by rw [ch_zero]; decide
  | 0, k + 1, h => by omega
  | n + 1, k + 1, h => by
    simp only [chN]
    have := ch_pos (n := n) (k := k) (by omega)
    omega
theorem sR_range0 {f : Nat → Rat} (N : Nat) : sR (List.range (N + 1)) f = f 0 + sR (List.range N) fun i => f (i + 1) := by
  rw [List.range_succ_eq_map, sR_cons, sR_map]
theorem sR_last {f : Nat → Rat} (N : Nat) : sR (List.range (N + 1)) f = sR (List.range N) f + f N := by
  rw [List.range_succ, sR_app, sR_cons, sR_nil]; grind
theorem subs_len {ψ : Nat → Rat} : ∀ (g : List Int), sR (subsL g) (fun b => ψ b.length) = sR (List.range (g.length + 1)) fun a => (chN g.length a : Nat) * ψ a
  | [] => by simp [subsL, sR_cons, sR_nil, chN]
  | x :: g => by
    simp only [subsL]
    rw [sR_app, sR_map]
    simp only [List.length_cons]
    rw [subs_len (ψ := fun a => ψ (a + 1)) g, subs_len (ψ := ψ) g, sR_range0 (g.length + 1), sR_range0 (f := fun a => (chN g.length a : Nat) * ψ a) g.length]
    simp only [chN]
    rw [sR_last (f := fun i => ((chN g.length i + chN g.length (i + 1) : Nat) : Rat) * ψ (i + 1)) g.length, sR_last (f := fun a => (chN g.length a : Nat) * ψ (a + 1)) g.length, ch_over (Nat.lt_succ_self g.length)]
    have e : sR (List.range g.length) (fun i => ((chN g.length i + chN g.length (i + 1) : Nat) : Rat) * ψ (i + 1)) = sR (List.range g.length) (fun a => (chN g.length a : Nat) * ψ (a + 1)) + sR (List.range g.length) fun a => (chN g.length (a + 1) : Nat) * ψ (a + 1) := by
      rw [← sR_add]
      refine sR_congr fun i _ => ?_
      simp; grind
    rw [e]
    simp; grind
theorem subs_app {h : List Int → Rat} : ∀ (g L : List Int), sR (subsL (g ++ L)) h = sR (subsL g) fun b => sR (subsL L) fun c => h (b ++ c)
  | [], L => by simp only [subsL, List.nil_append, sR_cons, sR_nil]; grind
  | x :: g, L => by
    simp only [subsL, List.cons_append]
    rw [sR_app, sR_app, sR_map, sR_map, subs_app (h := fun l => h (x :: l)) g L, subs_app g L]
    rfl
theorem subs_perm {L L' : List Int} (p : L.Perm L') : ∀ {h : List Int → Rat}, (∀ B B' : List Int, B.Perm B' → h B = h B') → sR (subsL L) h = sR (subsL L') h := by
  induction p with
  | nil => intro h _; rfl
  | cons a _ ih =>
    intro h hh
    simp only [subsL]
    rw [sR_app, sR_app, sR_map, sR_map, ih hh, ih (h := fun l => h (a :: l)) fun B B' q => hh _ _ (q.cons a)]
  | swap a b l =>
    intro h hh
    simp only [subsL]
    simp only [sR_app, sR_map, List.map_append, List.map_map]
    have e : sR (subsL l) (fun x => h (a :: b :: x)) = sR (subsL l) (fun x => h (b :: a :: x)) := sR_congr fun x _ => hh _ _ (List.Perm.swap _ _ _)
    simp only [Function.comp_def, sR_map]
    grind
  | trans _ _ h1 h2 => intro h hh; exact (h1 hh).trans (h2 hh)

abbrev Alw := Nat → Nat → Bool
def evG (al : Alw) : List Nat → (Nat → Nat → Rat) → Rat
  | [], φ => φ 0 0
  | s :: r, φ => sR (List.range (s + 1)) fun a => (chN s a : Nat) * (if al s a = true then evG al r (fun i j => φ (a + i) ((if a = 0 then 0 else 1) + j)) else 0)
abbrev inB (B : List Int) : Int → Bool := fun x => decide (x ∈ B)
def okR (al : Alw) (row : List (List Int)) (β : Int → Bool) : Bool := row.all fun g => al g.length (g.countP β)
def tcP (parts : List (List Int)) (β : Int → Bool) : Nat := (parts.filter fun g => g.any β).length
theorem countP_pos_any {β : Int → Bool} : ∀ {g : List Int}, g.any β = decide (g.countP β ≠ 0)
  | [] => rfl
  | x :: g => by
    rw [List.any_cons, List.countP_cons, countP_pos_any]
    cases β x <;> simp
theorem parts_ev {al : Alw} : ∀ {parts : List (List Int)} {φ : Nat → Nat → Rat}, parts.flatten.Nodup → sR (subsL parts.flatten) (fun B => if okR al parts (inB B) = true then φ B.length (tcP parts (inB B)) else 0) = evG al (parts.map List.length) φ
  | [], φ, _ => by
    simp only [List.flatten_nil, subsL, sR_cons, sR_nil, evG, List.map_nil]
    simp [okR, tcP]
    grind
  | g :: r, φ, nd => by
    rw [List.flatten_cons] at nd ⊢
    obtain ⟨n1, n2, n3⟩ := List.nodup_append.mp nd
    rw [subs_app]
    have e : ∀ b ∈ subsL g, sR (subsL r.flatten) (fun c => if okR al (g :: r) (inB (b ++ c)) = true then φ (b ++ c).length (tcP (g :: r) (inB (b ++ c))) else 0) =
        if al g.length b.length = true then evG al (r.map List.length) (fun i j => φ (b.length + i) ((if b.length = 0 then 0 else 1) + j)) else 0 := by
      intro b hb
      have sb := subs_sub hb
      have one : ∀ c ∈ subsL r.flatten, (if okR al (g :: r) (inB (b ++ c)) = true then φ (b ++ c).length (tcP (g :: r) (inB (b ++ c))) else 0) =
          if al g.length b.length = true then (if okR al r (inB c) = true then φ (b.length + c.length) ((if b.length = 0 then 0 else 1) + tcP r (inB c)) else 0) else 0 := by
        intro c hc
        have sc := subs_sub hc
        have cg : g.countP (inB (b ++ c)) = b.length := by
          rw [← sub_count n1 (n1.sublist sb) fun x hx => sb.subset hx]
          refine List.countP_congr fun x hx => ?_
          have : x ∉ c := fun z => n3 x hx x (sc.subset z) rfl
          simp [this]
        have cr : ∀ g' ∈ r, g'.countP (inB (b ++ c)) = g'.countP (inB c) := fun g' hg => by
          refine List.countP_congr fun x hx => ?_
          have : x ∉ b := fun z => n3 x (sb.subset z) x (List.mem_flatten.mpr ⟨g', hg, hx⟩) rfl
          simp [this]
        have ok : okR al (g :: r) (inB (b ++ c)) = (al g.length b.length && okR al r (inB c)) := by
          unfold okR
          rw [List.all_cons, cg]
          congr 1
          rw [Bool.eq_iff_iff, List.all_eq_true, List.all_eq_true]
          exact ⟨fun h g' hg => by rw [← cr g' hg]; exact h g' hg, fun h g' hg => by rw [cr g' hg]; exact h g' hg⟩
        have tc : tcP (g :: r) (inB (b ++ c)) = (if b.length = 0 then 0 else 1) + tcP r (inB c) := by
          unfold tcP
          have er : (r.filter fun g => g.any (inB (b ++ c))) = r.filter fun g => g.any (inB c) := List.filter_congr fun g' hg => by
            rw [countP_pos_any, countP_pos_any, cr g' hg]
          rw [List.filter_cons, countP_pos_any, cg, er]
          by_cases z : b.length = 0
          · simp [z]
          · simp [z]; omega
        rw [ok, tc, List.length_append]
        cases al g.length b.length <;> simp
      rw [sR_congr one]
      by_cases z : al g.length b.length = true
      · simp only [z, if_true]
        exact parts_ev (φ := fun i j => φ (b.length + i) ((if b.length = 0 then 0 else 1) + j)) n2
      · simp only [z, if_false]
        exact sR_zero
    rw [sR_congr e, subs_len (ψ := fun a => if al g.length a = true then evG al (r.map List.length) (fun i j => φ (a + i) ((if a = 0 then 0 else 1) + j)) else 0) g]
    rfl
theorem permLift {α β : Type} (f : α → β) {m n : List β} (h : m.Perm n) : ∀ l : List α, l.map f = n → ∃ l' : List α, l'.Perm l ∧ l'.map f = m := by
  induction h with
  | nil => exact fun l e => ⟨l, .refl _, e⟩
  | @cons x a b _ ih =>
    intro l e
    cases l with
    | nil => cases e
    | cons y l =>
      rw [List.map_cons] at e
      obtain ⟨e1, e2⟩ := List.cons.inj e
      obtain ⟨l', q1, q2⟩ := ih l e2
      exact ⟨y :: l', q1.cons y, by rw [List.map_cons, e1, q2]⟩
  | swap x y t =>
    intro l e
    cases l with
    | nil => cases e
    | cons u l =>
      cases l with
      | nil => cases e
      | cons v l =>
        simp only [List.map_cons] at e
        obtain ⟨e1, e2⟩ := List.cons.inj e
        obtain ⟨e3, e4⟩ := List.cons.inj e2
        exact ⟨v :: u :: l, List.Perm.swap _ _ _, by simp only [List.map_cons, e1, e3, e4]⟩
  | trans _ _ h1 h2 =>
    intro l e
    obtain ⟨l1, q1, q2⟩ := h2 l e
    obtain ⟨l2, q3, q4⟩ := h1 l1 q2
    exact ⟨l2, q3.trans q1, q4⟩
def tcR (n : List Int) (row : List (List Int)) (β : Int → Bool) : Nat := tcP row β + (n.filter fun x => β x && !inR x row).length
theorem tcP_app {a b : List (List Int)} {β : Int → Bool} : tcP (a ++ b) β = tcP a β + tcP b β := by unfold tcP; rw [List.filter_append, List.length_append]
theorem tcP_one {β : Int → Bool} : ∀ {l : List Int}, tcP (l.map fun x => [x]) β = (l.filter β).length
  | [] => rfl
  | x :: l => by
    have ih := tcP_one (l := l) (β := β)
    unfold tcP at ih ⊢
    rw [List.map_cons, List.filter_cons, List.filter_cons]
    have e : [x].any β = β x := by simp
    rw [e]
    cases β x <;> simp [ih]
abbrev szs (n p : List Int) : List Nat := p.map Int.toNat ++ List.replicate (n.length - p.sum.toNat) 1
section
variable {n p : List Int} {al : Alw} (asc : n.Pairwise (· < ·)) (fall : p.Pairwise (fun a b => b ≤ a)) (pos : ∀ s ∈ p, 1 ≤ s) (a10 : al 1 0 = true) (a11 : al 1 1 = true)
include asc a10 a11 in
theorem row_ev {row : List (List Int)} (r : RowP n p row) (φ : Nat → Nat → Rat) : sR (subsL n) (fun B => if okR al row (inB B) = true then φ B.length (tcR n row (inB B)) else 0) = evG al (szs n p) φ := by
  have nn : n.Nodup := asc.imp fun h => by omega
  obtain ⟨row', pr, el⟩ := permLift (fun g : List Int => (g.length : Int)) (rev_perm r.pat) row rfl
  let rest := n.filter fun x => !inR x row
  let parts := row' ++ rest.map fun x => [x]
  have fl : parts.flatten = row'.flatten ++ rest := by
    show (row' ++ rest.map fun x => [x]).flatten = _
    rw [List.flatten_append]
    congr 1
    generalize rest = l
    induction l with
    | nil => rfl
    | cons x l ih => rw [List.map_cons, List.flatten_cons, ih]; rfl
  have fp : row'.flatten.Perm row.flatten := flat_perm pr
  have inr : ∀ x, inR x row = decide (x ∈ row'.flatten) := fun x => by
    rw [inR_flat]
    by_cases c : x ∈ row.flatten
    · simp only [c, fp.mem_iff.mpr c]
    · have : x ∉ row'.flatten := fun z => c (fp.mem_iff.mp z)
      simp only [c, this]
  have nd : parts.flatten.Nodup := by
    rw [fl]
    refine List.nodup_append.mpr ⟨fp.nodup_iff.mpr r.nd, nn.sublist List.filter_sublist, fun x hx y hy e => ?_⟩
    subst e
    have h2 := (List.mem_filter.mp hy).2
    rw [inr] at h2
    simp [hx] at h2
  have pm : n.Perm parts.flatten := by
    refine (List.perm_ext_iff_of_nodup nn nd).mpr fun x => ?_
    rw [fl, List.mem_append, List.mem_filter, inr]
    constructor
    · intro h
      by_cases c : x ∈ row'.flatten
      · exact .inl c
      · exact .inr ⟨h, by simp [c]⟩
    · rintro (h | h)
      · exact rows_in r x (fp.mem_iff.mp h)
      · exact h.1
  have lens : parts.map List.length = szs n p := by
    show (row' ++ rest.map fun x => [x]).map List.length = _
    rw [List.map_append]
    have e1 : row'.map List.length = p.map Int.toNat := by
      rw [← el, List.map_map]
      exact List.map_congr_left fun g _ => by simp
    have e2 : (rest.map fun x => [x]).map List.length = List.replicate rest.length 1 := by
      generalize rest = l
      induction l with
      | nil => rfl
      | cons x l ih => rw [List.map_cons, List.map_cons, ih]; rfl
    have e3 : n.length = row'.flatten.length + rest.length := by
      rw [pm.length_eq, fl, List.length_append]
    have e4 := r.tot
    have e5 := fp.length_eq
    rw [e1, e2]
    congr 2
    omega
  have ok : ∀ β : Int → Bool, okR al parts β = okR al row β := fun β => by
    unfold okR
    rw [List.all_append]
    have h1 : (rest.map fun x => [x]).all (fun g => al g.length (g.countP β)) = true := by
      rw [List.all_map, List.all_eq_true]
      intro x _
      simp only [Function.comp_apply, List.length_singleton, List.countP_cons, List.countP_nil]
      split <;> simp [a10, a11]
    rw [h1, Bool.and_true, Bool.eq_iff_iff, List.all_eq_true, List.all_eq_true]
    exact ⟨fun h g hg => h g (pr.mem_iff.mpr hg), fun h g hg => h g (pr.mem_iff.mp hg)⟩
  have tc : ∀ β : Int → Bool, tcP parts β = tcR n row β := fun β => by
    show tcP (row' ++ _) β = _
    rw [tcP_app, tcP_one]
    unfold tcR
    congr 1
    · unfold tcP
      exact (pr.filter _).length_eq
    · show ((n.filter fun x => !inR x row).filter β).length = _
      rw [List.filter_filter]
  rw [← lens, ← parts_ev nd, subs_perm pm (h := fun B => if okR al row (inB B) = true then φ B.length (tcR n row (inB B)) else 0) ?_]
  · refine sR_congr fun B _ => ?_
    rw [ok, tc]
  · intro B B' q
    have e : inB B = inB B' := funext fun x => by
      show decide (x ∈ B) = decide (x ∈ B')
      by_cases c : x ∈ B
      · rw [decide_eq_true c, decide_eq_true (q.mem_iff.mp c)]
      · rw [decide_eq_false c, decide_eq_false fun z => c (q.mem_iff.mpr z)]
    rw [e, q.length_eq]
def QN (al : Alw) (n : List Int) (j : Nat) (β : Int → Bool) (row : List (List Int)) : Bool := okR al row β && decide (tcR n row β = j)
theorem swap_perm {a c : Int} (nn : n.Nodup) (ha : a ∈ n) (hc : c ∈ n) : (n.map (swI a c)).Perm n := by
  refine (List.perm_ext_iff_of_nodup (map_nd (fun x y => swI_inj) nn) nn).mpr fun x => ?_
  rw [List.mem_map]
  constructor
  · rintro ⟨y, hy, rfl⟩
    exact swI_in ha hc hy
  · intro hx
    exact ⟨swI a c x, swI_in ha hc hx, swI_swI a c x⟩
theorem swG_count {a c : Int} {g : List Int} {β : Int → Bool} : (swG a c g).countP β = g.countP (fun x => β (swI a c x)) := by
  unfold swG
  rw [(sortI_perm _).countP_eq, count_map]
theorem swG_lenE {a c : Int} {g : List Int} : (swG a c g).length = g.length := by
  unfold swG
  rw [(sortI_perm _).length_eq, List.length_map]
theorem QN_sw {a c : Int} (nn : n.Nodup) (ha : a ∈ n) (hc : c ∈ n) {j : Nat} {β : Int → Bool} {row : List (List Int)} : QN al n j (fun x => β (swI a c x)) row = QN al n j β (swR a c row) := by
  have pm : (swR a c row).Perm (row.map (swG a c)) := sortR_perm _
  unfold QN
  congr 1
  · unfold okR
    have h1 : (swR a c row).all (fun g => al g.length (g.countP β)) = (row.map (swG a c)).all (fun g => al g.length (g.countP β)) := by
      rw [Bool.eq_iff_iff, List.all_eq_true, List.all_eq_true]
      exact ⟨fun h g hg => h g (pm.mem_iff.mpr hg), fun h g hg => h g (pm.mem_iff.mp hg)⟩
    rw [h1, List.all_map]
    congr 1
    funext g
    simp only [Function.comp_apply, swG_count, swG_lenE]
  · congr 2
    unfold tcR
    congr 1
    · unfold tcP
      rw [(pm.filter _).length_eq, List.filter_map, List.length_map]
      congr 1
      refine List.filter_congr fun g _ => ?_
      simp only [Function.comp_apply]
      rw [countP_pos_any, countP_pos_any, swG_count]
    · rw [← ((swap_perm nn ha hc).filter fun x => β x && !inR x (swR a c row)).length_eq, List.filter_map, List.length_map]
      congr 1
      refine List.filter_congr fun x _ => ?_
      simp only [Function.comp_apply]
      rw [inR_sw, swI_swI]
include asc fall pos in
theorem QN_ext {j : Nat} {β γ : Int → Bool} (e : ∀ x ∈ n, β x = γ x) {row : List (List Int)} (hr : row ∈ groupsL n p) : QN al n j β row = QN al n j γ row := by
  have r := (groups_mem p n asc fall pos row).mp hr
  have cg : ∀ g ∈ row, g.countP β = g.countP γ := fun g hg => List.countP_congr fun x hx => by rw [e x ((r.sub g hg).subset hx)]
  unfold QN
  congr 1
  · unfold okR
    rw [Bool.eq_iff_iff, List.all_eq_true, List.all_eq_true]
    exact ⟨fun h g hg => by rw [← cg g hg]; exact h g hg, fun h g hg => by rw [cg g hg]; exact h g hg⟩
  · congr 2
    unfold tcR tcP
    congr 2
    · exact List.filter_congr fun g hg => by rw [countP_pos_any, countP_pos_any, cg g hg]
    · exact List.filter_congr fun x hx => by rw [e x hx]
theorem count_lt {β γ : Int → Bool} : ∀ {n : List Int}, (∀ x ∈ n, β x = true → γ x = true) → n.countP β ≤ n.countP γ ∧ ((∃ x ∈ n, γ x = true ∧ β x = false) → n.countP β < n.countP γ)
  | [], _ => ⟨Nat.le_refl _, fun ⟨x, h, _⟩ => by simp at h⟩
  | y :: n, h => by
    obtain ⟨h1, h2⟩ := count_lt (n := n) fun x hx => h x (by simp [hx])
    have hy := h y (by simp)
    rw [List.countP_cons, List.countP_cons]
    refine ⟨?_, fun ⟨x, hx, h3, h4⟩ => ?_⟩
    · cases b : β y
      · simp; omega
      · simp [hy b]; omega
    · rcases List.mem_cons.mp hx with rfl | hx
      · simp [h3, h4]; omega
      · have := h2 ⟨x, hx, h3, h4⟩
        cases b : β y
        · simp; omega
        · simp [hy b]; omega
theorem find_diff {β γ : Int → Bool} (e : n.countP β = n.countP γ) (d : ∃ x ∈ n, β x ≠ γ x) : ∃ x ∈ n, β x = true ∧ γ x = false := by
  apply Classical.byContradiction
  intro k
  have le : ∀ x ∈ n, β x = true → γ x = true := fun x hx hb => by
    cases g : γ x
    · exact absurd ⟨x, hx, hb, g⟩ k
    · rfl
  obtain ⟨x, hx, ne⟩ := d
  have : γ x = true ∧ β x = false := by
    cases b : β x
    · cases g : γ x
      · rw [b, g] at ne; exact absurd rfl ne
      · exact ⟨rfl, rfl⟩
    · have := le x hx b
      rw [b, this] at ne; exact absurd rfl ne
  have := (count_lt le).2 ⟨x, hx, this⟩
  omega
include asc fall pos in
theorem sym_count {j : Nat} : ∀ (k : Nat) {β γ : Int → Bool}, n.countP (fun x => β x != γ x) ≤ k → n.countP β = n.countP γ → (groupsL n p).countP (QN al n j β) = (groupsL n p).countP (QN al n j γ) := by
  have nn : n.Nodup := asc.imp fun h => by omega
  intro k
  induction k with
  | zero =>
    intro β γ hk e
    have z := List.countP_eq_zero.mp (Nat.le_zero.mp hk)
    refine List.countP_congr fun row hr => ?_
    rw [QN_ext asc fall pos (fun x hx => by simpa using z x hx) hr]
  | succ k ih =>
    intro β γ hk e
    by_cases d : ∃ x ∈ n, β x ≠ γ x
    · obtain ⟨a, ha, a1, a2⟩ := find_diff e d
      obtain ⟨c, hc, c1, c2⟩ := find_diff e.symm (let ⟨x, h1, h2⟩ := d; ⟨x, h1, h2.symm⟩)
      have ne : a ≠ c := fun z => by rw [z, c2] at a1; cases a1
      have cs : n.countP (fun x => β (swI a c x)) = n.countP β := by
        rw [← count_map, (swap_perm nn ha hc).countP_eq]
      have st : (groupsL n p).countP (QN al n j fun x => β (swI a c x)) = (groupsL n p).countP (QN al n j β) := by
        have := swR_count asc fall pos ha hc (QN al n j β)
        rw [← this]
        refine List.countP_congr fun row _ => ?_
        rw [QN_sw nn ha hc]
      rw [← st]
      refine ih ?_ (cs.trans e)
      have sa : swI a c a = c := by simp [swI]
      have sc : swI a c c = a := by
        unfold swI
        rw [if_neg (Ne.symm ne), if_pos rfl]
      have lt := (count_lt (n := n) (β := fun x => β (swI a c x) != γ x) (γ := fun x => β x != γ x) fun x hx h => by
        by_cases xa : x = a
        · subst xa; simp [a1, a2]
        · by_cases xc : x = c
          · subst xc; simp [c1, c2]
          · have : swI a c x = x := by simp [swI, xa, xc]
            rw [this] at h; exact h).2 ⟨a, ha, by simp [a1, a2], by simp [sa, c2, a2]⟩
      omega
    · refine ih ?_ e
      have : n.countP (fun x => β x != γ x) = 0 := List.countP_eq_zero.mpr fun x hx z => d ⟨x, hx, by simpa using z⟩
      omega
def fiN (al : Alw) (n p : List Int) (j i : Nat) : Nat := (groupsL n p).countP (QN al n j (inB (n.take i)))
include asc fall pos in
theorem fi_of {j : Nat} {β : Int → Bool} : (groupsL n p).countP (QN al n j β) = fiN al n p j (n.countP β) := by
  have nn : n.Nodup := asc.imp fun h => by omega
  refine sym_count asc fall pos _ (Nat.le_refl _) ?_
  have le : n.countP β ≤ n.length := List.countP_le_length
  rw [sub_count nn (nn.sublist (List.take_sublist _ _)) fun x hx => List.mem_of_mem_take hx, List.length_take]
  omega
include asc fall pos a10 a11 in
theorem chosen_main (F : Nat → Rat) (j0 : Nat) : ((groupsL n p).length : Nat) * evG al (szs n p) (fun i j => if j = j0 then F i else 0) = sR (List.range (n.length + 1)) fun i => (chN n.length i : Nat) * (F i * (fiN al n p j0 i : Nat)) := by
  have nn : n.Nodup := asc.imp fun h => by omega
  rw [← sR_const, sR_congr (g := fun row => sR (subsL n) fun B => if okR al row (inB B) = true then (if tcR n row (inB B) = j0 then F B.length else 0) else 0) fun row hr => (row_ev asc a10 a11 ((groups_mem p n asc fall pos row).mp hr) _).symm]
  rw [sR_swap, ← subs_len (ψ := fun i => F i * (fiN al n p j0 i : Nat)) n]
  refine sR_congr fun B hB => ?_
  have sB := subs_sub hB
  have cB : n.countP (inB B) = B.length := sub_count nn (nn.sublist sB) fun x hx => sB.subset hx
  have := fi_of (al := al) asc fall pos (j := j0) (β := inB B)
  rw [cB] at this
  rw [← this, countP_sR, ← sR_mul]
  refine sR_congr fun row _ => ?_
  unfold QN
  cases c1 : okR al row (inB B)
  · simp
  · by_cases c2 : tcR n row (inB B) = j0
    · simp [c2]; try grind
    · simp [c2]; try grind
end

end Gk

set_option Elab.async false
set_option linter.all false
set_option maxRecDepth 100000
namespace Gk
open PySem Sx
section
variable {h : Hc}
end
theorem q_setX33 {e o i : CE} {ρ : Rho} {h h1 h2 h3 h4 : Hc} {d x y : D} (e1 : e ρ h = .ok d h1) (e2 : o ρ h1 = .ok x h2) (e3 : i ρ h2 = .ok y h3) (g : xPut x y d h3 = some h4) : cSetX e o i ρ h = .ok .nx ρ h4 := by
  unfold cSetX
  rw [e1, q_ofok, e2, q_ofok, e3, q_ofok, g]
theorem flat_ge33 : ∀ {T : List (List Int)}, (∀ l ∈ T, l ≠ []) → T.length ≤ T.flatten.length
  | [], _ => by simp
  | a :: T, h => by
    have ih := flat_ge33 (T := T) fun l hl => h l (by simp [hl])
    have := List.length_pos_iff.mpr (h a (by simp))
    rw [List.flatten_cons, List.length_append, List.length_cons]
    omega
section
variable {b : List Int} {ds : List (List Int)}
end

def chunkL : List Int → List Nat → List (List Int)
  | _, [] => []
  | n, s :: p => n.take s :: chunkL (n.drop s) p
theorem chunk_sub : ∀ (p : List Nat) (n : List Int), ∀ g ∈ chunkL n p, g.Sublist n
  | [], _, g, h => by simp [chunkL] at h
  | s :: p, n, g, h => by
    rcases List.mem_cons.mp h with rfl | h
    · exact List.take_sublist _ _
    · exact (chunk_sub p _ g h).trans (List.drop_sublist _ _)
theorem chunk_flat : ∀ (p : List Nat) (n : List Int), (chunkL n p).flatten = n.take p.sum
  | [], n => by simp [chunkL]
  | s :: p, n => by
    rw [chunkL, List.flatten_cons, chunk_flat p, List.sum_cons, List.take_add]
theorem chunk_len : ∀ (p : List Nat) (n : List Int), p.sum ≤ n.length → (chunkL n p).map List.length = p
  | [], n, _ => rfl
  | s :: p, n, h => by
    rw [List.sum_cons] at h
    rw [chunkL, List.map_cons, chunk_len p (n.drop s) (by rw [List.length_drop]; omega), List.length_take]
    congr 1
    omega
theorem nat_sum : ∀ p : List Int, (∀ s ∈ p, 0 ≤ s) → (((p.map Int.toNat).sum : Nat) : Int) = p.sum
  | [], _ => rfl
  | s :: p, h => by
    have := nat_sum p fun x hx => h x (by simp [hx])
    have := h s (by simp)
    rw [List.map_cons, List.sum_cons, List.sum_cons]
    omega
theorem groups_ne {n p : List Int} (asc : n.Pairwise (· < ·)) (fall : p.Pairwise (fun a b => b ≤ a)) (pos : ∀ s ∈ p, 1 ≤ s) (few : p.sum ≤ (n.length : Nat)) : groupsL n p ≠ [] := by
  have nn : n.Nodup := asc.imp fun h => by omega
  have ps := nat_sum p fun s hs => by have := pos s hs; omega
  have fl : (chunkL n (p.map Int.toNat)).flatten.Sublist n := by rw [chunk_flat]; exact List.take_sublist _ _
  have r : RowP n p (sortR (chunkL n (p.map Int.toNat))) := by
    have q := sortR_perm (chunkL n (p.map Int.toNat))
    refine ⟨fun g hg => chunk_sub _ _ g (q.mem_iff.mp hg), (flat_perm q).nodup_iff.mpr (nn.sublist fl), sortR_sorted _, rev_of ?_ fall⟩
    have e : (chunkL n (p.map Int.toNat)).map (fun g => (g.length : Int)) = p := by
      have := chunk_len (p.map Int.toNat) n (by omega)
      have e2 : (chunkL n (p.map Int.toNat)).map (fun g => (g.length : Int)) = ((chunkL n (p.map Int.toNat)).map List.length).map fun (k : Nat) => (k : Int) := by rw [List.map_map]; rfl
      rw [e2, this, List.map_map]
      conv => rhs; rw [← List.map_id p]
      refine List.map_congr_left fun s hs => ?_
      have := pos s hs
      simp only [Function.comp, id]
      omega
    have := q.map fun g => (g.length : Int)
    rw [e] at this
    exact this.symm
  exact List.ne_nil_of_mem ((groups_mem p n asc fall pos _).mpr r)
section
variable {b : List Int} {ds : List (List Int)}
end
theorem snoc_ind {α : Type} {P : List α → Prop} (h0 : P []) (h1 : ∀ l a, P l → P (l ++ [a])) (l : List α) : P l := by
  have : ∀ m : List α, P m.reverse := by
    intro m
    induction m with
    | nil => exact h0
    | cons a m ih => rw [List.reverse_cons]; exact h1 _ _ ih
  rw [← List.reverse_reverse l]
  exact this _
theorem fall_app {p : List Int} {s : Int} (h : (p ++ [s]).Pairwise (fun a b => b ≤ a)) : p.Pairwise (fun a b => b ≤ a) := (List.pairwise_append.mp h).1
theorem RowP.more {n p g : List Int} {row : List (List Int)} (r : RowP n p row) (hg : g.Sublist n) (ng : g.Nodup) (dis : ∀ x ∈ g, x ∉ row.flatten) (fall : (p ++ [(g.length : Int)]).Pairwise (fun a b => b ≤ a)) : RowP n (p ++ [(g.length : Int)]) (sortR (row ++ [g])) := by
  have q := sortR_perm (row ++ [g])
  refine ⟨fun x hx => ?_, ?_, sortR_sorted _, rev_of ?_ fall⟩
  · rcases List.mem_append.mp (q.mem_iff.mp hx) with h | h
    · exact r.sub x h
    · rw [List.mem_singleton.mp h]; exact hg
  · rw [(flat_perm q).nodup_iff, List.flatten_append]
    refine List.nodup_append.mpr ⟨r.nd, by simpa using ng, fun a ha c hc e => ?_⟩
    subst e
    exact dis a (by simpa using hc) ha
  · have h1 := rev_perm r.pat
    have h2 := q.map fun g => (g.length : Int)
    rw [List.map_append] at h2
    exact (h1.append_right _).trans h2.symm
theorem RowP.less {n p : List Int} {s : Int} {row : List (List Int)} (r : RowP n (p ++ [s]) row) (fall : (p ++ [s]).Pairwise (fun a b => b ≤ a)) : ∃ row' g, RowP n p row' ∧ g.Sublist n ∧ (g.length : Int) = s ∧ (∀ x ∈ g, x ∉ row'.flatten) ∧ row = sortR (row' ++ [g]) := by
  have h1 := rev_perm r.pat
  have hs : s ∈ row.map fun g => (g.length : Int) := h1.mem_iff.mp (by simp)
  obtain ⟨g, hg, e⟩ := List.mem_map.mp hs
  have pe := List.perm_cons_erase hg
  have fl := flat_perm pe
  have nd := (fl.nodup_iff).mp r.nd
  rw [List.flatten_cons] at nd
  refine ⟨row.erase g, g, ⟨fun x hx => r.sub x (List.mem_of_mem_erase hx), (List.nodup_append.mp nd).2.1, r.srt.sublist List.erase_sublist, rev_of ?_ (fall_app fall)⟩, r.sub g hg, e, fun x hx hy => (List.nodup_append.mp nd).2.2 x hx x hy rfl, sortR_uniq (pe.trans (List.perm_append_singleton g _).symm) r.srt⟩
  have h2 := pe.map fun g => (g.length : Int)
  rw [List.map_cons, e] at h2
  have h3 := (h1.symm.trans (List.perm_append_singleton s p)).symm.trans h2
  exact List.Perm.cons_inv h3
def leftL (n : List Int) (row : List (List Int)) : List Int := n.filter fun x => !inR x row
theorem left_sub (n : List Int) (row : List (List Int)) : (leftL n row).Sublist n := List.filter_sublist
theorem left_mem {n : List Int} {row : List (List Int)} {x : Int} : x ∈ leftL n row ↔ x ∈ n ∧ x ∉ row.flatten := by
  unfold leftL
  rw [List.mem_filter, inR_flat]
  simp
def addK (F : List (List (List Int))) (r : List (List Int)) : List (List (List Int)) := if r ∈ F then F else F ++ [r]
theorem addK_mem {F : List (List (List Int))} {r x : List (List Int)} : x ∈ addK F r ↔ x ∈ F ∨ x = r := by
  unfold addK
  split
  · rename_i h
    exact ⟨.inl, fun q => q.elim id fun e => e ▸ h⟩
  · rw [List.mem_append, List.mem_singleton]
theorem addK_nd {F : List (List (List Int))} {r : List (List Int)} (h : F.Nodup) : (addK F r).Nodup := by
  unfold addK
  split
  · exact h
  · rename_i c
    exact List.nodup_append.mpr ⟨h, by simp, fun a ha b hb e => c (by rw [List.mem_singleton] at hb; subst hb; subst e; exact ha)⟩
def addG (row : List (List Int)) (F : List (List (List Int))) (gs : List (List Int)) : List (List (List Int)) := gs.foldl (fun F g => addK F (sortR (row ++ [g]))) F
theorem addG_mem {row : List (List Int)} {x : List (List Int)} : ∀ {gs : List (List Int)} {F : List (List (List Int))}, x ∈ addG row F gs ↔ x ∈ F ∨ ∃ g ∈ gs, x = sortR (row ++ [g])
  | [], F => by simp [addG]
  | g :: gs, F => by
    have ih := addG_mem (row := row) (x := x) (gs := gs) (F := addK F (sortR (row ++ [g])))
    unfold addG at ih ⊢
    rw [List.foldl_cons, ih, addK_mem]
    simp only [List.mem_cons]
    constructor
    · rintro ((h | h) | ⟨g', hg, h⟩)
      · exact .inl h
      · exact .inr ⟨g, .inl rfl, h⟩
      · exact .inr ⟨g', .inr hg, h⟩
    · rintro (h | ⟨g', rfl | hg, h⟩)
      · exact .inl (.inl h)
      · exact .inl (.inr h)
      · exact .inr ⟨g', hg, h⟩
theorem addG_nd {row : List (List Int)} : ∀ {gs : List (List Int)} {F : List (List (List Int))}, F.Nodup → (addG row F gs).Nodup
  | [], F, h => h
  | g :: gs, F, h => by
    have ih := addG_nd (row := row) (gs := gs) (addK_nd (r := sortR (row ++ [g])) h)
    unfold addG at ih ⊢
    rw [List.foldl_cons]
    exact ih
theorem addG_snoc {row : List (List Int)} {gs : List (List Int)} {g : List Int} {F : List (List (List Int))} : addG row F (gs ++ [g]) = addK (addG row F gs) (sortR (row ++ [g])) := by
  unfold addG
  rw [List.foldl_append]; rfl
def sizeK (n : List Int) (s : Int) (F : List (List (List Int))) : List (List (List Int)) := F.foldl (fun A row => addG row A (picksL (leftL n row) s.toNat)) []
theorem sizeK_snoc {n : List Int} {s : Int} {F : List (List (List Int))} {row : List (List Int)} : sizeK n s (F ++ [row]) = addG row (sizeK n s F) (picksL (leftL n row) s.toNat) := by
  unfold sizeK
  rw [List.foldl_append]; rfl
theorem sizeK_ok {n : List Int} {s : Int} : ∀ (F : List (List (List Int))), (sizeK n s F).Nodup ∧ ∀ x, x ∈ sizeK n s F ↔ ∃ row ∈ F, ∃ g ∈ picksL (leftL n row) s.toNat, x = sortR (row ++ [g]) := by
  suffices h : ∀ (F A : List (List (List Int))), A.Nodup → (F.foldl (fun A row => addG row A (picksL (leftL n row) s.toNat)) A).Nodup ∧ ∀ x, x ∈ F.foldl (fun A row => addG row A (picksL (leftL n row) s.toNat)) A ↔ x ∈ A ∨ ∃ row ∈ F, ∃ g ∈ picksL (leftL n row) s.toNat, x = sortR (row ++ [g]) by
    intro F
    obtain ⟨h1, h2⟩ := h F [] (by simp)
    exact ⟨h1, fun x => by rw [show (x ∈ sizeK n s F ↔ _) from h2 x]; simp⟩
  intro F
  induction F with
  | nil => intro A hA; exact ⟨hA, fun x => by simp⟩
  | cons row F ih =>
    intro A hA
    rw [List.foldl_cons]
    obtain ⟨h1, h2⟩ := ih _ (addG_nd (row := row) (gs := picksL (leftL n row) s.toNat) hA)
    refine ⟨h1, fun x => ?_⟩
    rw [h2, addG_mem]
    constructor
    · rintro ((h | ⟨g, hg, h⟩) | ⟨r', hr, q⟩)
      · exact .inl h
      · exact .inr ⟨row, by simp, g, hg, h⟩
      · exact .inr ⟨r', by simp [hr], q⟩
    · rintro (h | ⟨r', hr, g, hg, h⟩)
      · exact .inl (.inl h)
      · rcases List.mem_cons.mp hr with rfl | hr
        · exact .inl (.inr ⟨g, hg, h⟩)
        · exact .inr ⟨r', hr, g, hg, h⟩
def keysK (n p : List Int) : List (List (List Int)) := p.foldl (fun F s => sizeK n s F) [[]]
theorem keysK_snoc {n p : List Int} {s : Int} : keysK n (p ++ [s]) = sizeK n s (keysK n p) := by
  unfold keysK
  rw [List.foldl_append]; rfl
theorem keysK_ok {n : List Int} (asc : n.Pairwise (· < ·)) : ∀ (p : List Int), p.Pairwise (fun a b => b ≤ a) → (∀ s ∈ p, 1 ≤ s) → (keysK n p).Nodup ∧ ∀ row, row ∈ keysK n p ↔ RowP n p row := by
  have nn : n.Nodup := asc.imp fun h => by omega
  intro p
  induction p using snoc_ind with
  | h0 =>
    intro _ _
    refine ⟨by simp [keysK], fun row => ?_⟩
    simp only [keysK, List.foldl_nil, List.mem_singleton]
    constructor
    · rintro rfl
      exact ⟨by simp, by simp, by simp, rfl⟩
    · intro r
      have := (rev_perm r.pat).length_eq
      rw [List.length_map] at this
      exact List.length_eq_zero_iff.mp this.symm
  | h1 p s ih =>
    intro fall pos
    obtain ⟨nd, mem⟩ := ih (fall_app fall) fun x hx => pos x (by simp [hx])
    have s1 := pos s (by simp)
    rw [keysK_snoc]
    obtain ⟨h1, h2⟩ := sizeK_ok (n := n) (s := s) (keysK n p)
    refine ⟨h1, fun row => ?_⟩
    rw [h2]
    constructor
    · rintro ⟨r0, hr, g, hg, rfl⟩
      obtain ⟨g1, g2⟩ := (picks_mem _ _ _).mp hg
      have eg : (g.length : Int) = s := by omega
      have sub := g1.trans (left_sub n r0)
      have := ((mem r0).mp hr).more sub (nn.sublist sub) (fun x hx => (left_mem.mp (g1.subset hx)).2) (by rw [eg]; exact fall)
      rw [eg] at this
      exact this
    · intro r
      obtain ⟨r0, g, q1, q2, q3, q4, q5⟩ := r.less fall
      refine ⟨r0, (mem r0).mpr q1, g, (picks_mem _ _ _).mpr ⟨?_, by omega⟩, q5⟩
      exact asc_sub (asc.sublist q2) (asc.sublist (left_sub n r0)) fun x hx => left_mem.mpr ⟨q2.subset hx, q4 x hx⟩
theorem keysK_perm {n p : List Int} (asc : n.Pairwise (· < ·)) (fall : p.Pairwise (fun a b => b ≤ a)) (pos : ∀ s ∈ p, 1 ≤ s) : (keysK n p).Perm (groupsL n p) := by
  obtain ⟨nd, mem⟩ := keysK_ok asc p fall pos
  exact (List.perm_ext_iff_of_nodup nd (groups_nd p n asc fall pos)).mpr fun row => by rw [mem, groups_mem p n asc fall pos]
theorem picks_step : ∀ (n : List Int) (k : Nat), (picksL n k).length = chN n.length k
  | [], 0 => rfl
  | [], k + 1 => rfl
  | x :: n, 0 => by simp [picksL, chN]
  | x :: n, k + 1 => by
    have h1 := picks_step n k
    have h2 := picks_step n (k + 1)
    simp only [picksL, List.length_append, List.length_map, h1, h2, List.length_cons, chN]
theorem ch15 : ∀ k, k < 7 → ∀ s, 2 ≤ s → s < 7 → chN k s ≤ 15 ^ (s - 1) := by
  intro k hk s h2 h7
  have : ∀ k, k < 7 → ∀ s, s < 7 → 2 ≤ s → chN k s ≤ 15 ^ (s - 1) := by decide +kernel
  exact this k hk s h7 h2
theorem lessL_cons {s : Int} {p : List Int} : lessL (s :: p) = (s - 1) + lessL p := by
  unfold lessL
  rw [List.sum_cons, List.length_cons]
  omega
theorem groups15 : ∀ (p n : List Int), n.length ≤ 6 → (∀ s ∈ p, 2 ≤ s) → (groupsL n p).length ≤ 15 ^ (lessL p).toNat
  | [], n, _, _ => by simp [groupsL, lessL]
  | s :: p, n, hn, h2 => by
    have s2 := h2 s (by simp)
    have p2 : ∀ x ∈ p, 2 ≤ x := fun x hx => h2 x (by simp [hx])
    have t2 := sum_twice p p2
    have ih := fun g => groups15 p (minusL n g) (Nat.le_trans (minus_sub n g).length_le hn) p2
    have key : ∀ L : List (List Int), ((L.map fun g => ((groupsL (minusL n g) p).filter (okG g)).map fun row => sortR (g :: row)).flatten).length ≤ L.length * 15 ^ (lessL p).toNat := by
      intro L
      induction L with
      | nil => simp
      | cons g L ih2 =>
        rw [List.map_cons, List.flatten_cons, List.length_append, List.length_map, List.length_cons, Nat.succ_mul]
        have a := List.length_filter_le (okG g) (groupsL (minusL n g) p)
        have b := ih g
        omega
    have h := key (picksL n s.toNat)
    simp only [groupsL]
    have ps := picks_step n s.toNat
    have cs : chN n.length s.toNat ≤ 15 ^ (s.toNat - 1) := by
      by_cases c : s.toNat < 7
      · exact ch15 _ (by omega) _ (by omega) c
      · rw [ch_over (by omega)]; exact Nat.zero_le _
    have e : (lessL (s :: p)).toNat = (s.toNat - 1) + (lessL p).toNat := by
      rw [lessL_cons]
      unfold lessL
      omega
    rw [e, Nat.pow_add]
    exact Nat.le_trans h (Nat.mul_le_mul_right _ (by omega))
section
variable {b : List Int} {ds : List (List Int)}
end

end Gk

set_option Elab.async false
set_option linter.all false
set_option maxRecDepth 100000
namespace Gk
open PySem Sx
def accP (names : List Int) (k i : Nat) : List (List Int) := ((List.range i).map fun j => (picksL (names.drop (j + 1)) k).map fun l => names.getD j 0 :: l).flatten
theorem accP_s (names : List Int) (k i : Nat) : accP names k (i + 1) = accP names k i ++ (picksL (names.drop (i + 1)) k).map fun l => names.getD i 0 :: l := by
  unfold accP
  rw [List.range_succ, List.map_append, List.flatten_append]
  simp
theorem accP_all : ∀ (names : List Int) (k : Nat), accP names k names.length = picksL names (k + 1)
  | [], k => by simp [accP, picksL]
  | x :: r, k => by
    have ih := accP_all r k
    simp only [picksL]
    rw [← ih]
    unfold accP
    rw [List.length_cons, List.range_succ_eq_map, List.map_cons, List.flatten_cons, List.map_map]
    congr 1
theorem accP_len (names : List Int) (k : Nat) : ∀ i, (accP names k i).length ≤ i * 2 ^ names.length
  | 0 => by simp [accP]
  | i + 1 => by
    rw [accP_s, List.length_append, List.length_map, Nat.succ_mul]
    have h1 := accP_len names k i
    have h2 := picks_len (names.drop (i + 1)) k
    have h3 : 2 ^ (names.drop (i + 1)).length ≤ 2 ^ names.length := Nat.pow_le_pow_right (by decide) (by simp)
    omega

theorem q_extL {h : Hc} {n m : Nat} {f : Bool} {xs es : List D} (g : h[n]? = some (false, .lst xs)) (g2 : h[m]? = some (f, .lst es)) (z : xs.length + es.length ≤ sizeLine) : gExt (.ref n) [.ref m] h = some (.non, h.set n (false, .lst (xs ++ es))) := by
  have e : gExtend (.ref n) [.ref m] h = some (.non, h.set n (false, .lst (xs ++ es))) := by
    unfold gExtend
    simp only [wrL, g, g2, if_pos z]
  unfold gExt
  simp only [e]
structure Kd (n : Nat) (h h' : Hc) : Prop where
  len : h.length ≤ h'.length
  keep : ∀ i, i < h.length → i ≠ n → h'[i]? = h[i]?
theorem Kd.refl {n : Nat} {h : Hc} : Kd n h h := ⟨Nat.le_refl _, fun _ _ _ => rfl⟩
theorem Kd.trans {n : Nat} {h h1 h2 : Hc} (a : Kd n h h1) (b : Kd n h1 h2) : Kd n h h2 :=
  ⟨Nat.le_trans a.len b.len, fun i hi hn => by rw [b.keep i (Nat.lt_of_lt_of_le hi a.len) hn, a.keep i hi hn]⟩
theorem Kd.ap {n : Nat} {h h1 h2 : Hc} (a : Kd n h h1) (b : Ap h1 h2) : Kd n h h2 := by
  obtain ⟨t, rfl⟩ := b
  refine a.trans ⟨by simp, fun i hi _ => List.getElem?_append_left hi⟩
theorem Kd.of {n : Nat} {h h2 : Hc} (b : Ap h h2) : Kd n h h2 := Kd.refl.ap b
theorem Kd.put {n : Nat} {h h1 : Hc} (a : Kd n h h1) (p : Bool × O) : Kd n h (h1.set n p) :=
  ⟨by rw [List.length_set]; exact a.len, fun i hi hn => by rw [List.getElem?_set_ne (Ne.symm hn)]; exact a.keep i hi hn⟩
theorem Kd.unlock {n m : Nat} {h h' : Hc} {p : Bool × O} (g : h[m]? = some p) (a : Kd n (lckL [m] h) h') : Kd n h (h'.set m p) := by
  have l : (lckL [m] h).length = h.length := by rw [lck1 g, List.length_set]
  refine ⟨by rw [List.length_set, ← l]; exact a.len, fun i hi hn => ?_⟩
  by_cases c : i = m
  · subst c
    rw [List.getElem?_set_self (by have := a.len; omega), g]
  · rw [List.getElem?_set_ne (Ne.symm c), a.keep i (by omega) hn, lck1_ne g c]
theorem Kd.get {n i : Nat} {h h' : Hc} {p : Bool × O} (a : Kd n h h') (g : h[i]? = some p) (hn : i ≠ n) : h'[i]? = some p := by
  rw [a.keep i (List.getElem?_eq_some_iff.mp g).1 hn]
  exact g
theorem Kd.isAp {n : Nat} {h h' : Hc} (a : Kd n h h') (hn : h.length ≤ n) : Ap h h' := by
  refine ⟨h'.drop h.length, ?_⟩
  refine List.ext_getElem? fun i => ?_
  by_cases c : i < h.length
  · rw [List.getElem?_append_left c]
    exact a.keep i c (by omega)
  · rw [List.getElem?_append_right (by omega), List.getElem?_drop]
    congr 1
    omega
theorem accP_cut {names : List Int} {k : Nat} (hk : k ≤ names.length) : accP names k (names.length - k) = picksL names (k + 1) := by
  rw [← accP_all]
  have : ∀ j, names.length - k + j ≤ names.length → accP names k (names.length - k + j) = accP names k (names.length - k) := by
    intro j
    induction j with
    | zero => intro _; rfl
    | succ j ih =>
      intro h
      rw [show names.length - k + (j + 1) = names.length - k + j + 1 from rfl, accP_s, ih (by omega)]
      have : picksL (names.drop (names.length - k + j + 1)) k = [] := by
        cases c : picksL (names.drop (names.length - k + j + 1)) k with
        | nil => rfl
        | cons g l =>
          have := (picks_mem (names.drop (names.length - k + j + 1)) k g).mp (by rw [c]; simp)
          have h1 := this.1.length_le
          rw [List.length_drop] at h1
          omega
      rw [this]
      simp
  have q := this k (by omega)
  rw [show names.length - k + k = names.length by omega] at q
  exact q.symm
theorem chosen2_w : ∀ (k F : Nat) (names : List Int) (h : Hc), k < F → k ≤ names.length → names.length ≤ 7 → ∃ h' m, m__law_chosen F [iT names, .int (k : Nat)] h = .ok (.ref m) h' ∧ Ap h h' ∧ h'[m]? = some (false, .lst ((picksL names k).map iT)) ∧ h.length ≤ m
  | k, 0, _, _, hF, _, _ => absurd hF (Nat.not_lt_zero _)
  | 0, F + 1, names, h, _, _, _ => by
    refine ⟨h ++ [(false, .lst [.tup []])], h.length, ?_, .new _, ?_, Nat.le_refl _⟩
    · unfold m__law_chosen runD b__law_chosen
      simp [q_bok, q_bxn, q_ofok, q_ofxn, q_vo, q_var, q_k, q_c1, q_c2, q_nil, q_cons, q_c, q_call, q_callK, pick, q_b, q_tru, q_not, q_and, q_or, q_ifE, q_andV, q_orV, q_notV, q_chain, q_seq, q_tnx, q_trt, q_txn, q_tbk, q_tct, q_skip, q_drop, q_ret, q_retN, q_bk, q_ct, q_set, q_par, q_par3, q_if, q_raise, q_mt, q_mt0, q_end0, q_endr, q_endx, q_lt, q_le, q_gt, q_ge, q_sub, q_add, q_neg, q_inti, q_intb, q_max, q_min, q_lenT, q_lenF, q_truT, q_truF, q_truB, q_truI, q_ixT, q_ixF, at_0, at_1, er_int, er_bl, er_str, er_non, er_tup, er_flst, er_ref, er_obj, er_ty, er_gl, q_lst, q_tup, q_cutT, q_pn, q_ps, q_slT, q_itS, seqL_t, sz_0, sz_1, sz_2, sz_3, sz_4, sz_5, sz_6, sz_7, sz_8, sz_9, sz_10, sz_11, sz_12, sz_13, sz_14, q_eqI]
    · rw [get_new]
      cases names <;> rfl
  | k + 1, F + 1, names, h, hF, hk, hn => by
    have sz : (5000 : Nat) < sizeLine := by decide
    have p2 : 2 ^ names.length ≤ 128 := Nat.le_trans (Nat.pow_le_pow_right (by decide) hn) (by decide)
    suffices w : wE (m__law_chosen (F + 1) [iT names, .int ((k + 1 : Nat) : Int)] h) fun x h' => ∃ m, x = .ref m ∧ Ap h h' ∧ h'[m]? = some (false, .lst ((picksL names (k + 1)).map iT)) ∧ h.length ≤ m by
      obtain ⟨_, h', e, m, rfl, q⟩ := w.eq
      exact ⟨h', m, e, q⟩
    have kz : ¬ ((k : Int) + 1 = 0) := by omega
    have erN : (iT names).isErr = false := rfl
    unfold m__law_chosen
    refine wE_run rfl ?_
    unfold b__law_chosen
    refine wS_step (ρ' := [some (iT names), some (.int ((k + 1 : Nat) : Int)), none, none, none]) (h' := h) (by
      generalize iT names = NN at *
      simp [q_bok, q_bxn, q_ofok, q_ofxn, q_vo, q_var, q_k, q_c1, q_c2, q_nil, q_cons, q_c, q_call, q_callK, pick, q_b, q_tru, q_not, q_and, q_or, q_ifE, q_andV, q_orV, q_notV, q_chain, q_seq, q_tnx, q_trt, q_txn, q_tbk, q_tct, q_skip, q_drop, q_ret, q_retN, q_bk, q_ct, q_set, q_par, q_par3, q_if, q_raise, q_mt, q_mt0, q_end0, q_endr, q_endx, q_lt, q_le, q_gt, q_ge, q_sub, q_add, q_neg, q_inti, q_intb, q_max, q_min, q_lenT, q_lenF, q_truT, q_truF, q_truB, q_truI, q_ixT, q_ixF, at_0, at_1, er_int, er_bl, er_str, er_non, er_tup, er_flst, er_ref, er_obj, er_ty, er_gl, q_lst, q_tup, q_cutT, q_pn, q_ps, q_slT, q_itS, seqL_t, sz_0, sz_1, sz_2, sz_3, sz_4, sz_5, sz_6, sz_7, sz_8, sz_9, sz_10, sz_11, sz_12, sz_13, sz_14, q_eqI, kz]) ?_
    have g0 := get_new (h := h) (p := (false, O.lst []))
    have ap0 : Ap h (h ++ [(false, O.lst [])]) := .new _
    refine wS_step (ρ' := [some (iT names), some (.int ((k + 1 : Nat) : Int)), some (.ref h.length), none, none]) (h' := h ++ [(false, .lst [])]) (by
      generalize iT names = NN at *
      simp [q_bok, q_bxn, q_ofok, q_ofxn, q_vo, q_var, q_k, q_c1, q_c2, q_nil, q_cons, q_c, q_call, q_callK, pick, q_b, q_tru, q_not, q_and, q_or, q_ifE, q_andV, q_orV, q_notV, q_chain, q_seq, q_tnx, q_trt, q_txn, q_tbk, q_tct, q_skip, q_drop, q_ret, q_retN, q_bk, q_ct, q_set, q_par, q_par3, q_if, q_raise, q_mt, q_mt0, q_end0, q_endr, q_endx, q_lt, q_le, q_gt, q_ge, q_sub, q_add, q_neg, q_inti, q_intb, q_max, q_min, q_lenT, q_lenF, q_truT, q_truF, q_truB, q_truI, q_ixT, q_ixF, at_0, at_1, er_int, er_bl, er_str, er_non, er_tup, er_flst, er_ref, er_obj, er_ty, er_gl, q_lst, q_tup, q_cutT, q_pn, q_ps, q_slT, q_itS, seqL_t, sz_0, sz_1, sz_2, sz_3, sz_4, sz_5, sz_6, sz_7, sz_8, sz_9, sz_10, sz_11, sz_12, sz_13, sz_14]) ?_
    generalize h ++ [(false, O.lst [])] = h0 at *
    refine wS_loop ?_
    have ql : gLen [iT names] h0 = some (.int (names.length : Nat), h0) := by rw [q_lenT]; simp
    rw [q_for (q_itR1 (n := names.length - k) (h1 := h0) (by
      generalize iT names = NN at *
      simp [q_bok, q_bxn, q_ofok, q_ofxn, q_vo, q_var, q_k, q_c1, q_c2, q_nil, q_cons, q_c, q_call, q_callK, pick, q_b, q_tru, q_not, q_and, q_or, q_ifE, q_andV, q_orV, q_notV, q_chain, q_seq, q_tnx, q_trt, q_txn, q_tbk, q_tct, q_skip, q_drop, q_ret, q_retN, q_bk, q_ct, q_set, q_par, q_par3, q_if, q_raise, q_mt, q_mt0, q_end0, q_endr, q_endx, q_lt, q_le, q_gt, q_ge, q_sub, q_add, q_neg, q_inti, q_intb, q_max, q_min, q_lenT, q_lenF, q_truT, q_truF, q_truB, q_truI, q_ixT, q_ixF, at_0, at_1, er_int, er_bl, er_str, er_non, er_tup, er_flst, er_ref, er_obj, er_ty, er_gl, q_lst, q_tup, q_cutT, q_pn, q_ps, q_slT, q_itS, seqL_t, sz_0, sz_1, sz_2, sz_3, sz_4, sz_5, sz_6, sz_7, sz_8, sz_9, sz_10, sz_11, sz_12, sz_13, sz_14, erN, ql]
      omega) (by omega))]
    refine for_ix (fun (i : Nat) => .int (i : Int)) (List.range (names.length - k)) (fun i ρ h1 => ∃ (x y : Option D), ρ = [some (iT names), some (.int ((k + 1 : Nat) : Int)), some (.ref h.length), x, y] ∧ Ap h h1 ∧ h1[h.length]? = some (false, .lst ((accP names k i).map iT))) ?_ ?_ ⟨_, _, rfl, ap0, g0⟩
    · rintro _ i ρ h1 hi ⟨x, y, rfl, ap, g⟩
      obtain ⟨rfl, li⟩ := range_at hi
      have ct : cutD (iL names) (some ((i : Int) + 1)) none = iL (names.drop (i + 1)) := by
        have := cut_from (l := iL names) (d := i + 1) (by simp; omega)
        rw [show (((i + 1 : Nat) : Int)) = (i : Int) + 1 by omega] at this
        rw [this]; simp only [iL, List.map_drop]
      have sl : gSl (iT names) (some ((i : Int) + 1)) none h1 = some (iT (names.drop (i + 1)), h1) := by
        unfold iT
        rw [q_slT, ct]
      obtain ⟨h2, n, e2, ap2, g2, ln⟩ := chosen2_w k F (names.drop (i + 1)) h1 (by omega) (by simp; omega) (by simp; omega)
      have ixn : ∀ h, gIx (iT names) (.int (i : Nat)) h = some (.int (names.getD i 0), h) := fun h => by
        unfold iT
        rw [q_ixT]
        have : L2.atI (iL names) (i : Int) = some (.int (names.getD i 0)) := at_nat (by
          rw [List.getElem?_map, List.getElem?_eq_getElem (by omega), List.getD_eq_getElem?_getD, List.getElem?_eq_getElem (by omega)]; rfl)
        rw [this]
      have kk : ((k : Int) + 1 - 1) = (k : Int) := by omega
      have gl : ∀ l ∈ picksL (names.drop (i + 1)) k, l.length ≤ 12 := fun l hl => by
        have := ((picks_mem _ _ _).mp hl).1.length_le
        simp at this; omega
      have erD : (iT (names.drop (i + 1))).isErr = false := rfl
      have cc := q_compR2 (vs := [4]) (ci := cItS (cCall (m__law_chosen F) (cCons (cCut (cVar 0) (some (Sx.c2 gAdd (cVar 3) (cK (.int 1)))) none) (cCons (Sx.c2 gSub (cVar 1) (cK (.int 1))) cNil)))) (t := .nm 4) (tt := cYes) (e := Sx.c2 gAdd (cC gTupD (cCons (Sx.c2 gIx (cVar 0) (cVar 3)) cNil)) (cVar 4)) (ρ := [some (iT names), some (.int ((k + 1 : Nat) : Int)), some (.ref h.length), some (.int (i : Int)), y]) (h0 := h1) (l := (picksL (names.drop (i + 1)) k).map iT) (xs := (picksL (names.drop (i + 1)) k).map fun l => iT (names.getD i 0 :: l)) g2 (by
          have s := seqL_r g2
          generalize (picksL (names.drop (i + 1)) k).map iT = LL at *
          generalize iT (names.drop (i + 1)) = ND at *
          generalize iT names = NN at *
          simp [q_bok, q_bxn, q_ofok, q_ofxn, q_vo, q_var, q_k, q_c1, q_c2, q_nil, q_cons, q_c, q_call, q_callK, pick, q_b, q_tru, q_not, q_and, q_or, q_ifE, q_andV, q_orV, q_notV, q_chain, q_seq, q_tnx, q_trt, q_txn, q_tbk, q_tct, q_skip, q_drop, q_ret, q_retN, q_bk, q_ct, q_set, q_par, q_par3, q_if, q_raise, q_mt, q_mt0, q_end0, q_endr, q_endx, q_lt, q_le, q_gt, q_ge, q_sub, q_add, q_neg, q_inti, q_intb, q_max, q_min, q_lenT, q_lenF, q_truT, q_truF, q_truB, q_truI, q_ixT, q_ixF, at_0, at_1, er_int, er_bl, er_str, er_non, er_tup, er_flst, er_ref, er_obj, er_ty, er_gl, q_lst, q_tup, q_cutT, q_pn, q_ps, q_slT, q_itS, seqL_t, sz_0, sz_1, sz_2, sz_3, sz_4, sz_5, sz_6, sz_7, sz_8, sz_9, sz_10, sz_11, sz_12, sz_13, sz_14, erN, erD, sl, kk, e2, s]) (by
          have := picks_len (names.drop (i + 1)) k
          have : 2 ^ (names.drop (i + 1)).length ≤ 2 ^ names.length := Nat.pow_le_pow_right (by decide) (by simp)
          rw [List.length_map]; omega) (by
          refine comp_all iT (fun l => iT (names.getD i 0 :: l)) _ fun l hl => ⟨_, asg_nm, ?_⟩
          have := gl l hl
          have qa : gAdd (.tup [.int (names.getD i 0)]) (iT l) (lckL [n] h2) = some (iT (names.getD i 0 :: l), lckL [n] h2) := q_addT (ds := [.int (names.getD i 0)]) (es := iL l) (h := lckL [n] h2) (by simp; omega)
          have qi := ixn (lckL [n] h2)
          generalize names.getD i 0 = z at *
          generalize lckL [n] h2 = HL at *
          generalize iT (z :: l) = ZL at *
          have erl : (iT l).isErr = false := rfl
          generalize iT l = IL at *
          generalize iT names = NN at *
          simp [q_bok, q_bxn, q_ofok, q_ofxn, q_vo, q_var, q_k, q_c1, q_c2, q_nil, q_cons, q_c, q_call, q_callK, pick, q_b, q_tru, q_not, q_and, q_or, q_ifE, q_andV, q_orV, q_notV, q_chain, q_seq, q_tnx, q_trt, q_txn, q_tbk, q_tct, q_skip, q_drop, q_ret, q_retN, q_bk, q_ct, q_set, q_par, q_par3, q_if, q_raise, q_mt, q_mt0, q_end0, q_endr, q_endx, q_lt, q_le, q_gt, q_ge, q_sub, q_add, q_neg, q_inti, q_intb, q_max, q_min, q_lenT, q_lenF, q_truT, q_truF, q_truB, q_truI, q_ixT, q_ixF, at_0, at_1, er_int, er_bl, er_str, er_non, er_tup, er_flst, er_ref, er_obj, er_ty, er_gl, q_lst, q_tup, q_cutT, q_pn, q_ps, q_slT, q_itS, seqL_t, sz_0, sz_1, sz_2, sz_3, sz_4, sz_5, sz_6, sz_7, sz_8, sz_9, sz_10, sz_11, sz_12, sz_13, sz_14, wipeD, erN, qi, qa, erl])
      have ap2x : Ap h1 (h2 ++ [(false, O.lst ((picksL (names.drop (i + 1)) k).map fun l => iT (names.getD i 0 :: l)))]) := ap2.app _
      have gF := ap2x.get g
      have g3 := get_new (h := h2) (p := (false, O.lst ((picksL (names.drop (i + 1)) k).map fun l => iT (names.getD i 0 :: l))))
      have qx := q_extL gF g3 (by
        have a := accP_len names k i
        have b := picks_len (names.drop (i + 1)) k
        have c : 2 ^ (names.drop (i + 1)).length ≤ 2 ^ names.length := Nat.pow_le_pow_right (by decide) (by simp)
        have d : i * 2 ^ names.length ≤ 7 * 128 := Nat.mul_le_mul (by omega) p2
        rw [List.length_map, List.length_map]; omega)
      have ev : (accP names k i).map iT ++ (picksL (names.drop (i + 1)) k).map (fun l => iT (names.getD i 0 :: l)) = (accP names k (i + 1)).map iT := by
        rw [accP_s, List.map_append, List.map_map]; rfl
      rw [ev] at qx
      have okF : isLst (.ref h.length) h1 = true := ok_lst g
      refine ⟨_, asg_nm, ?_⟩
      refine wS.of (f := .nx) (ρ := [some (iT names), some (.int ((k + 1 : Nat) : Int)), some (.ref h.length), some (.int (i : Int)), y]) (h := (h2 ++ [(false, O.lst ((picksL (names.drop (i + 1)) k).map fun l => iT (names.getD i 0 :: l)))]).set h.length (false, .lst ((accP names k (i + 1)).map iT))) ?_ ⟨_, _, rfl, (ap.trans ap2x).put (Nat.le_refl _) _, get_set gF⟩
      show cDrop _ [some (iT names), some (.int ((k + 1 : Nat) : Int)), some (.ref h.length), some (.int (i : Int)), y] h1 = _
      simp only [q_drop, q_mt, q_cons, q_nil, q_var, List.getElem?_cons_succ, List.getElem?_cons_zero, er_ref, Bool.false_eq_true, if_false, if_true, q_bok, okF, cc, qx, q_vo, q_ofok]
    · rintro ρ h1 ⟨x, y, rfl, ap, g⟩
      rw [List.length_range, accP_cut (by omega)] at g
      refine wS_ret (d := .ref h.length) (h' := h1) (by
        generalize iT names = NN at *
        simp [q_bok, q_bxn, q_ofok, q_ofxn, q_vo, q_var, q_k, q_c1, q_c2, q_nil, q_cons, q_c, q_call, q_callK, pick, q_b, q_tru, q_not, q_and, q_or, q_ifE, q_andV, q_orV, q_notV, q_chain, q_seq, q_tnx, q_trt, q_txn, q_tbk, q_tct, q_skip, q_drop, q_ret, q_retN, q_bk, q_ct, q_set, q_par, q_par3, q_if, q_raise, q_mt, q_mt0, q_end0, q_endr, q_endx, q_lt, q_le, q_gt, q_ge, q_sub, q_add, q_neg, q_inti, q_intb, q_max, q_min, q_lenT, q_lenF, q_truT, q_truF, q_truB, q_truI, q_ixT, q_ixF, at_0, at_1, er_int, er_bl, er_str, er_non, er_tup, er_flst, er_ref, er_obj, er_ty, er_gl, q_lst, q_tup, q_cutT, q_pn, q_ps, q_slT, q_itS, seqL_t, sz_0, sz_1, sz_2, sz_3, sz_4, sz_5, sz_6, sz_7, sz_8, sz_9, sz_10, sz_11, sz_12, sz_13, sz_14]) ⟨_, rfl, ap, g, Nat.le_refl _⟩
theorem keyNs_int : ∀ l : List Int, keyNs (iL l) = some (l.map NestedKey.num)
  | [] => rfl
  | x :: l => by
    have ih := keyNs_int l
    simp only [iL, List.map_cons] at ih ⊢
    simp only [keyNs, keyN, ih]
theorem keyN_iT (g : List Int) : keyN (iT g) = some (.tup (g.map NestedKey.num)) := by
  show (match keyNs (iL g) with | some ks => some (NestedKey.tup ks) | none => none) = _
  rw [keyNs_int]
theorem keyNs_rows : ∀ l : List (List Int), keyNs (rL l) = some (l.map fun g => NestedKey.tup (g.map NestedKey.num))
  | [] => rfl
  | g :: l => by
    have ih := keyNs_rows l
    have e := keyN_iT g
    simp only [rL, List.map_cons] at ih ⊢
    simp only [keyNs, e, ih]
theorem depth_ints : ∀ l : List Int, NestedKey.depthAll (l.map NestedKey.num) = 0
  | [] => rfl
  | x :: l => by
    have ih := depth_ints l
    rw [List.map_cons, NestedKey.depthAll, ih]
    rfl
theorem depth_rows : ∀ l : List (List Int), NestedKey.depthAll (l.map fun g => NestedKey.tup (g.map NestedKey.num)) ≤ 1
  | [] => by simp [NestedKey.depthAll]
  | g :: l => by
    have ih := depth_rows l
    rw [List.map_cons, NestedKey.depthAll, NestedKey.depth, depth_ints]
    omega
theorem keyT_row (r : List (List Int)) : ∃ k, keyT (rowD r) = some k := by
  refine ⟨.tup (r.map fun g => NestedKey.tup (g.map NestedKey.num)), ?_⟩
  show (match keyNs (rL r) with | some ks => if (NestedKey.tup ks).depth ≤ 8 then some (NestedKey.tup ks) else none | none => none) = _
  rw [keyNs_rows]
  have := depth_rows r
  simp only
  rw [if_pos (by rw [NestedKey.depth]; omega)]
abbrev lftD (n : List Int) (r : List (List Int)) : D := .tup [rowD r, iT (leftL n r)]
theorem keyT_lft (n : List Int) (r : List (List Int)) : ∃ k, keyT (lftD n r) = some k := by
  refine ⟨.tup [.tup (r.map fun g => NestedKey.tup (g.map NestedKey.num)), .tup ((leftL n r).map NestedKey.num)], ?_⟩
  have e1 : keyN (rowD r) = some (.tup (r.map fun g => NestedKey.tup (g.map NestedKey.num))) := by
    show (match keyNs (rL r) with | some ks => some (NestedKey.tup ks) | none => none) = _
    rw [keyNs_rows]
  have e2 := keyN_iT (leftL n r)
  have d1 := depth_rows r
  have d2 := depth_ints (leftL n r)
  show (match keyNs [rowD r, iT (leftL n r)] with | some ks => if (NestedKey.tup ks).depth ≤ 8 then some (NestedKey.tup ks) else none | none => none) = _
  simp only [keyNs, e1, e2]
  rw [if_pos (by simp only [NestedKey.depth, NestedKey.depthAll, d2]; omega)]
theorem rowD_inj {a c : List (List Int)} (h : rowD a = rowD c) : a = c := by
  injection h with h
  exact List.map_inj_right (fun x y e => by
    injection e with e
    exact List.map_inj_right (fun i j e => by injection e) |>.mp e) |>.mp h
theorem lftD_inj {n : List Int} {a c : List (List Int)} (h : lftD n a = lftD n c) : a = c := by
  injection h with h
  injection h with h _
  exact rowD_inj h
abbrev tdM (mk : List (List Int) → D) (F : List (List (List Int))) : TD := F.map fun r => (mk r, .bl true)
def dM (mk : List (List Int) → D) (F : List (List (List Int))) : O := if F = [] then .dic [] else .dcd (tdM mk F)
theorem tdM_keys {mk : List (List Int) → D} {F : List (List (List Int))} : (tdM mk F).map (·.1) = F.map mk := by
  rw [List.map_map]; rfl
theorem tGet_tdM {mk : List (List Int) → D} (inj : ∀ a c, mk a = mk c → a = c) {r : List (List Int)} : ∀ {F : List (List (List Int))}, (tGet (tdM mk F) (mk r)).isSome = decide (r ∈ F)
  | [] => by simp [tGet]
  | a :: F => by
    have ih := tGet_tdM inj (r := r) (F := F)
    simp only [tdM, List.map_cons] at ih ⊢
    unfold tGet
    by_cases c : a = r
    · subst c
      simp
    · have ne : ¬ mk a = mk r := fun e => c (inj _ _ e)
      rw [if_neg ne, ih]
      have : ¬ r = a := fun e => c e.symm
      simp [this]
theorem tPut_tdM {mk : List (List Int) → D} (inj : ∀ a c, mk a = mk c → a = c) {r : List (List Int)} {F : List (List (List Int))} : tPut (tdM mk F) (mk r) (.bl true) = tdM mk (addK F r) := by
  unfold tPut addK
  rw [tGet_tdM inj]
  by_cases c : r ∈ F
  · rw [decide_eq_true c, if_pos rfl, if_pos c]
    simp only [tdM, List.map_map]
    refine List.map_congr_left fun a _ => ?_
    simp only [Function.comp]
    split <;> rfl
  · rw [decide_eq_false c, if_neg c]
    simp [tdM]
theorem xPut_M {mk : List (List Int) → D} (inj : ∀ a c, mk a = mk c → a = c) {h : Hc} {n : Nat} {F : List (List (List Int))} {r : List (List Int)} (kd : keyD (mk r) = none) (kt : ∃ k, keyT (mk r) = some k) (g : h[n]? = some (false, dM mk F)) (l : F.length < sizeLine) : xPut (.ref n) (mk r) (.bl true) h = some (h.set n (false, dM mk (addK F r))) := by
  have ne : addK F r ≠ [] := List.ne_nil_of_mem (addK_mem.mpr (.inr rfl))
  have as : asT n h = some (false, tdM mk F) := by
    unfold asT
    rw [g]
    unfold dM
    by_cases c : F = []
    · subst c; rfl
    · rw [if_neg c]
  obtain ⟨k, kt⟩ := kt
  unfold xPut
  simp only [kd, kt, as]
  rw [if_pos (by rw [List.length_map]; exact l), tPut_tdM inj]
  unfold dM
  rw [if_neg ne]
theorem srtD_RR {L : List (List (List Int))} {h : Hc} (k : ∀ r ∈ L, r ≠ []) : ∃ L' : List (List (List Int)), L'.Perm L ∧ srtD (L.map rowD) h = some (.ref h.length, h ++ [(false, .lst (L'.map rowD))]) := by
  cases L with
  | nil => exact ⟨[], .refl _, rfl⟩
  | cons a L =>
    obtain ⟨x, r, ea⟩ := List.exists_cons_of_ne_nil (k a (by simp))
    have i0 : intsOf ((a :: L).map rowD) = none := by rw [List.map_cons]; rfl
    have r0 : rowsOf ((a :: L).map rowD) = none := by
      rw [List.map_cons, ea]
      rfl
    have m : mapO (toP h 8) ((a :: L).map rowD) = some ((a :: L).map pR) := by
      have := mapO_map (f := fun r => toP h 8 (rowD r)) (g := pR) (a :: L) fun r _ => toP_row r
      rw [← this]
      generalize (a :: L) = M
      clear this
      induction M with
      | nil => rfl
      | cons b M ih => simp only [List.map_cons, mapO]; rw [ih]
    refine ⟨(a :: L).mergeSort fun p q => !PySem.W.dataLt (pR q) (pR p), List.mergeSort_perm _ _, ?_⟩
    unfold srtD
    rw [i0, r0]
    simp only
    unfold srtX
    rw [m]
    simp only
    rw [if_pos (dataB_rows k), zip_maps, ← List.map_mergeSort (f := fun r => (rowD r, pR r)) (r := fun p q => !PySem.W.dataLt (pR q) (pR p)) (fun _ _ _ _ => rfl), List.map_map]
    rfl
theorem addK_len {F : List (List (List Int))} {r : List (List Int)} : (addK F r).length ≤ F.length + 1 := by
  unfold addK
  split <;> simp
theorem addG_len {row : List (List Int)} : ∀ {gs : List (List Int)} {F : List (List (List Int))}, (addG row F gs).length ≤ F.length + gs.length
  | [], F => by simp [addG]
  | g :: gs, F => by
    have ih := addG_len (row := row) (gs := gs) (F := addK F (sortR (row ++ [g])))
    have := addK_len (F := F) (r := sortR (row ++ [g]))
    unfold addG at ih ⊢
    rw [List.foldl_cons, List.length_cons]
    omega
theorem addK_app : ∀ {F : List (List (List Int))} {r : List (List Int)}, r ∉ F → addK F r = F ++ [r] := fun c => if_neg c
theorem left_more {n g : List Int} {row : List (List Int)} : (leftL n row).filter (fun x => !decide (x ∈ g)) = leftL n (sortR (row ++ [g])) := by
  unfold leftL
  rw [List.filter_filter]
  refine List.filter_congr fun x _ => ?_
  have e : inR x (sortR (row ++ [g])) = (inR x row || decide (x ∈ g)) := by
    rw [Bool.eq_iff_iff]
    unfold inR
    simp only [List.any_eq_true, Bool.or_eq_true, decide_eq_true_eq]
    constructor
    · rintro ⟨y, hy, hx⟩
      rcases List.mem_append.mp ((sortR_perm _).mem_iff.mp hy) with q | q
      · exact .inl ⟨y, q, hx⟩
      · rw [List.mem_singleton] at q
        subst q
        exact .inr hx
    · rintro (⟨y, hy, hx⟩ | hx)
      · exact ⟨y, (sortR_perm _).mem_iff.mpr (List.mem_append_left _ hy), hx⟩
      · exact ⟨g, (sortR_perm _).mem_iff.mpr (by simp), hx⟩
  rw [e]
  cases inR x row <;> cases decide (x ∈ g) <;> rfl
theorem q_ninT {g : List Int} {i : Int} {h : Hc} : gNotIn (.int i) (iT g) h = some (.bl (!decide (i ∈ g)), h) := by
  have := q_inT (a := g) (i := i) (h := h)
  unfold gIn at this
  unfold gNotIn
  split at this <;> simp_all
noncomputable abbrev addB2 : CS := cSetX (cK (.bl true)) (cVar 4) (cC gTupD (cCons (cC gTuple (cCons (cC gSrt (cCons (c2 gAdd (cVar 5) (cC gTupD (cCons (cVar 7) (cNil)))) (cNil))) (cNil))) (cCons (cC gTuple (cCons (cComp [9] (cItS (cVar 6)) (.nm 9) (cB (c2 gNotIn (cVar 9) (cVar 7))) (cVar 9)) (cNil))) (cNil))))
theorem add2_w {h : Hc} {n4 : Nat} {n : List Int} {row : List (List Int)} {F : List (List (List Int))} (n7 : n.length ≤ 7) (g : h[n4]? = some (false, dM (lftD n) F)) {gs : List (List Int)} (ne : ∀ x ∈ gs, x ≠ []) (rn : ∀ x ∈ row, x ≠ []) (rl : row.length ≤ 12) (fl : F.length + gs.length ≤ 1000000) {x0 x1 x2 x3 x7 : Option D} :
    wS (cForB (.nm 7) addB2 (gs.map iT) [x0, x1, x2, x3, some (.ref n4), some (rowD row), some (iT (leftL n row)), x7, none, none] h) fun f ρ h' => f = .nx ∧ (∃ x7, ρ = [x0, x1, x2, x3, some (.ref n4), some (rowD row), some (iT (leftL n row)), x7, none, none]) ∧ Kd n4 h h' ∧ h'[n4]? = some (false, dM (lftD n) (addG row F gs)) := by
  have sz : (10000000 : Nat) < sizeLine := by decide
  have ll := (left_sub n row).length_le
  refine for_ix iT gs (fun i ρ h' => (∃ x7, ρ = [x0, x1, x2, x3, some (.ref n4), some (rowD row), some (iT (leftL n row)), x7, none, none]) ∧ Kd n4 h h' ∧ h'[n4]? = some (false, dM (lftD n) (addG row F (gs.take i)))) ?_ ?_ ⟨⟨_, rfl⟩, .refl, g⟩
  · rintro i y ρ h1 hi ⟨⟨x7, rfl⟩, kd, g1⟩
    have hy := ne y (List.mem_of_getElem? hi)
    refine ⟨_, asg_nm, ?_⟩
    have er5 : (rowD row).isErr = false := rfl
    have er7 : (iT y).isErr = false := rfl
    have er6 : (iT (leftL n row)).isErr = false := rfl
    have t2 : gTupD [iT y] h1 = some (.tup [iT y], h1) := id rfl
    have t3 : gAdd (rowD row) (.tup [iT y]) h1 = some (.tup (rL (row ++ [y])), h1) := by
      have := q_addT (ds := rL row) (es := [iT y]) (h := h1) (by rw [List.length_map]; simp; omega)
      rw [this, rL, rL, List.map_append]
      rfl
    have t4 := q_srtT (l := row ++ [y]) (h := h1) (by simp) (fun r hr => by
      rcases List.mem_append.mp hr with q | q
      · exact rn r q
      · rw [List.mem_singleton.mp q]; exact hy)
    have ap : Ap h1 (h1 ++ [(false, O.lst (rL (sortR (row ++ [y]))))]) := .new _
    have t5 := q_tupR (get_new (h := h1) (p := (false, O.lst (rL (sortR (row ++ [y]))))))
    have g2 := ap.get g1
    have e5 : (.tup (rL (sortR (row ++ [y]))) : D) = rowD (sortR (row ++ [y])) := rfl
    rw [e5] at t5
    generalize h1 ++ [(false, O.lst (rL (sortR (row ++ [y]))))] = h2 at *
    have cb := q_comp (vs := [9]) (ci := cItS (cVar 6)) (t := .nm 9) (tt := cB (c2 gNotIn (cVar 9) (cVar 7))) (e := cVar 9) (ρ := [x0, x1, x2, x3, some (.ref n4), some (rowD row), some (iT (leftL n row)), some (iT y), none, none]) (h := h2) (h1 := h2) (h2 := h2) (l := iL (leftL n row)) (xs := iL ((leftL n row).filter fun x => !decide (x ∈ y))) (by
      have s : seqL (iT (leftL n row)) h2 = some (iL (leftL n row), []) := id rfl
      generalize iL (leftL n row) = LL at *
      generalize iT (leftL n row) = LT at *
      generalize rowD row = R3 at *
      generalize iT y = Y at *
      simp [q_bok, q_bxn, q_ofok, q_ofxn, q_vo, q_var, q_k, q_c1, q_c2, q_nil, q_cons, q_c, q_call, q_callK, pick, q_b, q_tru, q_not, q_and, q_or, q_ifE, q_andV, q_orV, q_notV, q_chain, q_seq, q_tnx, q_trt, q_txn, q_tbk, q_tct, q_skip, q_drop, q_ret, q_retN, q_bk, q_ct, q_set, q_par, q_par3, q_if, q_raise, q_mt, q_mt0, q_end0, q_endr, q_endx, q_lt, q_le, q_gt, q_ge, q_sub, q_add, q_neg, q_inti, q_intb, q_max, q_min, q_lenT, q_lenF, q_truT, q_truF, q_truB, q_truI, q_ixT, q_ixF, at_0, at_1, er_int, er_bl, er_str, er_non, er_tup, er_flst, er_ref, er_obj, er_ty, er_gl, q_lst, q_tup, q_cutT, q_pn, q_ps, q_slT, q_itS, seqL_t, sz_0, sz_1, sz_2, sz_3, sz_4, sz_5, sz_6, sz_7, sz_8, sz_9, sz_10, sz_11, sz_12, sz_13, sz_14, er6, s]) (by rw [List.length_map]; omega) (by
      refine comp_some D.int D.int (fun x => !decide (x ∈ y)) _ fun z hz => ⟨_, asg_nm, ?_, ?_⟩
      · have q := q_ninT (g := y) (i := z) (h := h2)
        generalize iT (leftL n row) = LT at *
        generalize rowD row = R3 at *
        generalize iT y = Y at *
        simp [q_bok, q_bxn, q_ofok, q_ofxn, q_vo, q_var, q_k, q_c1, q_c2, q_nil, q_cons, q_c, q_call, q_callK, pick, q_b, q_tru, q_not, q_and, q_or, q_ifE, q_andV, q_orV, q_notV, q_chain, q_seq, q_tnx, q_trt, q_txn, q_tbk, q_tct, q_skip, q_drop, q_ret, q_retN, q_bk, q_ct, q_set, q_par, q_par3, q_if, q_raise, q_mt, q_mt0, q_end0, q_endr, q_endx, q_lt, q_le, q_gt, q_ge, q_sub, q_add, q_neg, q_inti, q_intb, q_max, q_min, q_lenT, q_lenF, q_truT, q_truF, q_truB, q_truI, q_ixT, q_ixF, at_0, at_1, er_int, er_bl, er_str, er_non, er_tup, er_flst, er_ref, er_obj, er_ty, er_gl, q_lst, q_tup, q_cutT, q_pn, q_ps, q_slT, q_itS, seqL_t, sz_0, sz_1, sz_2, sz_3, sz_4, sz_5, sz_6, sz_7, sz_8, sz_9, sz_10, sz_11, sz_12, sz_13, sz_14, wipeD, er7, q]
      · generalize iT (leftL n row) = LT at *
        generalize rowD row = R3 at *
        generalize iT y = Y at *
        simp [q_bok, q_bxn, q_ofok, q_ofxn, q_vo, q_var, q_k, q_c1, q_c2, q_nil, q_cons, q_c, q_call, q_callK, pick, q_b, q_tru, q_not, q_and, q_or, q_ifE, q_andV, q_orV, q_notV, q_chain, q_seq, q_tnx, q_trt, q_txn, q_tbk, q_tct, q_skip, q_drop, q_ret, q_retN, q_bk, q_ct, q_set, q_par, q_par3, q_if, q_raise, q_mt, q_mt0, q_end0, q_endr, q_endx, q_lt, q_le, q_gt, q_ge, q_sub, q_add, q_neg, q_inti, q_intb, q_max, q_min, q_lenT, q_lenF, q_truT, q_truF, q_truB, q_truI, q_ixT, q_ixF, at_0, at_1, er_int, er_bl, er_str, er_non, er_tup, er_flst, er_ref, er_obj, er_ty, er_gl, q_lst, q_tup, q_cutT, q_pn, q_ps, q_slT, q_itS, seqL_t, sz_0, sz_1, sz_2, sz_3, sz_4, sz_5, sz_6, sz_7, sz_8, sz_9, sz_10, sz_11, sz_12, sz_13, sz_14, wipeD])
    rw [left_more] at cb
    have ap2 := ap.app [(false, O.lst (iL (leftL n (sortR (row ++ [y])))))]
    have g3 := (Ap.new (h := h2) [(false, O.lst (iL (leftL n (sortR (row ++ [y])))))]).get g2
    have t6 := q_tupR (get_new (h := h2) (p := (false, O.lst (iL (leftL n (sortR (row ++ [y])))))))
    have e6 : (.tup (iL (leftL n (sortR (row ++ [y])))) : D) = iT (leftL n (sortR (row ++ [y]))) := rfl
    rw [e6] at t6
    generalize h2 ++ [(false, O.lst (iL (leftL n (sortR (row ++ [y])))))] = h3 at *
    have al := addG_len (row := row) (gs := gs.take i) (F := F)
    have tl : (gs.take i).length ≤ gs.length := by rw [List.length_take]; omega
    have t7 := xPut_M (mk := lftD n) (fun _ _ => lftD_inj) (r := sortR (row ++ [y])) rfl (keyT_lft n _) g3 (by omega)
    have lt := (List.getElem?_eq_some_iff.mp g3).1
    refine wS.of (q_setX33 (d := .bl true) (h1 := h1) (x := .ref n4) (h2 := h1) (y := lftD n (sortR (row ++ [y]))) (h3 := h3) rfl rfl ?_ t7) ⟨⟨_, rfl⟩, (kd.ap ap2).put _, ?_⟩
    · have t8 : gTupD [rowD (sortR (row ++ [y])), iT (leftL n (sortR (row ++ [y])))] h3 = some (lftD n (sortR (row ++ [y])), h3) := id rfl
      have er8 : (rowD (sortR (row ++ [y]))).isErr = false := rfl
      generalize lftD n (sortR (row ++ [y])) = RES at *
      generalize rowD (sortR (row ++ [y])) = R1 at *
      generalize iT (leftL n (sortR (row ++ [y]))) = L1 at *
      generalize D.tup (rL (row ++ [y])) = R2 at *
      generalize iT (leftL n row) = LT at *
      generalize rowD row = R3 at *
      generalize iT y = Y at *
      show cC gTupD _ [x0, x1, x2, x3, some (.ref n4), some R3, some LT, some Y, none, none] h1 = _
      simp only [q_bok, q_bxn, q_ofok, q_ofxn, q_vo, q_var, q_k, q_c1, q_c2, q_nil, q_cons, q_c, q_call, q_callK, pick, q_b, q_tru, q_not, q_and, q_or, q_ifE, q_andV, q_orV, q_notV, q_chain, q_seq, q_tnx, q_trt, q_txn, q_tbk, q_tct, q_skip, q_drop, q_ret, q_retN, q_bk, q_ct, q_set, q_par, q_par3, q_if, q_raise, q_mt, q_mt0, q_end0, q_endr, q_endx, q_lt, q_le, q_gt, q_ge, q_sub, q_add, q_neg, q_inti, q_intb, q_max, q_min, q_lenT, q_lenF, q_truT, q_truF, q_truB, q_truI, q_ixT, q_ixF, at_0, at_1, er_int, er_bl, er_str, er_non, er_tup, er_flst, er_ref, er_obj, er_ty, er_gl, q_tup, q_cutT, q_pn, q_ps, q_slT, q_itS, seqL_t, sz_0, sz_1, sz_2, sz_3, sz_4, sz_5, sz_6, sz_7, sz_8, sz_9, sz_10, sz_11, sz_12, sz_13, sz_14, List.getElem?_cons_succ, List.getElem?_cons_zero, er5, er7, Bool.false_eq_true, if_false, t2, t3, t4, t5, cb, t6, t8]
    · rw [List.getElem?_set_self lt, List.take_add_one, hi, Option.toList_some, addG_snoc]
  · rintro ρ h1 ⟨q, kd, g1⟩
    rw [List.take_length] at g1
    exact ⟨rfl, q, kd, g1⟩
theorem row2_w {h : Hc} {n4 : Nat} {n : List Int} (n7 : n.length ≤ 7) {s : Nat} {row : List (List Int)} {F : List (List (List Int))} (g : h[n4]? = some (false, dM (lftD n) F)) (s1 : 1 ≤ s) (s40 : s < 40) (rn : ∀ x ∈ row, x ≠ []) (rl : row.length ≤ 12) (fl : F.length ≤ 900000) (room : s ≤ (leftL n row).length) {x0 x1 x2 x7 : Option D} :
    wS (cFor (cItS (cCall (m__law_chosen 40) (cCons (cVar 6) (cCons (cVar 3) (cNil))))) (.nm 7) addB2 [x0, x1, x2, some (.int (s : Nat)), some (.ref n4), some (rowD row), some (iT (leftL n row)), x7, none, none] h) fun f ρ h' => f = .nx ∧ (∃ x7, ρ = [x0, x1, x2, some (.int (s : Nat)), some (.ref n4), some (rowD row), some (iT (leftL n row)), x7, none, none]) ∧ Kd n4 h h' ∧ h'[n4]? = some (false, dM (lftD n) (addG row F (picksL (leftL n row) s))) := by
  have sz : (10000000 : Nat) < sizeLine := by decide
  have er6 : (iT (leftL n row)).isErr = false := rfl
  have l7 : (leftL n row).length ≤ 7 := Nat.le_trans (left_sub n row).length_le n7
  obtain ⟨h3, m, e3, ap3, g3, lm⟩ := chosen2_w s 40 (leftL n row) h s40 room l7
  have l4 := (List.getElem?_eq_some_iff.mp g).1
  have nm : n4 ≠ m := by omega
  have g4 := ap3.get g
  have pl : (picksL (leftL n row) s).length ≤ 128 := Nat.le_trans (picks_len _ _) (Nat.le_trans (Nat.pow_le_pow_right (show 0 < 2 by decide) l7) (by decide))
  refine wS_forR (l := (picksL (leftL n row) s).map iT) (w := m) (h1 := h3) (p := (false, .lst ((picksL (leftL n row) s).map iT))) (by
    have sq := seqL_r g3
    generalize (picksL (leftL n row) s).map iT = LL at *
    generalize iT (leftL n row) = LT at *
    generalize rowD row = RD at *
    simp [q_bok, q_bxn, q_ofok, q_ofxn, q_vo, q_var, q_k, q_c1, q_c2, q_nil, q_cons, q_c, q_call, q_callK, pick, q_b, q_tru, q_not, q_and, q_or, q_ifE, q_andV, q_orV, q_notV, q_chain, q_seq, q_tnx, q_trt, q_txn, q_tbk, q_tct, q_skip, q_drop, q_ret, q_retN, q_bk, q_ct, q_set, q_par, q_par3, q_if, q_raise, q_mt, q_mt0, q_end0, q_endr, q_endx, q_lt, q_le, q_gt, q_ge, q_sub, q_add, q_neg, q_inti, q_intb, q_max, q_min, q_lenT, q_lenF, q_truT, q_truF, q_truB, q_truI, q_ixT, q_ixF, at_0, at_1, er_int, er_bl, er_str, er_non, er_tup, er_flst, er_ref, er_obj, er_ty, er_gl, q_lst, q_tup, q_cutT, q_pn, q_ps, q_slT, q_itS, seqL_t, sz_0, sz_1, sz_2, sz_3, sz_4, sz_5, sz_6, sz_7, sz_8, sz_9, sz_10, sz_11, sz_12, sz_13, sz_14, er6, e3, sq]) g3 ?_
  refine (add2_w (h := lckL [m] h3) (n4 := n4) (n := n) (row := row) (F := F) n7 (by rw [lck1_ne g3 nm]; exact g4) (gs := picksL (leftL n row) s) (fun y hy e => by
    have := ((picks_mem _ _ _).mp hy).2
    rw [e] at this; simp at this; omega) rn rl (by omega)).mono fun f ρ h5 q => ?_
  obtain ⟨rfl, ⟨x7, rfl⟩, kd, g5⟩ := q
  refine ⟨rfl, ⟨_, rfl⟩, (Kd.of ap3).trans (kd.unlock g3), ?_⟩
  rw [List.getElem?_set_ne (Ne.symm nm)]
  exact g5

end Gk

set_option Elab.async false
set_option linter.all false
set_option maxRecDepth 100000
namespace Gk
open PySem Sx
theorem nd_sub_len {α : Type} [DecidableEq α] : ∀ {A B : List α}, A.Nodup → (∀ x ∈ A, x ∈ B) → A.length ≤ B.length
  | [], B, _, _ => Nat.zero_le _
  | a :: A, B, nd, sub => by
    obtain ⟨n1, n2⟩ := List.nodup_cons.mp nd
    have ha := sub a (by simp)
    have ih := nd_sub_len (A := A) (B := B.erase a) n2 fun x hx => by
      have ne : x ≠ a := fun e => n1 (e ▸ hx)
      exact (List.mem_erase_of_ne ne).mpr (sub x (by simp [hx]))
    rw [List.length_erase_of_mem ha] at ih
    have := List.length_pos_of_mem ha
    rw [List.length_cons]
    omega
theorem left_len {n p : List Int} {row : List (List Int)} (nn : n.Nodup) (r : RowP n p row) : (leftL n row).length + row.flatten.length = n.length := by
  have h1 := sub_count nn r.nd (rows_in r)
  have h2 := List.length_eq_countP_add_countP (fun x => decide (x ∈ row.flatten)) (l := n)
  rw [h1] at h2
  unfold leftL
  rw [← List.countP_eq_length_filter]
  have e : n.countP (fun x => !inR x row) = n.countP fun x => decide ¬ decide (x ∈ row.flatten) = true := List.countP_congr fun x _ => by
    rw [inR_flat]
    simp
  rw [e]
  omega
theorem take_fall {p : List Int} (h : p.Pairwise (fun a b => b ≤ a)) (i : Nat) : (p.take i).Pairwise (fun a b => b ≤ a) := h.sublist (List.take_sublist _ _)
theorem sum_take {p : List Int} (h : ∀ s ∈ p, 0 ≤ s) (i : Nat) : (p.take i).sum + (p.drop i).sum = p.sum := by
  conv => rhs; rw [← List.take_append_drop i p]
  rw [List.sum_append]
theorem sum_pos0 : ∀ {p : List Int}, (∀ s ∈ p, 0 ≤ s) → 0 ≤ p.sum
  | [], _ => by simp
  | x :: p, h => by
    have := sum_pos0 (p := p) fun y hy => h y (by simp [hy])
    have := h x (by simp)
    rw [List.sum_cons]; omega
theorem keys_few {n p : List Int} (asc : n.Pairwise (· < ·)) (n6 : n.length ≤ 6) (fall : p.Pairwise (fun a b => b ≤ a)) (two : ∀ s ∈ p, 2 ≤ s) (few : p.sum ≤ (n.length : Nat)) : (keysK n p).length ≤ 759375 := by
  rw [(keysK_perm asc fall fun s hs => by have := two s hs; omega).length_eq]
  refine Nat.le_trans (groups15 p n n6 two) (Nat.le_trans (Nat.pow_le_pow_right (by decide) (show (lessL p).toNat ≤ 5 by
    cases p with
    | nil => simp [lessL]
    | cons x p => unfold lessL; simp only [List.length_cons]; omega)) (by decide))
theorem keysX_M {mk : List (List Int) → D} {F : List (List (List Int))} {h : Hc} {f : Nat} (g : h[f]? = some (false, dM mk F)) (ne : F ≠ []) : keysX (.ref f) h = some ((F.map mk, [f]), h) := by
  have kx : keysX (.ref f) h = some (((tdM mk F).map (·.1), [f]), h) := by
    unfold keysX
    simp only [g, dM, if_neg ne]
  rw [tdM_keys] at kx
  exact kx
theorem leftL_nil (n : List Int) : leftL n [] = n := by
  unfold leftL
  exact List.filter_eq_self.mpr fun x _ => rfl
theorem rows2r_w {h : Hc} {n p : List Int} {rN : Nat} {fN : Bool} (gN : h[rN]? = some (fN, .lst (iL n))) (asc : n.Pairwise (· < ·)) (n6 : n.length ≤ 6) (fall : p.Pairwise (fun a b => b ≤ a)) (two : ∀ s ∈ p, 2 ≤ s) (few : p.sum ≤ (n.length : Nat)) :
    ∃ (L' : List (List (List Int))) (h' : Hc) (r : Nat), m__law_rows [.ref rN, iT p] h = .ok (.ref r) h' ∧ Ap h h' ∧ h.length ≤ r ∧ h'[r]? = some (false, .lst (L'.map rowD)) ∧ L'.Perm (groupsL n p) := by
  have sz : (10000000 : Nat) < sizeLine := by decide
  have pos : ∀ s ∈ p, 1 ≤ s := fun s hs => by have := two s hs; omega
  have nn : n.Nodup := asc.imp fun h => by omega
  have t2 := sum_twice p two
  suffices w : wE (m__law_rows [.ref rN, iT p] h) fun x h' => ∃ (L' : List (List (List Int))) (r : Nat), x = .ref r ∧ Ap h h' ∧ h.length ≤ r ∧ h'[r]? = some (false, .lst (L'.map rowD)) ∧ L'.Perm (groupsL n p) by
    obtain ⟨_, h', e, L', r, rfl, q⟩ := w.eq
    exact ⟨L', h', r, e, q⟩
  have erN : (iT n).isErr = false := rfl
  have erP : (iT p).isErr = false := rfl
  unfold m__law_rows
  refine wE_run rfl ?_
  unfold b__law_rows
  have d0 : cDisp (cPc (cC gTupD (cCons (cC gTupD (cNil)) (cCons (cC gTuple (cCons (cVar 0) (cNil))) (cNil)))) (cK (.bl true)) (cPn)) [some (.ref rN), some (iT p), none, none, none, none, none, none, none, none] h = .ok (.ref h.length) (h ++ [(false, dM (lftD n) [[]])]) := by
    have : dispO [(D.tup [.tup [], iT n], .bl true)] = some (dM (lftD n) [[]]) := by
      unfold dM
      rw [if_neg (by simp)]
      show _ = some (O.dcd [(D.tup [.tup [], iT (leftL n [])], .bl true)])
      rw [leftL_nil]
      obtain ⟨k, kt⟩ := keyT_lft n []
      have kt : keyT (D.tup [.tup [], iT n]) = some k := by
        have := kt
        unfold lftD at this
        rw [leftL_nil] at this
        exact this
      have fk : flatK [(D.tup [.tup [], iT n], D.bl true)] = none := rfl
      unfold dispO
      rw [fk]
      simp only [List.all_cons, List.all_nil, kt, Option.isSome_some, Bool.and_true, if_true]
      rfl
    unfold cDisp
    have qt : gTuple [.ref rN] h = some (iT n, h) := q_tupR gN
    have t0 : gTupD [] h = some (.tup [], h) := id rfl
    have t2 : gTupD [.tup [], iT n] h = some (.tup [.tup [], iT n], h) := id rfl
    have ep : cPc (cC gTupD (cCons (cC gTupD (cNil)) (cCons (cC gTuple (cCons (cVar 0) (cNil))) (cNil)))) (cK (.bl true)) (cPn) [some (.ref rN), some (iT p), none, none, none, none, none, none, none, none] h = Res.ok ([(D.tup [.tup [], iT n], D.bl true)] : TD) h := by
      unfold cPc cPn
      have e1 : cC gTupD (cCons (cC gTupD (cNil)) (cCons (cC gTuple (cCons (cVar 0) (cNil))) (cNil))) [some (.ref rN), some (iT p), none, none, none, none, none, none, none, none] h = .ok (D.tup [.tup [], iT n]) h := by
        have erT : (iT n).isErr = false := rfl
        generalize iT n = NN at *
        generalize iT p = PP at *
        simp [q_bok, q_bxn, q_ofok, q_ofxn, q_vo, q_var, q_k, q_c1, q_c2, q_nil, q_cons, q_c, q_call, q_callK, pick, q_b, q_tru, q_not, q_and, q_or, q_ifE, q_andV, q_orV, q_notV, q_chain, q_seq, q_tnx, q_trt, q_txn, q_tbk, q_tct, q_skip, q_drop, q_ret, q_retN, q_bk, q_ct, q_set, q_par, q_par3, q_if, q_raise, q_mt, q_mt0, q_end0, q_endr, q_endx, q_lt, q_le, q_gt, q_ge, q_sub, q_add, q_neg, q_inti, q_intb, q_max, q_min, q_lenT, q_lenF, q_truT, q_truF, q_truB, q_truI, q_ixT, q_ixF, at_0, at_1, er_int, er_bl, er_str, er_non, er_tup, er_flst, er_ref, er_obj, er_ty, er_gl, q_tup, q_cutT, q_pn, q_ps, q_slT, q_itS, seqL_t, sz_0, sz_1, sz_2, sz_3, sz_4, sz_5, sz_6, sz_7, sz_8, sz_9, sz_10, sz_11, sz_12, sz_13, sz_14, t0, qt, t2, erT]
      rw [e1, q_bok]
      rfl
    rw [ep, q_bok, this]
  refine wS_step (ρ' := [some (.ref rN), some (iT p), some (.ref h.length), none, none, none, none, none, none, none]) (h' := h ++ [(false, dM (lftD n) [[]])]) (by
    show cSet 2 _ [some (.ref rN), some (iT p), none, none, none, none, none, none, none, none] h = _
    rw [q_set, d0, q_ofok]; rfl) ?_
  have g0 := get_new (h := h) (p := (false, dM (lftD n) [[]]))
  have lp : p.length ≤ 3 := by omega
  refine wS_bind2 (R := fun ρ h1 => (∃ f x3 x4 x5 x6 x7, ρ = [some (.ref rN), some (iT p), some (.ref f), x3, x4, x5, x6, x7, none, none] ∧ h.length ≤ f ∧ h1[f]? = some (false, dM (lftD n) (keysK n p))) ∧ Ap h h1) ?_ ?_
  · rw [q_for (l := iL p) (h1 := h ++ [(false, dM (lftD n) [[]])]) (by
      have sq := seqL_t (ds := iL p) (h := h ++ [(false, dM (lftD n) [[]])])
      have sq : seqL (iT p) _ = some (iL p, []) := sq
      generalize iT p = PP at *
      skip
      simp [q_bok, q_bxn, q_ofok, q_ofxn, q_vo, q_var, q_k, q_c1, q_c2, q_nil, q_cons, q_c, q_call, q_callK, pick, q_b, q_tru, q_not, q_and, q_or, q_ifE, q_andV, q_orV, q_notV, q_chain, q_seq, q_tnx, q_trt, q_txn, q_tbk, q_tct, q_skip, q_drop, q_ret, q_retN, q_bk, q_ct, q_set, q_par, q_par3, q_if, q_raise, q_mt, q_mt0, q_end0, q_endr, q_endx, q_lt, q_le, q_gt, q_ge, q_sub, q_add, q_neg, q_inti, q_intb, q_max, q_min, q_lenT, q_lenF, q_truT, q_truF, q_truB, q_truI, q_ixT, q_ixF, at_0, at_1, er_int, er_bl, er_str, er_non, er_tup, er_flst, er_ref, er_obj, er_ty, er_gl, q_lst, q_tup, q_cutT, q_pn, q_ps, q_slT, q_itS, seqL_t, sz_0, sz_1, sz_2, sz_3, sz_4, sz_5, sz_6, sz_7, sz_8, sz_9, sz_10, sz_11, sz_12, sz_13, sz_14, erP, sq])]
    refine for_ix D.int p (fun i ρ h1 => (∃ f x3 x4 x5 x6 x7, ρ = [some (.ref rN), some (iT p), some (.ref f), x3, x4, x5, x6, x7, none, none] ∧ h.length ≤ f ∧ h1[f]? = some (false, dM (lftD n) (keysK n (p.take i)))) ∧ Ap h h1) ?_ ?_ ⟨⟨h.length, _, _, _, _, _, rfl, Nat.le_refl _, by simpa [keysK] using g0⟩, .new _⟩
    · rintro i s ρ h1 hi ⟨⟨f, x3, x4, x5, x6, x7, rfl, lf, gf⟩, ap1⟩
      have hil := (List.getElem?_eq_some_iff.mp hi).1
      have hs2 := two s (List.mem_of_getElem? hi)
      obtain ⟨sn, rfl⟩ := Int.eq_ofNat_of_zero_le (by omega : 0 ≤ s)
      refine ⟨_, asg_nm, ?_⟩
      have tk : p.take (i + 1) = p.take i ++ [((sn : Nat) : Int)] := by rw [List.take_add_one, hi]; rfl
      have two1 : ∀ x ∈ p.take (i + 1), 2 ≤ x := fun x hx => two x (List.mem_of_mem_take hx)
      have two0 : ∀ x ∈ p.take i, 2 ≤ x := fun x hx => two x (List.mem_of_mem_take hx)
      have nn0 : ∀ s ∈ p, (0 : Int) ≤ s := fun s hs => by have := two s hs; omega
      have few1 : (p.take (i + 1)).sum ≤ (n.length : Nat) := by
        have h1 := sum_take nn0 (i + 1)
        have h2 := sum_pos0 (p := p.drop (i + 1)) fun x hx => nn0 x (List.mem_of_mem_drop hx)
        omega
      have s1 : (p.take (i + 1)).sum = (p.take i).sum + (sn : Int) := by rw [tk, List.sum_append]; simp
      have s0 := sum_pos0 (p := p.take i) fun x hx => nn0 x (List.mem_of_mem_take hx)
      obtain ⟨ndF, memF⟩ := keysK_ok asc (p.take i) (take_fall fall i) fun x hx => by have := two0 x hx; omega
      have lF := keys_few asc n6 (take_fall fall i) two0 (by omega)
      have lF1 := keys_few asc n6 (take_fall fall (i + 1)) two1 few1
      rw [tk, keysK_snoc] at lF1
      have neF : keysK n (p.take i) ≠ [] := fun e => by
        have := groups_ne asc (take_fall fall i) (fun x hx => by have := two0 x hx; omega) (by omega) (p := p.take i)
        have q := keysK_perm asc (take_fall fall i) fun x hx => by have := two0 x hx; omega
        rw [e] at q
        exact this q.symm.eq_nil
      obtain ⟨ndS, memS⟩ := sizeK_ok (n := n) (s := ((sn : Nat) : Int)) (keysK n (p.take i))
      generalize hF : keysK n (p.take i) = F at *
      have e4 : cSet 4 (cDic0) [some (.ref rN), some (iT p), some (.ref f), some (.int (sn : Nat)), x4, x5, x6, x7, none, none] h1 = .ok .nx [some (.ref rN), some (iT p), some (.ref f), some (.int (sn : Nat)), some (.ref h1.length), x5, x6, x7, none, none] (h1 ++ [(false, dM (lftD n) [])]) := by
        rw [q_set]
        rfl
      have ap2 : Ap h1 (h1 ++ [(false, dM (lftD n) [])]) := .new _
      have gn := get_new (h := h1) (p := (false, dM (lftD n) []))
      have gf2 := ap2.get gf
      have lf1 := (List.getElem?_eq_some_iff.mp gf).1
      have l1 := ap1.len
      generalize hn4 : h1.length = n4 at *
      refine wS_step e4 ?_
      generalize h1 ++ [(false, dM (lftD n) [])] = h2 at *
      refine wS_bind2 (R := fun ρ h3 => (∃ x5 x6 x7, ρ = [some (.ref rN), some (iT p), some (.ref f), some (.int (sn : Nat)), some (.ref n4), x5, x6, x7, none, none]) ∧ Kd n4 h2 h3 ∧ h3[n4]? = some (false, dM (lftD n) (sizeK n (sn : Int) F))) ?_ ?_
      · refine wS_forR (l := F.map (lftD n)) (w := f) (h1 := h2) (p := (false, dM (lftD n) F)) (by
          have kx := keysX_M gf2 neF
          unfold cItX
          show Res.bind (.ok (D.ref f) h2) _ = _
          rw [q_bok, kx]) gf2 ?_
        have nf : n4 ≠ f := by omega
        refine for_ix (lftD n) F (fun j ρ h3 => (∃ x5 x6 x7, ρ = [some (.ref rN), some (iT p), some (.ref f), some (.int (sn : Nat)), some (.ref n4), x5, x6, x7, none, none]) ∧ Kd n4 (lckL [f] h2) h3 ∧ h3[n4]? = some (false, dM (lftD n) (sizeK n (sn : Int) (F.take j)))) ?_ ?_ ⟨⟨_, _, _, rfl⟩, .refl, by rw [lck1_ne gf2 nf]; simpa [sizeK] using gn⟩
        · rintro j row ρ h3 hj ⟨⟨x5, x6, x7, rfl⟩, kd, g3⟩
          have hrow := List.mem_of_getElem? hj
          have r := (memF row).mp hrow
          refine ⟨[some (.ref rN), some (iT p), some (.ref f), some (.int (sn : Nat)), some (.ref n4), some (rowD row), some (iT (leftL n row)), x7, none, none], asg_t2, ?_⟩
          have big : ∀ g ∈ row, 2 ≤ g.length := fun g hg => by
            have : (g.length : Int) ∈ p.take i := (rev_perm r.pat).mem_iff.mpr (List.mem_map.mpr ⟨g, hg, rfl⟩)
            have := two0 _ this
            omega
          have ll := left_len nn r
          have tt := r.tot
          have ff := flat_ge33 (T := row) fun l hl e => by have := big l hl; rw [e] at this; simp at this
          have prefixLen : (sizeK n (sn : Int) (F.take j)).length ≤ 759375 := by
            refine Nat.le_trans (nd_sub_len (sizeK_ok (F.take j)).1 fun x hx => ?_) lF1
            obtain ⟨r0, h0, q⟩ := ((sizeK_ok (F.take j)).2 x).mp hx
            exact (memS x).mpr ⟨r0, List.mem_of_mem_take h0, q⟩
          refine (row2_w (h := h3) (n := n) (by omega) (s := sn) g3 (by omega) (by omega) (fun x hx e => by have := big x hx; rw [e] at this; simp at this) (by omega) (by omega) (by omega)).mono fun fl ρ h4 q => ?_
          obtain ⟨rfl, ⟨x7, rfl⟩, kd4, g4⟩ := q
          refine ⟨⟨_, _, _, rfl⟩, kd.trans kd4, ?_⟩
          rw [List.take_add_one, hj, Option.toList_some, sizeK_snoc]
          have e : ((sn : Nat) : Int).toNat = sn := rfl
          rw [e]
          exact g4
        · rintro ρ h3 ⟨q, kd, g3⟩
          rw [List.take_length] at g3
          exact ⟨q, kd.unlock gf2, by rw [List.getElem?_set_ne (Ne.symm nf)]; exact g3⟩
      · rintro ρ h3 ⟨⟨x5, x6, x7, rfl⟩, kd, g3⟩
        refine wS.of (f := .nx) (ρ := [some (.ref rN), some (iT p), some (.ref n4), some (.int (sn : Nat)), some (.ref n4), x5, x6, x7, none, none]) (h := h3) (by
          generalize iT p = PP at *
          skip
          simp [q_bok, q_bxn, q_ofok, q_ofxn, q_vo, q_var, q_k, q_c1, q_c2, q_nil, q_cons, q_c, q_call, q_callK, pick, q_b, q_tru, q_not, q_and, q_or, q_ifE, q_andV, q_orV, q_notV, q_chain, q_seq, q_tnx, q_trt, q_txn, q_tbk, q_tct, q_skip, q_drop, q_ret, q_retN, q_bk, q_ct, q_set, q_par, q_par3, q_if, q_raise, q_mt, q_mt0, q_end0, q_endr, q_endx, q_lt, q_le, q_gt, q_ge, q_sub, q_add, q_neg, q_inti, q_intb, q_max, q_min, q_lenT, q_lenF, q_truT, q_truF, q_truB, q_truI, q_ixT, q_ixF, at_0, at_1, er_int, er_bl, er_str, er_non, er_tup, er_flst, er_ref, er_obj, er_ty, er_gl, q_lst, q_tup, q_cutT, q_pn, q_ps, q_slT, q_itS, seqL_t, sz_0, sz_1, sz_2, sz_3, sz_4, sz_5, sz_6, sz_7, sz_8, sz_9, sz_10, sz_11, sz_12, sz_13, sz_14]) ⟨⟨n4, _, _, _, _, _, rfl, by omega, ?_⟩, ?_⟩
        · rw [tk, keysK_snoc, hF]
          exact g3
        · have := ap2.len
          refine ap1.trans ((Kd.of (n := n4) ap2).trans kd |>.isAp (by omega))
    · rintro ρ h1 ⟨⟨f, x3, x4, x5, x6, x7, rfl, lf, gf⟩, ap1⟩
      rw [List.take_length] at gf
      exact ⟨⟨f, _, _, _, _, _, rfl, lf, gf⟩, ap1⟩
  · rintro ρ h1 ⟨⟨f, x3, x4, x5, x6, x7, rfl, lf, gf⟩, ap1⟩
    have q := keysK_perm asc fall pos
    have neF : keysK n p ≠ [] := fun e => by
      rw [e] at q
      exact groups_ne asc fall pos few q.symm.eq_nil
    obtain ⟨ndF, memF⟩ := keysK_ok asc p fall pos
    have lF := keys_few asc n6 fall two few
    generalize hF : keysK n p = F at *
    -- the rows alone
    have e8 : cSet 8 (cDic0) [some (.ref rN), some (iT p), some (.ref f), x3, x4, x5, x6, x7, none, none] h1 = .ok .nx [some (.ref rN), some (iT p), some (.ref f), x3, x4, x5, x6, x7, some (.ref h1.length), none] (h1 ++ [(false, dM rowD [])]) := by
      rw [q_set]
      rfl
    have ap2 : Ap h1 (h1 ++ [(false, dM rowD [])]) := .new _
    have gn := get_new (h := h1) (p := (false, dM rowD []))
    have gf2 := ap2.get gf
    have lf1 := (List.getElem?_eq_some_iff.mp gf).1
    have l1 := ap1.len
    generalize hn8 : h1.length = n8 at *
    refine wS_step e8 ?_
    generalize h1 ++ [(false, dM rowD [])] = h2 at *
    have nf : n8 ≠ f := by omega
    refine wS_bind2 (R := fun ρ h3 => (∃ x5 x6, ρ = [some (.ref rN), some (iT p), some (.ref f), x3, x4, x5, x6, x7, some (.ref n8), none]) ∧ Kd n8 h2 h3 ∧ h3[n8]? = some (false, dM rowD F)) ?_ ?_
    · refine wS_forR (l := F.map (lftD n)) (w := f) (h1 := h2) (p := (false, dM (lftD n) F)) (by
        have kx := keysX_M gf2 neF
        unfold cItX
        show Res.bind (.ok (D.ref f) h2) _ = _
        rw [q_bok, kx]) gf2 ?_
      refine for_ix (lftD n) F (fun j ρ h3 => (∃ x5 x6, ρ = [some (.ref rN), some (iT p), some (.ref f), x3, x4, x5, x6, x7, some (.ref n8), none]) ∧ Kd n8 (lckL [f] h2) h3 ∧ h3[n8]? = some (false, dM rowD (F.take j))) ?_ ?_ ⟨⟨_, _, rfl⟩, .refl, by rw [lck1_ne gf2 nf]; simpa using gn⟩
      · rintro j row ρ h3 hj ⟨⟨x5, x6, rfl⟩, kd, g3⟩
        refine ⟨[some (.ref rN), some (iT p), some (.ref f), x3, x4, some (rowD row), some (iT (leftL n row)), x7, some (.ref n8), none], asg_t2, ?_⟩
        have hjl := (List.getElem?_eq_some_iff.mp hj).1
        have tl : (F.take j).length ≤ 759375 := by rw [List.length_take]; omega
        have t7 := xPut_M (mk := rowD) (fun _ _ => rowD_inj) (r := row) rfl (keyT_row _) g3 (by omega)
        have et : F.take (j + 1) = F.take j ++ [row] := by rw [List.take_add_one, hj]; rfl
        have nd1 : (F.take j ++ [row]).Nodup := by rw [← et]; exact ndF.sublist (List.take_sublist _ _)
        have nin : row ∉ F.take j := fun z => (List.nodup_append.mp nd1).2.2 row z row (by simp) rfl
        rw [addK_app nin] at t7
        have lt := (List.getElem?_eq_some_iff.mp g3).1
        refine wS.of (q_setX33 (d := .bl true) (h1 := h3) (x := .ref n8) (h2 := h3) (y := rowD row) (h3 := h3) rfl rfl rfl t7) ⟨⟨_, _, rfl⟩, kd.put _, by rw [List.getElem?_set_self lt, et]⟩
      · rintro ρ h3 ⟨q, kd, g3⟩
        rw [List.take_length] at g3
        exact ⟨q, kd.unlock gf2, by rw [List.getElem?_set_ne (Ne.symm nf)]; exact g3⟩
    · rintro ρ h3 ⟨⟨x5, x6, rfl⟩, kd, g3⟩
      obtain ⟨L', pm, es⟩ : ∃ L' : List (List (List Int)), L'.Perm F ∧ srtD (F.map rowD) h3 = some (.ref h3.length, h3 ++ [(false, .lst (L'.map rowD))]) := by
        by_cases pne : p = []
        · subst pne
          have e1 : F = [[]] := by rw [← hF]; rfl
          rw [e1]
          refine ⟨[[]], .refl _, ?_⟩
          have : sortR [[]] = [[]] := by simp [sortR]
          show srtD [D.tup []] h3 = _
          unfold srtD
          simp only [intsOf, rowsOf, rowI, this]
          rfl
        · exact srtD_RR (L := F) (h := h3) fun r hr e => by
            have := (rev_perm ((memF r).mp hr).pat).length_eq
            rw [e] at this
            simp at this
            exact pne this
      have gs : gSrtX [.ref n8] h3 = some (.ref h3.length, h3 ++ [(false, .lst (L'.map rowD))]) := by
        unfold gSrtX
        simp only [g3, dM, if_neg neF]
        rw [tdM_keys]
        exact es
      have apx : Ap h h3 := ap1.trans ((Kd.of (n := n8) ap2).trans kd |>.isAp (by have := ap2.len; omega))
      refine wS.of (f := .ret (.ref h3.length)) (ρ := [some (.ref rN), some (iT p), some (.ref f), x3, x4, x5, x6, x7, some (.ref n8), none]) (h := h3 ++ [(false, .lst (L'.map rowD))]) (by
        generalize iT p = PP at *
        skip
        simp [q_bok, q_bxn, q_ofok, q_ofxn, q_vo, q_var, q_k, q_c1, q_c2, q_nil, q_cons, q_c, q_call, q_callK, pick, q_b, q_tru, q_not, q_and, q_or, q_ifE, q_andV, q_orV, q_notV, q_chain, q_seq, q_tnx, q_trt, q_txn, q_tbk, q_tct, q_skip, q_drop, q_ret, q_retN, q_bk, q_ct, q_set, q_par, q_par3, q_if, q_raise, q_mt, q_mt0, q_end0, q_endr, q_endx, q_lt, q_le, q_gt, q_ge, q_sub, q_add, q_neg, q_inti, q_intb, q_max, q_min, q_lenT, q_lenF, q_truT, q_truF, q_truB, q_truI, q_ixT, q_ixF, at_0, at_1, er_int, er_bl, er_str, er_non, er_tup, er_flst, er_ref, er_obj, er_ty, er_gl, q_lst, q_tup, q_cutT, q_pn, q_ps, q_slT, q_itS, seqL_t, sz_0, sz_1, sz_2, sz_3, sz_4, sz_5, sz_6, sz_7, sz_8, sz_9, sz_10, sz_11, sz_12, sz_13, sz_14, gs]) ⟨L', _, rfl, apx.app _, apx.len, get_new, pm.trans q⟩

end Gk

set_option Elab.async false
set_option linter.all false
set_option maxRecDepth 100000
namespace Gk
open PySem Sx
section
variable {b : List Int} {ds : List (List Int)}
theorem sumN_sR {α : Type} {f : α → Nat} : ∀ {l : List α}, (((l.map f).sum : Nat) : Rat) = sR l fun a => ((f a : Nat) : Rat)
  | [] => by simp [sR_nil]
  | a :: l => by
    rw [List.map_cons, List.sum_cons, sR_cons, ← sumN_sR]
    simp
abbrev szM (m : Nat) (p : List Int) : List Nat := p.map Int.toNat ++ List.replicate (m - p.sum.toNat) 1
theorem sR_pick {f : Nat → Rat} {N i : Nat} (hi : i < N) : sR (List.range N) (fun k => if k = i then f k else 0) = f i := by
  have one : ∀ M, sR (List.range M) (fun k => if k = i then f k else 0) = if i < M then f i else 0 := by
    intro M
    induction M with
    | zero => simp [sR_nil]
    | succ M ih =>
      rw [sR_last, ih]
      by_cases c1 : i < M
      · have c2 : ¬ M = i := by omega
        have c3 : i < M + 1 := by omega
        simp [c1, c2, c3]; grind
      · by_cases c2 : M = i
        · subst c2; simp; grind
        · have c3 : ¬ i < M + 1 := by omega
          simp [c1, c2, c3]; grind
  rw [one, if_pos hi]
end

section
variable {α : Type} [DecidableEq α]
def updK (K : List α) (k : α) : List α := if k ∈ K then K else K ++ [k]
def updF {β : Type} (f : α → β) (k : α) (v : β) : α → β := fun x => if x = k then v else f x
theorem updK_nd {K : List α} {k : α} (nd : K.Nodup) : (updK K k).Nodup := by
  unfold updK
  split
  · exact nd
  · rename_i c
    exact List.nodup_append.mpr ⟨nd, by simp, fun a ha b hb => by simp at hb; subst hb; exact fun e => c (e ▸ ha)⟩
theorem updK_len {K : List α} {k : α} : (updK K k).length ≤ K.length + 1 := by
  unfold updK
  split <;> simp
theorem updK_mem {K : List α} {k x : α} : x ∈ updK K k ↔ x ∈ K ∨ x = k := by
  unfold updK
  split
  · rename_i c
    exact ⟨.inl, fun h => h.elim id fun e => e ▸ c⟩
  · simp
theorem updK_ne {K : List α} {k : α} : updK K k ≠ [] := fun e => by
  have := (updK_mem (K := K) (k := k) (x := k)).mpr (.inr rfl)
  rw [e] at this
  cases this
theorem upd_sum {f φ : α → Rat} {k : α} {v : Rat} : ∀ {K : List α}, K.Nodup → k ∈ K → sR K (fun x => updF f k v x * φ x) = sR K (fun x => f x * φ x) + (v - f k) * φ k
  | [], _, h => by cases h
  | a :: K, nd, h => by
    rw [sR_cons, sR_cons]
    rw [List.nodup_cons] at nd
    by_cases c : a = k
    · subst c
      have e : sR K (fun x => updF f a v x * φ x) = sR K fun x => f x * φ x := sR_congr fun x hx => by
        unfold updF
        have : ¬ x = a := by rintro rfl; exact nd.1 hx
        rw [if_neg this]
      rw [e]
      unfold updF
      rw [if_pos rfl]
      grind
    · have h2 : k ∈ K := by
        rcases List.mem_cons.mp h with q | q
        · exact absurd q.symm c
        · exact q
      rw [upd_sum nd.2 h2]
      have e : updF f k v a = f a := by unfold updF; rw [if_neg c]
      rw [e]
      grind
theorem upd_new {f φ : α → Rat} {k : α} {v : Rat} {K : List α} (nd : K.Nodup) (f0 : ∀ x, x ∉ K → f x = 0) : sR (updK K k) (fun x => updF f k v x * φ x) = sR K (fun x => f x * φ x) + (v - f k) * φ k := by
  by_cases c : k ∈ K
  · have e : updK K k = K := if_pos c
    rw [e]
    exact upd_sum nd c
  · have e : updK K k = K ++ [k] := if_neg c
    have e2 : sR K (fun x => updF f k v x * φ x) = sR K fun x => f x * φ x := sR_congr fun x hx => by
      unfold updF
      have : ¬ x = k := by rintro rfl; exact c hx
      rw [if_neg this]
    rw [e, sR_app, e2, sR_cons, sR_nil, f0 k c]
    unfold updF
    rw [if_pos rfl]
    grind
end
abbrev PTm := (Nat × Nat) × Nat
def pev (φ : Nat → Nat → Rat) (P : List PTm) : Rat := sR P fun e => (e.2 : Nat) * φ e.1.1 e.1.2
def pmul (φ : Nat → Nat → Rat) (P Q : List PTm) : Rat := sR P fun e => sR Q fun g => ((e.2 * g.2 : Nat) : Rat) * φ (e.1.1 + g.1.1) (e.1.2 + g.1.2)
theorem pmul_pev {φ : Nat → Nat → Rat} {P Q : List PTm} : pmul φ P Q = pev (fun i j => pev (fun k l => φ (i + k) (j + l)) Q) P := by
  unfold pmul pev
  refine sR_congr fun e _ => ?_
  rw [← sR_mul]
  refine sR_congr fun g _ => ?_
  rw [Rat.natCast_mul]
  grind
def pevL : List (List PTm) → (Nat → Nat → Rat) → Rat
  | [], φ => φ 0 0
  | P :: L, φ => pev (fun i j => pevL L fun k l => φ (i + k) (j + l)) P
theorem pevL_snoc {P : List PTm} : ∀ {L : List (List PTm)} {φ : Nat → Nat → Rat}, pevL (L ++ [P]) φ = pevL L fun i j => pev (fun k l => φ (i + k) (j + l)) P
  | [], φ => by simp only [List.nil_append, pevL, Nat.zero_add, Nat.add_zero]
  | Q :: L, φ => by
    simp only [List.cons_append, pevL]
    unfold pev
    refine sR_congr fun e _ => ?_
    simp only []
    rw [pevL_snoc]
    unfold pev
    simp only [Nat.add_assoc]
def facP (al : Alw) (s : Nat) : List PTm := ((List.range (s + 1)).filter fun a => al s a).map fun a => ((a, if a = 0 then 0 else 1), chN s a)
theorem sR_filter {α : Type} {f : α → Rat} {P : α → Bool} : ∀ {l : List α}, sR (l.filter P) f = sR l fun a => if P a = true then f a else 0
  | [] => rfl
  | a :: l => by
    rw [List.filter_cons, sR_cons]
    cases c : P a with
    | true => rw [if_pos rfl, sR_cons, sR_filter]; rfl
    | false =>
      simp only [Bool.false_eq_true, if_false]
      rw [sR_filter]
      grind
theorem fac_ev {al : Alw} {s : Nat} {φ : Nat → Nat → Rat} : pev φ (facP al s) = sR (List.range (s + 1)) fun a => (chN s a : Nat) * (if al s a = true then φ a (if a = 0 then 0 else 1) else 0) := by
  unfold pev facP
  rw [sR_map, sR_filter]
  refine sR_congr fun a _ => ?_
  cases c : al s a <;> simp
theorem evG_fac {al : Alw} : ∀ {r : List Nat} {φ : Nat → Nat → Rat}, pevL (r.map (facP al)) φ = evG al r φ
  | [], φ => rfl
  | s :: r, φ => by
    simp only [List.map_cons, pevL, evG]
    rw [fac_ev]
    refine sR_congr fun a _ => ?_
    rw [evG_fac]
def sglP (t : Nat) : List PTm := (List.range (t + 1)).map fun a => ((a, a), chN t a)
theorem pascal {ψ : Nat → Rat} {t : Nat} : sR (List.range (t + 1 + 1)) (fun a => (chN (t + 1) a : Nat) * ψ a) = sR (List.range (t + 1)) (fun a => (chN t a : Nat) * ψ a) + sR (List.range (t + 1)) fun a => (chN t a : Nat) * ψ (1 + a) := by
  rw [sR_range0 (t + 1)]
  have e : sR (List.range (t + 1)) (fun i => (chN (t + 1) (i + 1) : Nat) * ψ (i + 1)) = sR (List.range (t + 1)) (fun a => (chN t a : Nat) * ψ (1 + a)) + sR (List.range (t + 1)) fun i => (chN t (i + 1) : Nat) * ψ (i + 1) := by
    rw [← sR_add]
    refine sR_congr fun i _ => ?_
    rw [Nat.add_comm 1 i, show chN (t + 1) (i + 1) = chN t i + chN t (i + 1) from rfl, Rat.natCast_add]
    grind
  rw [e, sR_last (f := fun i => ((chN t (i + 1) : Nat) : Rat) * ψ (i + 1)) t, ch_over (Nat.lt_succ_self t), sR_range0 (f := fun a => ((chN t a : Nat) : Rat) * ψ a) t, ch_zero, ch_zero]
  simp
  grind
theorem sgl_ev {al : Alw} (a10 : al 1 0 = true) (a11 : al 1 1 = true) : ∀ {t : Nat} {φ : Nat → Nat → Rat}, pev φ (sglP t) = evG al (List.replicate t 1) φ
  | 0, φ => by simp [pev, sglP, sR_cons, sR_nil, evG, chN, Rat.add_zero]
  | t + 1, φ => by
    rw [List.replicate_succ]
    have e1 : pev φ (sglP (t + 1)) = sR (List.range (t + 1 + 1)) fun a => (chN (t + 1) a : Nat) * φ a a := by unfold pev sglP; rw [sR_map]
    have e2 : ∀ ψ : Nat → Nat → Rat, pev ψ (sglP t) = sR (List.range (t + 1)) fun a => (chN t a : Nat) * ψ a a := fun ψ => by unfold pev sglP; rw [sR_map]
    rw [e1, pascal (ψ := fun a => φ a a)]
    have c0 : chN 1 0 = 1 := rfl
    have c1 : chN 1 1 = 1 := rfl
    have two : ∀ g : Nat → Rat, sR (List.range (1 + 1)) g = g 0 + g 1 := fun g => by
      rw [show List.range (1 + 1) = [0, 1] from rfl, sR_cons, sR_cons, sR_nil, Rat.add_zero]
    simp only [evG]
    rw [two]
    simp only [a10, a11, if_true, Nat.zero_add, c0, c1, ← sgl_ev a10 a11, Nat.one_ne_zero, if_false, e2]
    rw [show ((1 : Nat) : Rat) = 1 from rfl, Rat.one_mul, Rat.one_mul]
theorem evG_app {al : Alw} : ∀ {a b : List Nat} {φ : Nat → Nat → Rat}, evG al (a ++ b) φ = evG al a fun i j => evG al b fun k l => φ (i + k) (j + l)
  | [], b, φ => by simp [evG]
  | s :: a, b, φ => by
    simp only [List.cons_append, evG]
    refine sR_congr fun x _ => ?_
    rw [evG_app]
    simp only [Nat.add_assoc]
theorem all_ev {al : Alw} (a10 : al 1 0 = true) (a11 : al 1 1 = true) {r : List Nat} {t : Nat} {φ : Nat → Nat → Rat} : pevL (r.map (facP al) ++ [sglP t]) φ = evG al (r ++ List.replicate t 1) φ := by
  rw [pevL_snoc, evG_fac, evG_app]
  simp only [sgl_ev a10 a11]

end Gk

set_option Elab.async false
set_option linter.all false
set_option maxRecDepth 100000
namespace Gk
open PySem Sx
abbrev pkD (e : Nat × Nat) : D := .tup [.int (e.1 : Nat), .int (e.2 : Nat)]
def pE (K : List (Nat × Nat)) (f : Nat × Nat → Nat) : TD := K.map fun e => (pkD e, .int (f e : Nat))
def pO (K : List (Nat × Nat)) (f : Nat × Nat → Nat) : O := if K = [] then .dic [] else .dcd (pE K f)
abbrev tmD (e : PTm) : D := .tup [.int (e.1.1 : Nat), .int (e.1.2 : Nat), .int (e.2 : Nat)]
abbrev polyD (P : List PTm) : D := .tup (P.map tmD)
theorem pk_inj {e g : Nat × Nat} : pkD e = pkD g ↔ e = g := by
  constructor
  · intro h
    simp only [pkD, D.tup.injEq, List.cons.injEq, D.int.injEq, Int.natCast_inj, and_true] at h
    exact Prod.ext h.1 h.2
  · rintro rfl; rfl
theorem keyT_pk (e : Nat × Nat) : ∃ k, keyT (pkD e) = some k := ⟨_, by
  simp only [keyT, pkD, keyNs, keyN]
  rw [if_pos (by simp [NestedKey.depth, NestedKey.depthAll])]⟩
theorem keyD_pk {e : Nat × Nat} : keyD (pkD e) = none := rfl
theorem tGet_pk {f : Nat × Nat → Nat} {e : Nat × Nat} : ∀ {K : List (Nat × Nat)}, tGet (pE K f) (pkD e) = if e ∈ K then some (.int (f e : Nat)) else none
  | [] => by simp [pE, tGet]
  | a :: K => by
    have ih := tGet_pk (f := f) (e := e) (K := K)
    unfold pE at ih ⊢
    rw [List.map_cons, tGet, ih]
    simp only [pk_inj]
    by_cases c : a = e
    · subst c; simp
    · rw [if_neg c]
      have : ¬ e = a := fun q => c q.symm
      simp [this]
theorem tPut_pk {f : Nat × Nat → Nat} {e : Nat × Nat} {v : Nat} {K : List (Nat × Nat)} : tPut (pE K f) (pkD e) (.int (v : Nat)) = pE (updK K e) (updF f e v) := by
  unfold tPut updK
  rw [tGet_pk]
  by_cases c : e ∈ K
  · simp only [c, if_true, Option.isSome_some]
    unfold pE
    rw [List.map_map]
    refine List.map_congr_left fun x _ => ?_
    simp only [Function.comp, pk_inj, updF]
    split <;> rfl
  · simp only [c, if_false, Option.isSome_none, Bool.false_eq_true]
    unfold pE
    rw [List.map_append]
    congr 1
    · refine List.map_congr_left fun x hx => ?_
      have : ¬ x = e := by rintro rfl; exact c hx
      simp only [updF, this, if_false]
    · simp [updF]
section
variable {h : Hc} {n : Nat} {fl : Bool} {K : List (Nat × Nat)} {f : Nat × Nat → Nat} {e : Nat × Nat} {v : Nat}
theorem asT_p (g : h[n]? = some (fl, pO K f)) : asT n h = some (fl, pE K f) := by
  unfold asT
  rw [g]
  unfold pO
  by_cases c : K = []
  · subst c; simp [pE]
  · simp only [c, if_false]
theorem xGet_p (g : h[n]? = some (fl, pO K f)) : xGet (.ref n) (pkD e) h = some (if e ∈ K then some (.int (f e : Nat)) else none) := by
  obtain ⟨k, hk⟩ := keyT_pk e
  unfold xGet
  simp only [keyD_pk, hk, asT_p g, tGet_pk]
theorem isDic_p (g : h[n]? = some (fl, pO K f)) : isDic (.ref n) h = true := by
  unfold isDic
  simp only [g]
  unfold pO
  by_cases c : K = []
  · subst c; simp
  · simp only [c, if_false]
theorem xPut_p (g : h[n]? = some (false, pO K f)) (l : K.length < sizeLine) : xPut (.ref n) (pkD e) (.int (v : Nat)) h = some (h.set n (false, pO (updK K e) (updF f e v))) := by
  obtain ⟨k, hk⟩ := keyT_pk e
  have lp : (pE K f).length < sizeLine := by unfold pE; rw [List.length_map]; exact l
  unfold xPut
  simp only [keyD_pk, hk, asT_p g, lp, if_true, tPut_pk]
  unfold pO
  rw [if_neg updK_ne]
end
theorem q_getD {o e f : CE} {ρ : Rho} {h h1 h2 h3 : Hc} {x y z : D} {r : Option D} (e1 : o ρ h = .ok x h1) (d : isDic x h1 = true) (e2 : e ρ h1 = .ok y h2) (e3 : f ρ h2 = .ok z h3) (g : xGet x y h3 = some r) : cGetD o e f ρ h = .ok (r.getD z) h3 := by
  unfold cGetD
  rw [e1, q_bok, if_pos d, e2, q_bok, e3, q_bok, g]
  cases r <;> rfl
theorem q_setX {e o i : CE} {ρ : Rho} {h h1 h2 h3 h4 : Hc} {d x y : D} (e1 : e ρ h = .ok d h1) (e2 : o ρ h1 = .ok x h2) (e3 : i ρ h2 = .ok y h3) (g : xPut x y d h3 = some h4) : cSetX e o i ρ h = .ok .nx ρ h4 := by
  unfold cSetX
  rw [e1, q_ofok, e2, q_ofok, e3, q_ofok, g]
theorem rowsOf_p : ∀ K : List (Nat × Nat), rowsOf (K.map pkD) = some (K.map fun e => [((e.1 : Nat) : Int), ((e.2 : Nat) : Int)])
  | [] => rfl
  | e :: K => by
    have r1 : rowI (pkD e) = some [((e.1 : Nat) : Int), ((e.2 : Nat) : Int)] := by
      unfold pkD
      simp [rowI, intsOf]
    rw [List.map_cons, rowsOf, r1, rowsOf_p K]
    rfl
def lxP (a b : Nat × Nat) : Prop := a.1 < b.1 ∨ (a.1 = b.1 ∧ a.2 < b.2)
theorem lx_of {a b : Nat × Nat} (h : leR [((a.1 : Nat) : Int), ((a.2 : Nat) : Int)] [((b.1 : Nat) : Int), ((b.2 : Nat) : Int)] = true) (ne : a ≠ b) : lxP a b := by
  have h := of_decide_eq_true h
  have h1 : ¬ ([((b.1 : Nat) : Int), ((b.2 : Nat) : Int)] < [((a.1 : Nat) : Int), ((a.2 : Nat) : Int)]) := h
  rw [List.cons_lt_cons_iff, List.cons_lt_cons_iff] at h1
  obtain ⟨a1, a2⟩ := a
  obtain ⟨b1, b2⟩ := b
  unfold lxP
  simp only [Prod.mk.injEq, ne_eq] at *
  omega
theorem gSrtX_p {h : Hc} {n : Nat} {fl : Bool} {K : List (Nat × Nat)} {f : Nat × Nat → Nat} (ne : K ≠ []) (g : h[n]? = some (fl, pO K f)) : ∃ K' : List (Nat × Nat), K'.Perm K ∧ (K.Nodup → K'.Pairwise lxP) ∧ gSrtX [.ref n] h = some (.ref h.length, h ++ [(false, .lst (K'.map pkD))]) := by
  have io : intsOf (K.map pkD) = none := by
    cases K with
    | nil => exact absurd rfl ne
    | cons a K => rfl
  obtain ⟨K', p, e⟩ := permLift (fun e : Nat × Nat => [((e.1 : Nat) : Int), ((e.2 : Nat) : Int)]) (List.mergeSort_perm (K.map fun e : Nat × Nat => [((e.1 : Nat) : Int), ((e.2 : Nat) : Int)]) leR) K rfl
  refine ⟨K', p, fun nd => ?_, ?_⟩
  · have so := sortR_sorted (K.map fun e : Nat × Nat => [((e.1 : Nat) : Int), ((e.2 : Nat) : Int)])
    unfold sortR at so
    rw [← e, List.pairwise_map] at so
    exact List.Pairwise.imp₂ (fun a b h1 h2 => lx_of h1 h2) so (p.nodup_iff.mpr nd)
  have g' := g
  unfold pO at g'
  rw [if_neg ne] at g'
  have ek : (pE K f).map (·.1) = K.map pkD := by unfold pE; rw [List.map_map]; rfl
  unfold gSrtX
  simp only [g']
  unfold srtD
  rw [ek, io, rowsOf_p]
  simp only [sortR]
  rw [← e, List.map_map]
  rfl
theorem terms_w {h : Hc} {n : Nat} {fl : Bool} {K : List (Nat × Nat)} {f : Nat × Nat → Nat} (ne : K ≠ []) (l : K.length < sizeLine) (g : h[n]? = some (fl, pO K f)) :
    ∃ P h', m_terms [.ref n] h = .ok (polyD P) h' ∧ Ap h h' ∧ (∀ φ, pev φ P = sR K fun e => (f e : Nat) * φ e.1 e.2) ∧ (∀ e ∈ P, e.1 ∈ K ∧ e.2 = f e.1) ∧ P.length ≤ K.length ∧ (K.Nodup → P.Pairwise fun a b => lxP a.1 b.1) ∧ ∀ e ∈ P, 0 < e.2 := by
  obtain ⟨K', pm, so, gs⟩ := gSrtX_p ne g
  have ap1 : Ap h (h ++ [(false, O.lst (K'.map pkD))]) := .new _
  have g1 := get_new (h := h) (p := (false, O.lst (K'.map pkD)))
  have gd := ap1.get g
  have lw : h.length ≠ n := by have := (List.getElem?_eq_some_iff.mp g).1; omega
  have ll : K'.length < sizeLine := by rw [pm.length_eq]; exact l
  generalize hw : h.length = w at *
  generalize hh : h ++ [(false, O.lst (K'.map pkD))] = h1 at *
  have gl : (lckL [w] h1)[n]? = some (fl, pO K f) := by rw [lck1_ne g1 (Ne.symm lw)]; exact gd
  have c := q_compR2 (vs := [1, 2]) (ci := cItS (cC gSrtX (cCons (cVar 0) (cNil)))) (t := .tp [.nm 1, .nm 2]) (tt := cB (c2 gNe (c2 gXGet (cVar 0) (cC gTupD (cCons (cVar 1) (cCons (cVar 2) (cNil))))) (cK (.int 0)))) (e := cC gTupD (cCons (cVar 1) (cCons (cVar 2) (cCons (c2 gXGet (cVar 0) (cC gTupD (cCons (cVar 1) (cCons (cVar 2) (cNil))))) (cNil))))) (ρ := [some (.ref n), none, none]) (h0 := h) (h := h1) (l := K'.map pkD) (xs := (K'.filter fun e => decide (f e ≠ 0)).map fun e => tmD (e, f e)) g1 (by
    have sq := seqL_r g1
    generalize K'.map pkD = LL at *
    simp [q_bok, q_bxn, q_ofok, q_ofxn, q_vo, q_var, q_k, q_c1, q_c2, q_nil, q_cons, q_c, q_call, q_callK, pick, q_b, q_tru, q_not, q_and, q_or, q_ifE, q_andV, q_orV, q_notV, q_chain, q_seq, q_tnx, q_trt, q_txn, q_tbk, q_tct, q_skip, q_drop, q_ret, q_retN, q_bk, q_ct, q_set, q_par, q_par3, q_if, q_raise, q_mt, q_mt0, q_end0, q_endr, q_endx, q_lt, q_le, q_gt, q_ge, q_sub, q_add, q_neg, q_inti, q_intb, q_max, q_min, q_lenT, q_lenF, q_truT, q_truF, q_truB, q_truI, q_ixT, q_ixF, at_0, at_1, er_int, er_bl, er_str, er_non, er_tup, er_flst, er_ref, er_obj, er_ty, er_gl, q_lst, q_tup, q_cutT, q_pn, q_ps, q_slT, q_itS, seqL_t, sz_0, sz_1, sz_2, sz_3, sz_4, sz_5, sz_6, sz_7, sz_8, sz_9, sz_10, sz_11, sz_12, sz_13, sz_14, gs, sq]) (by rw [List.length_map]; exact ll) (by
    refine comp_some pkD (fun e => tmD (e, f e)) (fun e => decide (f e ≠ 0)) K' fun e he => ⟨_, asg_t2, ?_⟩
    have hk : e ∈ K := pm.mem_iff.mp he
    have xg := xGet_p (e := e) gl
    rw [if_pos hk] at xg
    have gx : gXGet (.ref n) (.tup [.int (e.1 : Nat), .int (e.2 : Nat)]) (lckL [w] h1) = some (.int (f e : Nat), lckL [w] h1) := by
      unfold gXGet
      have xg : xGet (.ref n) (.tup [.int (e.1 : Nat), .int (e.2 : Nat)]) (lckL [w] h1) = _ := xg
      rw [xg]
    have gt : ∀ a c : D, gTupD [a, c] (lckL [w] h1) = some (.tup [a, c], lckL [w] h1) := fun a c => id rfl
    have gt3 : ∀ a c d : D, gTupD [a, c, d] (lckL [w] h1) = some (.tup [a, c, d], lckL [w] h1) := fun a c d => id rfl
    generalize lckL [w] h1 = HL at *
    constructor
    · simp [q_bok, q_bxn, q_ofok, q_ofxn, q_vo, q_var, q_k, q_c1, q_c2, q_nil, q_cons, q_c, q_call, q_callK, pick, q_b, q_tru, q_not, q_and, q_or, q_ifE, q_andV, q_orV, q_notV, q_chain, q_seq, q_tnx, q_trt, q_txn, q_tbk, q_tct, q_skip, q_drop, q_ret, q_retN, q_bk, q_ct, q_set, q_par, q_par3, q_if, q_raise, q_mt, q_mt0, q_end0, q_endr, q_endx, q_lt, q_le, q_gt, q_ge, q_sub, q_add, q_neg, q_inti, q_intb, q_max, q_min, q_lenT, q_lenF, q_truT, q_truF, q_truB, q_truI, q_ixT, q_ixF, at_0, at_1, er_int, er_bl, er_str, er_non, er_tup, er_flst, er_ref, er_obj, er_ty, er_gl, q_lst, q_tup, q_cutT, q_pn, q_ps, q_slT, q_itS, seqL_t, sz_0, sz_1, sz_2, sz_3, sz_4, sz_5, sz_6, sz_7, sz_8, sz_9, sz_10, sz_11, sz_12, sz_13, sz_14, wipeD, gt, gx, q_neI]
    · simp [q_bok, q_bxn, q_ofok, q_ofxn, q_vo, q_var, q_k, q_c1, q_c2, q_nil, q_cons, q_c, q_call, q_callK, pick, q_b, q_tru, q_not, q_and, q_or, q_ifE, q_andV, q_orV, q_notV, q_chain, q_seq, q_tnx, q_trt, q_txn, q_tbk, q_tct, q_skip, q_drop, q_ret, q_retN, q_bk, q_ct, q_set, q_par, q_par3, q_if, q_raise, q_mt, q_mt0, q_end0, q_endr, q_endx, q_lt, q_le, q_gt, q_ge, q_sub, q_add, q_neg, q_inti, q_intb, q_max, q_min, q_lenT, q_lenF, q_truT, q_truF, q_truB, q_truI, q_ixT, q_ixF, at_0, at_1, er_int, er_bl, er_str, er_non, er_tup, er_flst, er_ref, er_obj, er_ty, er_gl, q_lst, q_tup, q_cutT, q_pn, q_ps, q_slT, q_itS, seqL_t, sz_0, sz_1, sz_2, sz_3, sz_4, sz_5, sz_6, sz_7, sz_8, sz_9, sz_10, sz_11, sz_12, sz_13, sz_14, wipeD, gt, gt3, gx])
  have qt := q_tupR (get_new (h := h1) (p := (false, .lst ((K'.filter fun e => decide (f e ≠ 0)).map fun e => tmD (e, f e)))))
  refine ⟨(K'.filter fun e => decide (f e ≠ 0)).map fun e => (e, f e), h1 ++ [(false, .lst ((K'.filter fun e => decide (f e ≠ 0)).map fun e => tmD (e, f e)))], ?_, ap1.app _, ?_, ?_, ?_, ?_, ?_⟩
  · unfold m_terms runD b_terms polyD
    simp only [List.length_cons, List.length_nil, if_true]
    show endD (cRet _ [some (.ref n), none, none] h) = _
    rw [q_ret]
    simp only [q_c, q_cons, c, q_bok, q_nil, qt, q_vo, q_ofok, q_endr, List.map_map]
    rfl
  · intro φ
    unfold pev
    rw [sR_map, sR_filter, ← sR_perm pm]
    refine sR_congr fun e _ => ?_
    by_cases c : f e = 0 <;> simp [c]
  · intro e he
    obtain ⟨x, hx, rfl⟩ := List.mem_map.mp he
    exact ⟨pm.mem_iff.mp (List.mem_filter.mp hx).1, rfl⟩
  · rw [List.length_map, ← pm.length_eq]
    exact List.length_filter_le _ _
  · intro nd
    exact List.pairwise_map.mpr ((so nd).sublist List.filter_sublist)
  · intro e he
    obtain ⟨x, hx, rfl⟩ := List.mem_map.mp he
    have := of_decide_eq_true (List.mem_filter.mp hx).2
    show 0 < f x
    omega

def csum (P : List PTm) : Nat := (P.map (·.2)).sum
theorem csum_ev {P : List PTm} : ((csum P : Nat) : Rat) = pev (fun _ _ => 1) P := by
  unfold csum pev
  rw [sumN_sR]
  refine sR_congr fun e _ => ?_
  rw [Rat.mul_one]
theorem le_csum {P : List PTm} {e : PTm} (h : e ∈ P) : e.2 ≤ csum P := by
  unfold csum
  induction P with
  | nil => cases h
  | cons a P ih =>
    rw [List.map_cons, List.sum_cons]
    rcases List.mem_cons.mp h with q | q
    · subst q; omega
    · have := ih q; omega
theorem pev_one {P : List PTm} {k : Rat} : pev (fun _ _ => k) P = (csum P : Nat) * k := by
  rw [csum_ev]
  unfold pev
  rw [show sR P (fun e => ((e.2 : Nat) : Rat) * (fun _ _ => k) e.1.1 e.1.2) = sR P fun e => k * (((e.2 : Nat) : Rat) * 1) from sR_congr fun e _ => by simp only []; grind, sR_mul]
  grind
theorem pos_ne {P : List PTm} (h : 0 < csum P) : P ≠ [] := fun e => by subst e; exact absurd h (Nat.lt_irrefl 0)
theorem csum_mul {P Q R : List PTm} (h : ∀ φ, pev φ R = pmul φ P Q) : csum R = csum P * csum Q := by
  have e := h fun _ _ => 1
  rw [← csum_ev, pmul_pev] at e
  have e2 : (fun (_ _ : Nat) => pev (fun _ _ => 1) Q) = fun _ _ => ((csum Q : Nat) : Rat) := by rw [csum_ev]
  rw [e2, pev_one, ← Rat.natCast_mul] at e
  exact Rat.natCast_inj.mp e
structure PolyOk (D L C : Nat) (P : List PTm) : Prop where
  pos : 0 < csum P
  pow : ∀ e ∈ P, e.1.1 ≤ D ∧ e.1.2 ≤ D
  len : P.length ≤ L
  sum : csum P ≤ C
  asc : P.Pairwise fun a b => lxP a.1 b.1
  nz : ∀ e ∈ P, 0 < e.2
  jle : ∀ e ∈ P, e.1.2 ≤ e.1.1
section
variable {h : Hc} {P Q : List PTm} {D1 D2 L1 L2 C1 C2 : Nat}
structure PState (D : Nat) (K : List (Nat × Nat)) (f : Nat × Nat → Nat) (T : (Nat → Nat → Rat) → Rat) (LN : Nat) : Prop where
  nd : K.Nodup
  off : ∀ x, x ∉ K → f x = 0
  pow : ∀ e ∈ K, e.1 ≤ D ∧ e.2 ≤ D
  len : K.length ≤ LN
  ne : 0 < LN → K ≠ []
  jle : ∀ e ∈ K, e.2 ≤ e.1
  sum : ∀ φ, sR K (fun e => (f e : Nat) * φ e.1 e.2) = T φ
theorem PState.step {D len : Nat} {K : List (Nat × Nat)} {f : Nat × Nat → Nat} {T : (Nat → Nat → Rat) → Rat} (s : PState D K f T len) {e g : PTm} (h1 : e.1.1 + g.1.1 ≤ D) (h2 : e.1.2 + g.1.2 ≤ D) (h3 : e.1.2 + g.1.2 ≤ e.1.1 + g.1.1) :
    PState D (updK K (e.1.1 + g.1.1, e.1.2 + g.1.2)) (updF f (e.1.1 + g.1.1, e.1.2 + g.1.2) (f (e.1.1 + g.1.1, e.1.2 + g.1.2) + e.2 * g.2)) (fun φ => T φ + ((e.2 * g.2 : Nat) : Rat) * φ (e.1.1 + g.1.1) (e.1.2 + g.1.2)) (len + 1) where
  nd := updK_nd s.nd
  off := fun x hx => by
    have hx' : ¬ (x ∈ K ∨ x = (e.1.1 + g.1.1, e.1.2 + g.1.2)) := fun q => hx (updK_mem.mpr q)
    unfold updF
    rw [if_neg fun q => hx' (.inr q)]
    exact s.off x fun q => hx' (.inl q)
  pow := fun x hx => by
    rcases updK_mem.mp hx with q | q
    · exact s.pow x q
    · subst q; exact ⟨h1, h2⟩
  len := by
    have := updK_len (K := K) (k := (e.1.1 + g.1.1, e.1.2 + g.1.2))
    have := s.len
    omega
  ne := fun _ => updK_ne
  jle := fun x hx => by
    rcases updK_mem.mp hx with q | q
    · exact s.jle x q
    · subst q; exact h3
  sum := fun φ => by
    have u := upd_new (f := fun x => ((f x : Nat) : Rat)) (φ := fun x => φ x.1 x.2) (k := (e.1.1 + g.1.1, e.1.2 + g.1.2)) (v := ((f (e.1.1 + g.1.1, e.1.2 + g.1.2) + e.2 * g.2 : Nat) : Rat)) s.nd (fun x hx => by rw [s.off x hx]; rfl)
    rw [← s.sum φ]
    have e2 : sR (updK K (e.1.1 + g.1.1, e.1.2 + g.1.2)) (fun x => ((updF f (e.1.1 + g.1.1, e.1.2 + g.1.2) (f (e.1.1 + g.1.1, e.1.2 + g.1.2) + e.2 * g.2) x : Nat) : Rat) * φ x.1 x.2) = sR (updK K (e.1.1 + g.1.1, e.1.2 + g.1.2)) (fun x => updF (fun x => ((f x : Nat) : Rat)) (e.1.1 + g.1.1, e.1.2 + g.1.2) ((f (e.1.1 + g.1.1, e.1.2 + g.1.2) + e.2 * g.2 : Nat) : Rat) x * φ x.1 x.2) := sR_congr fun x _ => by
      congr 1
      unfold updF
      split <;> rfl
    rw [e2, u]
    congr 1
    rw [Rat.natCast_add]
    simp only []
    grind
theorem pev_take {φ : Nat → Nat → Rat} {i : Nat} {e : PTm} (hi : P[i]? = some e) : pev φ (P.take (i + 1)) = pev φ (P.take i) + (e.2 : Nat) * φ e.1.1 e.1.2 := by
  rw [List.take_add_one, hi]
  unfold pev
  rw [Option.toList_some, sR_app, sR_cons, sR_nil]
  grind
theorem times_poly (p : PolyOk D1 L1 C1 P) (q : PolyOk D2 L2 C2 Q) (c1 : C1 < 2 ^ 60) (l : L1 * L2 ≤ 100000) :
    ∃ R h', m_poly_times [polyD P, polyD Q] h = .ok (polyD R) h' ∧ Ap h h' ∧ (∀ φ, pev φ R = pmul φ P Q) ∧ PolyOk (D1 + D2) (L1 * L2) (C1 * C2) R := by
  have sz : (200000 : Nat) < sizeLine := by decide
  suffices w : wE (m_poly_times [polyD P, polyD Q] h) fun r h' => ∃ R, r = polyD R ∧ Ap h h' ∧ (∀ φ, pev φ R = pmul φ P Q) ∧ PolyOk (D1 + D2) (L1 * L2) (C1 * C2) R by
    obtain ⟨_, h', e, R, rfl, a⟩ := w.eq
    exact ⟨R, h', e, a⟩
  unfold m_poly_times
  refine wE_run rfl ?_
  unfold b_poly_times
  have erP : (polyD P).isErr = false := rfl
  have erQ : (polyD Q).isErr = false := rfl
  have LQ : P.length * Q.length ≤ L1 * L2 := Nat.mul_le_mul p.len q.len
  refine wS_step (ρ' := [some (polyD P), some (polyD Q), some (.ref h.length), none, none, none, none, none, none]) (h' := h ++ [(false, .dic [])]) (by
    show cSet 2 (cDic0) [some (polyD P), some (polyD Q), none, none, none, none, none, none, none] h = _
    generalize polyD P = PP at *
    generalize polyD Q = QQ at *
    simp [q_bok, q_bxn, q_ofok, q_ofxn, q_vo, q_var, q_k, q_c1, q_c2, q_nil, q_cons, q_c, q_call, q_callK, pick, q_b, q_tru, q_not, q_and, q_or, q_ifE, q_andV, q_orV, q_notV, q_chain, q_seq, q_tnx, q_trt, q_txn, q_tbk, q_tct, q_skip, q_drop, q_ret, q_retN, q_bk, q_ct, q_set, q_par, q_par3, q_if, q_raise, q_mt, q_mt0, q_end0, q_endr, q_endx, q_lt, q_le, q_gt, q_ge, q_sub, q_add, q_neg, q_inti, q_intb, q_max, q_min, q_lenT, q_lenF, q_truT, q_truF, q_truB, q_truI, q_ixT, q_ixF, at_0, at_1, er_int, er_bl, er_str, er_non, er_tup, er_flst, er_ref, er_obj, er_ty, er_gl, q_lst, q_tup, q_cutT, q_pn, q_ps, q_slT, q_itS, seqL_t, sz_0, sz_1, sz_2, sz_3, sz_4, sz_5, sz_6, sz_7, sz_8, sz_9, sz_10, sz_11, sz_12, sz_13, sz_14, cDic0]) ?_
  refine wS_bind2 (R := fun ρ h1 => ∃ K f x3 x4 x5 x6 x7 x8, ρ = [some (polyD P), some (polyD Q), some (.ref h.length), x3, x4, x5, x6, x7, x8] ∧ h1 = h ++ [(false, pO K f)] ∧ PState (D1 + D2) K f (fun φ => pev (fun i j => pev (fun k l => φ (i + k) (j + l)) Q) (P.take P.length)) (P.length * Q.length)) ?_ ?_
  · rw [q_for (l := P.map tmD) (h1 := h ++ [(false, .dic [])]) (by
      have sq := seqL_t (ds := P.map tmD) (h := h ++ [(false, .dic [])])
      unfold polyD at *
      generalize D.tup (P.map tmD) = PP at *
      simp [q_bok, q_bxn, q_ofok, q_ofxn, q_vo, q_var, q_k, q_c1, q_c2, q_nil, q_cons, q_c, q_call, q_callK, pick, q_b, q_tru, q_not, q_and, q_or, q_ifE, q_andV, q_orV, q_notV, q_chain, q_seq, q_tnx, q_trt, q_txn, q_tbk, q_tct, q_skip, q_drop, q_ret, q_retN, q_bk, q_ct, q_set, q_par, q_par3, q_if, q_raise, q_mt, q_mt0, q_end0, q_endr, q_endx, q_lt, q_le, q_gt, q_ge, q_sub, q_add, q_neg, q_inti, q_intb, q_max, q_min, q_lenT, q_lenF, q_truT, q_truF, q_truB, q_truI, q_ixT, q_ixF, at_0, at_1, er_int, er_bl, er_str, er_non, er_tup, er_flst, er_ref, er_obj, er_ty, er_gl, q_lst, q_tup, q_cutT, q_pn, q_ps, q_slT, q_itS, seqL_t, sz_0, sz_1, sz_2, sz_3, sz_4, sz_5, sz_6, sz_7, sz_8, sz_9, sz_10, sz_11, sz_12, sz_13, sz_14, erP, sq])]
    refine for_ix tmD P (fun i ρ h1 => ∃ K f x3 x4 x5 x6 x7 x8, ρ = [some (polyD P), some (polyD Q), some (.ref h.length), x3, x4, x5, x6, x7, x8] ∧ h1 = h ++ [(false, pO K f)] ∧ PState (D1 + D2) K f (fun φ => pev (fun i j => pev (fun k l => φ (i + k) (j + l)) Q) (P.take i)) (i * Q.length)) ?_ ?_ ?_
    · rintro i e ρ h1 hi ⟨K, f, x3, x4, x5, x6, x7, x8, rfl, rfl, st⟩
      refine ⟨_, asg_t3, ?_⟩
      have he : e ∈ P := List.mem_of_getElem? hi
      have hlt : i < P.length := (List.getElem?_eq_some_iff.mp hi).1
      show wS (cFor _ _ _ [some (polyD P), some (polyD Q), some (.ref h.length), some (.int (e.1.1 : Nat)), some (.int (e.1.2 : Nat)), some (.int (e.2 : Nat)), x6, x7, x8] (h ++ [(false, pO K f)])) _
      rw [q_for (l := Q.map tmD) (h1 := h ++ [(false, pO K f)]) (by
        have sq := seqL_t (ds := Q.map tmD) (h := h ++ [(false, pO K f)])
        unfold polyD at *
        generalize D.tup (Q.map tmD) = QQ at *
        simp [q_bok, q_bxn, q_ofok, q_ofxn, q_vo, q_var, q_k, q_c1, q_c2, q_nil, q_cons, q_c, q_call, q_callK, pick, q_b, q_tru, q_not, q_and, q_or, q_ifE, q_andV, q_orV, q_notV, q_chain, q_seq, q_tnx, q_trt, q_txn, q_tbk, q_tct, q_skip, q_drop, q_ret, q_retN, q_bk, q_ct, q_set, q_par, q_par3, q_if, q_raise, q_mt, q_mt0, q_end0, q_endr, q_endx, q_lt, q_le, q_gt, q_ge, q_sub, q_add, q_neg, q_inti, q_intb, q_max, q_min, q_lenT, q_lenF, q_truT, q_truF, q_truB, q_truI, q_ixT, q_ixF, at_0, at_1, er_int, er_bl, er_str, er_non, er_tup, er_flst, er_ref, er_obj, er_ty, er_gl, q_lst, q_tup, q_cutT, q_pn, q_ps, q_slT, q_itS, seqL_t, sz_0, sz_1, sz_2, sz_3, sz_4, sz_5, sz_6, sz_7, sz_8, sz_9, sz_10, sz_11, sz_12, sz_13, sz_14, erQ, sq])]
      refine for_ix tmD Q (fun j ρ h1 => ∃ K f x6 x7 x8, ρ = [some (polyD P), some (polyD Q), some (.ref h.length), some (.int (e.1.1 : Nat)), some (.int (e.1.2 : Nat)), some (.int (e.2 : Nat)), x6, x7, x8] ∧ h1 = h ++ [(false, pO K f)] ∧ PState (D1 + D2) K f (fun φ => pev (fun i j => pev (fun k l => φ (i + k) (j + l)) Q) (P.take i) + pev (fun k l => (e.2 : Nat) * φ (e.1.1 + k) (e.1.2 + l)) (Q.take j)) (i * Q.length + j)) ?_ ?_ ?_
      · rintro j g ρ h1 hj ⟨K, f, x6, x7, x8, rfl, rfl, st⟩
        refine ⟨_, asg_t3, ?_⟩
        have hg : g ∈ Q := List.mem_of_getElem? hj
        have hlt2 : j < Q.length := (List.getElem?_eq_some_iff.mp hj).1
        have gh := get_new (h := h) (p := (false, pO K f))
        have lk : K.length < sizeLine := by
          have a := st.len
          have b := Nat.mul_le_mul_right Q.length hlt
          rw [Nat.succ_mul] at b
          omega
        have sp := st.step (e := e) (g := g) (by have := p.pow e he; have := q.pow g hg; omega) (by have := p.pow e he; have := q.pow g hg; omega) (by have := p.jle e he; have := q.jle g hg; omega)
        have xg := xGet_p (e := (e.1.1 + g.1.1, e.1.2 + g.1.2)) gh
        have dc := isDic_p gh
        have xp := xPut_p (e := (e.1.1 + g.1.1, e.1.2 + g.1.2)) (v := f (e.1.1 + g.1.1, e.1.2 + g.1.2) + e.2 * g.2) gh lk
        have fk : (if (e.1.1 + g.1.1, e.1.2 + g.1.2) ∈ K then some (D.int (f (e.1.1 + g.1.1, e.1.2 + g.1.2) : Nat)) else none).getD (.int 0) = D.int (f (e.1.1 + g.1.1, e.1.2 + g.1.2) : Nat) := by
          split
          · rfl
          · rename_i c
            rw [st.off _ c]; rfl
        have sn := set_new (h := h) (p := (false, pO K f)) (q := (false, pO (updK K (e.1.1 + g.1.1, e.1.2 + g.1.2)) (updF f (e.1.1 + g.1.1, e.1.2 + g.1.2) (f (e.1.1 + g.1.1, e.1.2 + g.1.2) + e.2 * g.2))))
        rw [sn] at xp
        refine wS.of (f := .nx) (ρ := [some (polyD P), some (polyD Q), some (.ref h.length), some (.int (e.1.1 : Nat)), some (.int (e.1.2 : Nat)), some (.int (e.2 : Nat)), some (.int (g.1.1 : Nat)), some (.int (g.1.2 : Nat)), some (.int (g.2 : Nat))]) (h := h ++ [(false, pO (updK K (e.1.1 + g.1.1, e.1.2 + g.1.2)) (updF f (e.1.1 + g.1.1, e.1.2 + g.1.2) (f (e.1.1 + g.1.1, e.1.2 + g.1.2) + e.2 * g.2)))]) ?_ ⟨_, _, _, _, _, rfl, rfl, ?_⟩
        · show cSetX _ _ _ [some (polyD P), some (polyD Q), some (.ref h.length), some (.int (e.1.1 : Nat)), some (.int (e.1.2 : Nat)), some (.int (e.2 : Nat)), some (.int (g.1.1 : Nat)), some (.int (g.1.2 : Nat)), some (.int (g.2 : Nat))] (h ++ [(false, pO K f)]) = _
          have kk : cC gTupD (cCons (c2 gAdd (cVar 3) (cVar 6)) (cCons (c2 gAdd (cVar 4) (cVar 7)) (cNil))) [some (polyD P), some (polyD Q), some (.ref h.length), some (.int (e.1.1 : Nat)), some (.int (e.1.2 : Nat)), some (.int (e.2 : Nat)), some (.int (g.1.1 : Nat)), some (.int (g.1.2 : Nat)), some (.int (g.2 : Nat))] (h ++ [(false, pO K f)]) = .ok (pkD (e.1.1 + g.1.1, e.1.2 + g.1.2)) (h ++ [(false, pO K f)]) := by
            have gt : ∀ a c : D, gTupD [a, c] (h ++ [(false, pO K f)]) = some (.tup [a, c], (h ++ [(false, pO K f)])) := fun a c => id rfl
            generalize h ++ [(false, pO K f)] = HL at *
            generalize polyD P = PP at *
            generalize polyD Q = QQ at *
            simp [q_bok, q_bxn, q_ofok, q_ofxn, q_vo, q_var, q_k, q_c1, q_c2, q_nil, q_cons, q_c, q_call, q_callK, pick, q_b, q_tru, q_not, q_and, q_or, q_ifE, q_andV, q_orV, q_notV, q_chain, q_seq, q_tnx, q_trt, q_txn, q_tbk, q_tct, q_skip, q_drop, q_ret, q_retN, q_bk, q_ct, q_set, q_par, q_par3, q_if, q_raise, q_mt, q_mt0, q_end0, q_endr, q_endx, q_lt, q_le, q_gt, q_ge, q_sub, q_add, q_neg, q_inti, q_intb, q_max, q_min, q_lenT, q_lenF, q_truT, q_truF, q_truB, q_truI, q_ixT, q_ixF, at_0, at_1, er_int, er_bl, er_str, er_non, er_tup, er_flst, er_ref, er_obj, er_ty, er_gl, q_lst, q_tup, q_cutT, q_pn, q_ps, q_slT, q_itS, seqL_t, sz_0, sz_1, sz_2, sz_3, sz_4, sz_5, sz_6, sz_7, sz_8, sz_9, sz_10, sz_11, sz_12, sz_13, sz_14, gt]
          have rr : cVar 2 [some (polyD P), some (polyD Q), some (.ref h.length), some (.int (e.1.1 : Nat)), some (.int (e.1.2 : Nat)), some (.int (e.2 : Nat)), some (.int (g.1.1 : Nat)), some (.int (g.1.2 : Nat)), some (.int (g.2 : Nat))] (h ++ [(false, pO K f)]) = .ok (.ref h.length) (h ++ [(false, pO K f)]) := rfl
          have gg := q_getD rr dc kk (f := cK (.int 0)) (h3 := h ++ [(false, pO K f)]) (z := .int 0) rfl xg
          rw [fk] at gg
          have mo : mulOk ((e.2 : Nat) : Int) ((g.2 : Nat) : Int) = true := mulL (by
            have := le_csum he
            have := p.sum
            unfold small64b
            simp only [Bool.and_eq_true, decide_eq_true_eq]
            omega)
          have vv : c2 gAdd (cGetD (cVar 2) (cC gTupD (cCons (c2 gAdd (cVar 3) (cVar 6)) (cCons (c2 gAdd (cVar 4) (cVar 7)) (cNil)))) (cK (.int 0))) (c2 gMul (cVar 5) (cVar 8)) [some (polyD P), some (polyD Q), some (.ref h.length), some (.int (e.1.1 : Nat)), some (.int (e.1.2 : Nat)), some (.int (e.2 : Nat)), some (.int (g.1.1 : Nat)), some (.int (g.1.2 : Nat)), some (.int (g.2 : Nat))] (h ++ [(false, pO K f)]) = .ok (.int ((f (e.1.1 + g.1.1, e.1.2 + g.1.2) + e.2 * g.2 : Nat) : Int)) (h ++ [(false, pO K f)]) := by
            rw [q_c2, gg, q_bok]
            generalize h ++ [(false, pO K f)] = HL at *
            generalize polyD P = PP at *
            generalize polyD Q = QQ at *
            simp [q_bok, q_bxn, q_ofok, q_ofxn, q_vo, q_var, q_k, q_c1, q_c2, q_nil, q_cons, q_c, q_call, q_callK, pick, q_b, q_tru, q_not, q_and, q_or, q_ifE, q_andV, q_orV, q_notV, q_chain, q_seq, q_tnx, q_trt, q_txn, q_tbk, q_tct, q_skip, q_drop, q_ret, q_retN, q_bk, q_ct, q_set, q_par, q_par3, q_if, q_raise, q_mt, q_mt0, q_end0, q_endr, q_endx, q_lt, q_le, q_gt, q_ge, q_sub, q_add, q_neg, q_inti, q_intb, q_max, q_min, q_lenT, q_lenF, q_truT, q_truF, q_truB, q_truI, q_ixT, q_ixF, at_0, at_1, er_int, er_bl, er_str, er_non, er_tup, er_flst, er_ref, er_obj, er_ty, er_gl, q_lst, q_tup, q_cutT, q_pn, q_ps, q_slT, q_itS, seqL_t, sz_0, sz_1, sz_2, sz_3, sz_4, sz_5, sz_6, sz_7, sz_8, sz_9, sz_10, sz_11, sz_12, sz_13, sz_14, q_mul mo]
          exact q_setX vv rr kk xp
        · refine ⟨sp.nd, sp.off, sp.pow, sp.len, sp.ne, sp.jle, fun φ => ?_⟩
          rw [sp.sum φ, pev_take hj, ← Rat.add_assoc, Rat.natCast_mul]
          grind
      · rintro ρ h1 ⟨K, f, x6, x7, x8, rfl, rfl, st⟩
        refine ⟨K, f, _, _, _, _, _, _, rfl, rfl, st.nd, st.off, st.pow, ?_, ?_, st.jle, fun φ => ?_⟩
        · rw [Nat.succ_mul]; exact st.len
        · rw [Nat.succ_mul]; exact st.ne
        · rw [st.sum φ, pev_take hi, List.take_length]
          congr 1
          unfold pev
          rw [← sR_mul]
          refine sR_congr fun g _ => ?_
          grind
      · refine ⟨K, f, _, _, _, rfl, rfl, st.nd, st.off, st.pow, st.len, st.ne, st.jle, fun φ => ?_⟩
        rw [st.sum φ]
        show _ = _ + pev _ []
        unfold pev
        rw [sR_nil, Rat.add_zero]
    · rintro ρ h1 ⟨K, f, x3, x4, x5, x6, x7, x8, rfl, rfl, st⟩
      exact ⟨K, f, _, _, _, _, _, _, rfl, rfl, st⟩
    · refine ⟨[], fun _ => 0, _, _, _, _, _, _, rfl, rfl, by simp, fun _ _ => rfl, by simp, by simp, by simp, by simp, fun φ => rfl⟩
  · rintro ρ h1 ⟨K, f, x3, x4, x5, x6, x7, x8, rfl, rfl, st⟩
    have gh := get_new (h := h) (p := (false, pO K f))
    have ne : K ≠ [] := st.ne (Nat.mul_pos (List.length_pos_iff.mpr (pos_ne p.pos)) (List.length_pos_iff.mpr (pos_ne q.pos)))
    obtain ⟨R, h2, e1, ap, ev, ek, len, asc, nz⟩ := terms_w ne (by have := st.len; omega) gh
    have evR : ∀ φ, pev φ R = pmul φ P Q := fun φ => by
      rw [ev φ, st.sum φ, List.take_length, pmul_pev]
    have cs := csum_mul evR
    refine wS_ret (d := polyD R) (h' := h2) (by
      generalize polyD P = PP at *
      generalize polyD Q = QQ at *
      generalize h ++ [(false, pO K f)] = HL at *
      generalize polyD R = RR at *
      simp [q_bok, q_bxn, q_ofok, q_ofxn, q_vo, q_var, q_k, q_c1, q_c2, q_nil, q_cons, q_c, q_call, q_callK, pick, q_b, q_tru, q_not, q_and, q_or, q_ifE, q_andV, q_orV, q_notV, q_chain, q_seq, q_tnx, q_trt, q_txn, q_tbk, q_tct, q_skip, q_drop, q_ret, q_retN, q_bk, q_ct, q_set, q_par, q_par3, q_if, q_raise, q_mt, q_mt0, q_end0, q_endr, q_endx, q_lt, q_le, q_gt, q_ge, q_sub, q_add, q_neg, q_inti, q_intb, q_max, q_min, q_lenT, q_lenF, q_truT, q_truF, q_truB, q_truI, q_ixT, q_ixF, at_0, at_1, er_int, er_bl, er_str, er_non, er_tup, er_flst, er_ref, er_obj, er_ty, er_gl, q_lst, q_tup, q_cutT, q_pn, q_ps, q_slT, q_itS, seqL_t, sz_0, sz_1, sz_2, sz_3, sz_4, sz_5, sz_6, sz_7, sz_8, sz_9, sz_10, sz_11, sz_12, sz_13, sz_14, e1]) ⟨R, rfl, (Ap.new _).trans ap, evR, ?_⟩
    refine ⟨?_, fun e he => st.pow e.1 (ek e he).1, ?_, ?_, asc st.nd, nz, fun e he => st.jle e.1 (ek e he).1⟩
    · rw [cs]; exact Nat.mul_pos p.pos q.pos
    · have := st.len; omega
    · rw [cs]; exact Nat.mul_le_mul p.sum q.sum
end

end Gk

set_option Elab.async false
set_option linter.all false
set_option maxRecDepth 100000
namespace Gk
open PySem Sx
theorem le_sum : ∀ p : List Int, (∀ x ∈ p, 2 ≤ x) → ∀ a ∈ p, a ≤ p.sum := le_sumT

theorem ch_mc : ∀ a, a < 13 → ∀ b, b < 13 → PySem.W.mcComb ((a : Nat) : Int) ((b : Nat) : Int) = ((chN a b : Nat) : Int) := by decide +kernel
theorem q_comb {h : Hc} {a b : Nat} (ha : a ≤ 12) (hb : b ≤ 12) : gComb [.int (a : Nat), .int (b : Nat)] h = some (.int (chN a b : Nat), h) := by
  unfold gComb
  simp only []
  rw [if_pos (by simp only [Bool.and_eq_true, decide_eq_true_eq]; omega), ch_mc a (by omega) b (by omega)]
theorem ap_unlock {h h2 : Hc} {n : Nat} {p : Bool × O} (g : h[n]? = some p) (a : Ap (lckL [n] h) h2) : Ap h (h2.set n p) := by
  obtain ⟨t, rfl⟩ := a
  have hn := (List.getElem?_eq_some_iff.mp g).1
  rw [lck1 g]
  refine ⟨t, ?_⟩
  rw [List.set_append_left _ _ (by rw [List.length_set]; exact hn), List.set_set]
  congr 1
  have := List.getElem?_eq_some_iff.mp g
  obtain ⟨h1, h2⟩ := this
  rw [← h2, List.set_getElem_self]
abbrev PolyS (s : Nat) (P : List PTm) : Prop := PolyOk s (2 ^ s) (2 ^ s) P
theorem polyS_one : PolyS 0 [((0, 0), 1)] := ⟨by simp [csum], by simp, by simp, by simp [csum], by simp, by simp, by simp⟩
theorem ch_two : ∀ s, s < 13 → (((List.range (s + 1)).map (chN s)).sum = 2 ^ s ∧ s + 1 ≤ 2 ^ s) := by decide +kernel
theorem two_pos (s : Nat) : 0 < 2 ^ s := Nat.pow_pos (by decide)
theorem facS {s : Nat} (h : s ≤ 12) : PolyS s (facP (fun _ _ => true) s) := by
  obtain ⟨e, l⟩ := ch_two s (by omega)
  have ef : facP (fun _ _ => true) s = (List.range (s + 1)).map fun a => ((a, if a = 0 then 0 else 1), chN s a) := by
    unfold facP
    rw [List.filter_eq_self.mpr (by simp)]
  have ec : csum (facP (fun _ _ => true) s) = 2 ^ s := by
    unfold csum
    rw [ef, List.map_map, ← e]
    rfl
  refine ⟨by rw [ec]; exact two_pos s, ?_, ?_, by rw [ec]; exact Nat.le_refl _, ?_, ?_, ?_⟩
  rotate_left 2
  · rw [ef]
    exact List.pairwise_map.mpr (List.pairwise_lt_range.imp fun h => .inl h)
  · rw [ef]
    intro x hx
    obtain ⟨a, ha, rfl⟩ := List.mem_map.mp hx
    exact ch_pos (by have := List.mem_range.mp ha; omega)
  · rw [ef]
    intro x hx
    obtain ⟨a, ha, rfl⟩ := List.mem_map.mp hx
    show (if a = 0 then 0 else 1) ≤ a
    split <;> omega
  · rw [ef]
    intro x hx
    obtain ⟨a, ha, rfl⟩ := List.mem_map.mp hx
    rw [List.mem_range] at ha
    simp only []
    refine ⟨by omega, ?_⟩
    split <;> omega
  · rw [ef, List.length_map, List.length_range]; exact l
theorem sglS {s : Nat} (h : s ≤ 12) : PolyS s (sglP s) := by
  obtain ⟨e, l⟩ := ch_two s (by omega)
  have ec : csum (sglP s) = 2 ^ s := by
    unfold csum sglP
    rw [List.map_map, ← e]
    rfl
  refine ⟨by rw [ec]; exact two_pos s, ?_, ?_, by rw [ec]; exact Nat.le_refl _, ?_, ?_, ?_⟩
  rotate_left 2
  · unfold sglP
    exact List.pairwise_map.mpr (List.pairwise_lt_range.imp fun h => .inl h)
  · unfold sglP
    intro x hx
    obtain ⟨a, ha, rfl⟩ := List.mem_map.mp hx
    exact ch_pos (by have := List.mem_range.mp ha; omega)
  · unfold sglP
    intro x hx
    obtain ⟨a, ha, rfl⟩ := List.mem_map.mp hx
    exact Nat.le_refl _
  · unfold sglP
    intro x hx
    obtain ⟨a, ha, rfl⟩ := List.mem_map.mp hx
    rw [List.mem_range] at ha
    simp only []
    omega
  · unfold sglP
    rw [List.length_map, List.length_range]; exact l
section
variable {h : Hc}
theorem product_w {n : Nat} {fl : Bool} {Z : List (Nat × List PTm)} (g : h[n]? = some (fl, .lst (Z.map fun z => polyD z.2))) (ok : ∀ z ∈ Z, PolyS z.1 z.2) (l : (Z.map (·.1)).sum ≤ 12) :
    ∃ R h', m_product [.ref n] h = .ok (polyD R) h' ∧ Ap h h' ∧ (∀ φ, pev φ R = pevL (Z.map (·.2)) φ) ∧ PolyS (Z.map (·.1)).sum R := by
  suffices w : wE (m_product [.ref n] h) fun r h' => ∃ R, r = polyD R ∧ Ap h h' ∧ (∀ φ, pev φ R = pevL (Z.map (·.2)) φ) ∧ PolyS (Z.map (·.1)).sum R by
    obtain ⟨_, h', e, R, rfl, a⟩ := w.eq
    exact ⟨R, h', e, a⟩
  unfold m_product
  refine wE_run rfl ?_
  unfold b_product
  refine wS_step (ρ' := [some (.ref n), some (polyD [((0, 0), 1)]), none]) (h' := h) (by
    have gt : ∀ a c d : D, gTupD [a, c, d] h = some (.tup [a, c, d], h) := fun a c d => id rfl
    have gt1 : ∀ a : D, gTupD [a] h = some (.tup [a], h) := fun a => id rfl
    simp [q_bok, q_bxn, q_ofok, q_ofxn, q_vo, q_var, q_k, q_c1, q_c2, q_nil, q_cons, q_c, q_call, q_callK, pick, q_b, q_tru, q_not, q_and, q_or, q_ifE, q_andV, q_orV, q_notV, q_chain, q_seq, q_tnx, q_trt, q_txn, q_tbk, q_tct, q_skip, q_drop, q_ret, q_retN, q_bk, q_ct, q_set, q_par, q_par3, q_if, q_raise, q_mt, q_mt0, q_end0, q_endr, q_endx, q_lt, q_le, q_gt, q_ge, q_sub, q_add, q_neg, q_inti, q_intb, q_max, q_min, q_lenT, q_lenF, q_truT, q_truF, q_truB, q_truI, q_ixT, q_ixF, at_0, at_1, er_int, er_bl, er_str, er_non, er_tup, er_flst, er_ref, er_obj, er_ty, er_gl, q_lst, q_tup, q_cutT, q_pn, q_ps, q_slT, q_itS, seqL_t, sz_0, sz_1, sz_2, sz_3, sz_4, sz_5, sz_6, sz_7, sz_8, sz_9, sz_10, sz_11, sz_12, sz_13, sz_14, gt, gt1]) ?_
  refine wS_bind2 (R := fun ρ h1 => ∃ R x2, ρ = [some (.ref n), some (polyD R), x2] ∧ Ap h h1 ∧ (∀ φ, pev φ R = pevL (Z.map (·.2)) φ) ∧ PolyS (Z.map (·.1)).sum R) ?_ ?_
  · refine wS_forR (l := Z.map fun z => polyD z.2) (w := n) (h1 := h) (by
      have sq := seqL_r g
      generalize polyD [((0, 0), 1)] = PP at *
      simp [q_bok, q_bxn, q_ofok, q_ofxn, q_vo, q_var, q_k, q_c1, q_c2, q_nil, q_cons, q_c, q_call, q_callK, pick, q_b, q_tru, q_not, q_and, q_or, q_ifE, q_andV, q_orV, q_notV, q_chain, q_seq, q_tnx, q_trt, q_txn, q_tbk, q_tct, q_skip, q_drop, q_ret, q_retN, q_bk, q_ct, q_set, q_par, q_par3, q_if, q_raise, q_mt, q_mt0, q_end0, q_endr, q_endx, q_lt, q_le, q_gt, q_ge, q_sub, q_add, q_neg, q_inti, q_intb, q_max, q_min, q_lenT, q_lenF, q_truT, q_truF, q_truB, q_truI, q_ixT, q_ixF, at_0, at_1, er_int, er_bl, er_str, er_non, er_tup, er_flst, er_ref, er_obj, er_ty, er_gl, q_lst, q_tup, q_cutT, q_pn, q_ps, q_slT, q_itS, seqL_t, sz_0, sz_1, sz_2, sz_3, sz_4, sz_5, sz_6, sz_7, sz_8, sz_9, sz_10, sz_11, sz_12, sz_13, sz_14, sq]) g ?_
    refine for_ix (fun z : Nat × List PTm => polyD z.2) Z (fun i ρ h1 => ∃ R x2, ρ = [some (.ref n), some (polyD R), x2] ∧ Ap (lckL [n] h) h1 ∧ (∀ φ, pev φ R = pevL ((Z.take i).map (·.2)) φ) ∧ PolyS ((Z.take i).map (·.1)).sum R) ?_ ?_ ?_
    · rintro i z ρ h1 hi ⟨R, x2, rfl, ap, ev, po⟩
      refine ⟨_, asg_nm, ?_⟩
      have hz := List.mem_of_getElem? hi
      have tk : Z.take (i + 1) = Z.take i ++ [z] := by rw [List.take_add_one, hi]; rfl
      have sl : ((Z.take (i + 1)).map (·.1)).sum ≤ 12 := by
        have := congrArg (fun l : List (Nat × List PTm) => (l.map (·.1)).sum) (List.take_append_drop (i + 1) Z)
        simp only [List.map_append, List.sum_append] at this
        omega
      rw [tk, List.map_append, List.sum_append] at sl
      simp only [List.map_cons, List.map_nil, List.sum_cons, List.sum_nil, Nat.add_zero] at sl
      have pw : 2 ^ ((Z.take i).map (·.1)).sum * 2 ^ z.1 ≤ 2 ^ 12 := by
        rw [← Nat.pow_add]
        exact Nat.pow_le_pow_right (by decide) sl
      have pc : 2 ^ ((Z.take i).map (·.1)).sum ≤ 2 ^ 12 := Nat.pow_le_pow_right (by decide) (by omega)
      obtain ⟨T, h2, e2, ap2, ev2, po2⟩ := times_poly (h := h1) po (ok z hz) (by omega) (by omega)
      refine wS.of (f := .nx) (ρ := [some (.ref n), some (polyD T), some (polyD z.2)]) (h := h2) ?_ ⟨T, _, rfl, ap.trans ap2, fun φ => ?_, ?_⟩
      · show cSet 1 _ [some (.ref n), some (polyD R), some (polyD z.2)] h1 = _
        have e3 : (polyD R).isErr = false := rfl
        have e4 : (polyD z.2).isErr = false := rfl
        generalize polyD R = RR at *
        generalize polyD z.2 = ZZ at *
        simp [q_bok, q_bxn, q_ofok, q_ofxn, q_vo, q_var, q_k, q_c1, q_c2, q_nil, q_cons, q_c, q_call, q_callK, pick, q_b, q_tru, q_not, q_and, q_or, q_ifE, q_andV, q_orV, q_notV, q_chain, q_seq, q_tnx, q_trt, q_txn, q_tbk, q_tct, q_skip, q_drop, q_ret, q_retN, q_bk, q_ct, q_set, q_par, q_par3, q_if, q_raise, q_mt, q_mt0, q_end0, q_endr, q_endx, q_lt, q_le, q_gt, q_ge, q_sub, q_add, q_neg, q_inti, q_intb, q_max, q_min, q_lenT, q_lenF, q_truT, q_truF, q_truB, q_truI, q_ixT, q_ixF, at_0, at_1, er_int, er_bl, er_str, er_non, er_tup, er_flst, er_ref, er_obj, er_ty, er_gl, q_lst, q_tup, q_cutT, q_pn, q_ps, q_slT, q_itS, seqL_t, sz_0, sz_1, sz_2, sz_3, sz_4, sz_5, sz_6, sz_7, sz_8, sz_9, sz_10, sz_11, sz_12, sz_13, sz_14, e2, e3, e4]
      · rw [ev2, pmul_pev, ev, tk, List.map_append]
        show _ = pevL (_ ++ [z.2]) φ
        rw [pevL_snoc]
      · rw [tk, List.map_append, List.sum_append]
        simp only [List.map_cons, List.map_nil, List.sum_cons, List.sum_nil, Nat.add_zero]
        show PolyOk _ _ _ _
        rw [Nat.pow_add]
        exact po2
    · rintro ρ h1 ⟨R, x2, rfl, ap, ev, po⟩
      rw [List.take_length] at ev po
      exact ⟨R, x2, rfl, ap_unlock g ap, ev, po⟩
    · exact ⟨_, _, rfl, .refl, fun φ => by simp [pev, pevL, sR_cons, sR_nil, Rat.add_zero], polyS_one⟩
  · rintro ρ h1 ⟨R, x2, rfl, ap, ev, po⟩
    refine wS_ret (d := polyD R) (h' := h1) (by
      have e3 : (polyD R).isErr = false := rfl
      generalize polyD R = RR at *
      simp [q_bok, q_bxn, q_ofok, q_ofxn, q_vo, q_var, q_k, q_c1, q_c2, q_nil, q_cons, q_c, q_call, q_callK, pick, q_b, q_tru, q_not, q_and, q_or, q_ifE, q_andV, q_orV, q_notV, q_chain, q_seq, q_tnx, q_trt, q_txn, q_tbk, q_tct, q_skip, q_drop, q_ret, q_retN, q_bk, q_ct, q_set, q_par, q_par3, q_if, q_raise, q_mt, q_mt0, q_end0, q_endr, q_endx, q_lt, q_le, q_gt, q_ge, q_sub, q_add, q_neg, q_inti, q_intb, q_max, q_min, q_lenT, q_lenF, q_truT, q_truF, q_truB, q_truI, q_ixT, q_ixF, at_0, at_1, er_int, er_bl, er_str, er_non, er_tup, er_flst, er_ref, er_obj, er_ty, er_gl, q_lst, q_tup, q_cutT, q_pn, q_ps, q_slT, q_itS, seqL_t, sz_0, sz_1, sz_2, sz_3, sz_4, sz_5, sz_6, sz_7, sz_8, sz_9, sz_10, sz_11, sz_12, sz_13, sz_14, e3]) ⟨R, rfl, ap, ev, po⟩
theorem single_w {t : Nat} (ht : t ≤ 12) : ∃ h', m_single [.int (t : Nat)] h = .ok (polyD (sglP t)) h' ∧ Ap h h' := by
  have sz : (200000 : Nat) < sizeLine := by decide
  have c := q_comp (vs := [1]) (ci := cItR1 (c2 gAdd (cVar 0) (cK (.int 1)))) (t := .nm 1) (tt := cYes) (e := cC gTupD (cCons (cVar 1) (cCons (cVar 1) (cCons (cC gComb (cCons (cVar 0) (cCons (cVar 1) (cNil)))) (cNil))))) (ρ := [some (.int (t : Nat)), none]) (h := h) (h1 := h) (h2 := h) (l := (List.range (t + 1)).map fun (i : Nat) => .int (i : Int)) (xs := (List.range (t + 1)).map fun a => tmD ((a, a), chN t a)) (q_itR1 (n := t + 1) (by simp [q_bok, q_bxn, q_ofok, q_ofxn, q_vo, q_var, q_k, q_c1, q_c2, q_nil, q_cons, q_c, q_call, q_callK, pick, q_b, q_tru, q_not, q_and, q_or, q_ifE, q_andV, q_orV, q_notV, q_chain, q_seq, q_tnx, q_trt, q_txn, q_tbk, q_tct, q_skip, q_drop, q_ret, q_retN, q_bk, q_ct, q_set, q_par, q_par3, q_if, q_raise, q_mt, q_mt0, q_end0, q_endr, q_endx, q_lt, q_le, q_gt, q_ge, q_sub, q_add, q_neg, q_inti, q_intb, q_max, q_min, q_lenT, q_lenF, q_truT, q_truF, q_truB, q_truI, q_ixT, q_ixF, at_0, at_1, er_int, er_bl, er_str, er_non, er_tup, er_flst, er_ref, er_obj, er_ty, er_gl, q_lst, q_tup, q_cutT, q_pn, q_ps, q_slT, q_itS, seqL_t, sz_0, sz_1, sz_2, sz_3, sz_4, sz_5, sz_6, sz_7, sz_8, sz_9, sz_10, sz_11, sz_12, sz_13, sz_14]) (by omega)) (by rw [List.length_map, List.length_range]; omega) (by
    refine comp_all (fun (i : Nat) => D.int (i : Int)) (fun a => tmD ((a, a), chN t a)) (List.range (t + 1)) fun a ha => ⟨_, asg_nm, ?_⟩
    rw [List.mem_range] at ha
    have qc := q_comb (h := h) (a := t) (b := a) ht (by omega)
    have gt3 : ∀ a c d : D, gTupD [a, c, d] h = some (.tup [a, c, d], h) := fun a c d => id rfl
    simp [q_bok, q_bxn, q_ofok, q_ofxn, q_vo, q_var, q_k, q_c1, q_c2, q_nil, q_cons, q_c, q_call, q_callK, pick, q_b, q_tru, q_not, q_and, q_or, q_ifE, q_andV, q_orV, q_notV, q_chain, q_seq, q_tnx, q_trt, q_txn, q_tbk, q_tct, q_skip, q_drop, q_ret, q_retN, q_bk, q_ct, q_set, q_par, q_par3, q_if, q_raise, q_mt, q_mt0, q_end0, q_endr, q_endx, q_lt, q_le, q_gt, q_ge, q_sub, q_add, q_neg, q_inti, q_intb, q_max, q_min, q_lenT, q_lenF, q_truT, q_truF, q_truB, q_truI, q_ixT, q_ixF, at_0, at_1, er_int, er_bl, er_str, er_non, er_tup, er_flst, er_ref, er_obj, er_ty, er_gl, q_lst, q_tup, q_cutT, q_pn, q_ps, q_slT, q_itS, seqL_t, sz_0, sz_1, sz_2, sz_3, sz_4, sz_5, sz_6, sz_7, sz_8, sz_9, sz_10, sz_11, sz_12, sz_13, sz_14, wipeD, gt3, qc])
  have qt := q_tupR (get_new (h := h) (p := (false, .lst ((List.range (t + 1)).map fun a => tmD ((a, a), chN t a)))))
  refine ⟨_, ?_, .new [(false, .lst ((List.range (t + 1)).map fun a => tmD ((a, a), chN t a)))]⟩
  unfold m_single runD b_single
  simp only [List.length_cons, List.length_nil, if_true]
  show endD (cRet _ [some (.int (t : Nat)), none] h) = _
  rw [q_ret]
  simp only [q_c, q_cons, c, q_bok, q_nil, qt, q_vo, q_ofok, q_endr]
  unfold polyD sglP
  rw [List.map_map]
  rfl
theorem part_w {a : Int} (a0 : 0 ≤ a) (a12 : a ≤ 12) {x0 x1 x2 x4 : Option D} : ∃ h', c2 gAdd (cC gTupD (cCons (cC gTupD (cCons (cK (.int 0)) (cCons (cK (.int 0)) (cCons (cK (.int 1)) (cNil))))) (cNil))) (cC gTuple (cCons (cComp [4] (cItR2 (cK (.int 1)) (c2 gAdd (cVar 3) (cK (.int 1)))) (.nm 4) (cYes) (cC gTupD (cCons (cVar 4) (cCons (cK (.int 1)) (cCons (cC gComb (cCons (cVar 3) (cCons (cVar 4) (cNil)))) (cNil)))))) (cNil))) [x0, x1, x2, some (.int a), x4] h = .ok (polyD (facP (fun _ _ => true) a.toNat)) h' ∧ Ap h h' := by
  have sz : (200000 : Nat) < sizeLine := by decide
  obtain ⟨s, rfl⟩ := Int.eq_ofNat_of_zero_le a0
  have tn : ((s : Nat) : Int).toNat = s := rfl
  have c := q_comp (vs := [4]) (ci := cItR2 (cK (.int 1)) (c2 gAdd (cVar 3) (cK (.int 1)))) (t := .nm 4) (tt := cYes) (e := cC gTupD (cCons (cVar 4) (cCons (cK (.int 1)) (cCons (cC gComb (cCons (cVar 3) (cCons (cVar 4) (cNil)))) (cNil))))) (ρ := [x0, x1, x2, some (.int (s : Nat)), x4]) (h := h) (h1 := h) (h2 := h) (l := (List.range s).map fun (i : Nat) => .int (1 + (i : Int))) (xs := (List.range s).map fun i => tmD ((i + 1, 1), chN s (i + 1))) (by
      have := q_itR2 (a := cK (.int 1)) (b := c2 gAdd (cVar 3) (cK (.int 1))) (ρ := [x0, x1, x2, some (.int (s : Nat)), x4]) (h := h) (h1 := h) (h2 := h) (i := 1) (j := (s : Nat) + 1) rfl (by simp [q_bok, q_bxn, q_ofok, q_ofxn, q_vo, q_var, q_k, q_c1, q_c2, q_nil, q_cons, q_c, q_call, q_callK, pick, q_b, q_tru, q_not, q_and, q_or, q_ifE, q_andV, q_orV, q_notV, q_chain, q_seq, q_tnx, q_trt, q_txn, q_tbk, q_tct, q_skip, q_drop, q_ret, q_retN, q_bk, q_ct, q_set, q_par, q_par3, q_if, q_raise, q_mt, q_mt0, q_end0, q_endr, q_endx, q_lt, q_le, q_gt, q_ge, q_sub, q_add, q_neg, q_inti, q_intb, q_max, q_min, q_lenT, q_lenF, q_truT, q_truF, q_truB, q_truI, q_ixT, q_ixF, at_0, at_1, er_int, er_bl, er_str, er_non, er_tup, er_flst, er_ref, er_obj, er_ty, er_gl, q_lst, q_tup, q_cutT, q_pn, q_ps, q_slT, q_itS, seqL_t, sz_0, sz_1, sz_2, sz_3, sz_4, sz_5, sz_6, sz_7, sz_8, sz_9, sz_10, sz_11, sz_12, sz_13, sz_14]) (by omega) (by omega) (by omega) (by omega)
      rw [show ((s : Int) + 1 - 1).toNat = s by omega] at this
      exact this) (by rw [List.length_map, List.length_range]; omega) (by
    refine comp_all (fun (i : Nat) => D.int (1 + (i : Int))) (fun i => tmD ((i + 1, 1), chN s (i + 1))) (List.range s) fun a ha => ⟨_, asg_nm, ?_⟩
    rw [List.mem_range] at ha
    have qc := q_comb (h := h) (a := s) (b := a + 1) (by omega) (by omega)
    have gt3 : ∀ a c d : D, gTupD [a, c, d] h = some (.tup [a, c, d], h) := fun a c d => id rfl
    have e1 : (1 : Int) + (a : Nat) = ((a + 1 : Nat) : Int) := by omega
    simp only [tmD]
    rw [e1]
    generalize ((a + 1 : Nat) : Int) = A at *
    generalize ((s : Nat) : Int) = S at *
    simp [q_bok, q_bxn, q_ofok, q_ofxn, q_vo, q_var, q_k, q_c1, q_c2, q_nil, q_cons, q_c, q_call, q_callK, pick, q_b, q_tru, q_not, q_and, q_or, q_ifE, q_andV, q_orV, q_notV, q_chain, q_seq, q_tnx, q_trt, q_txn, q_tbk, q_tct, q_skip, q_drop, q_ret, q_retN, q_bk, q_ct, q_set, q_par, q_par3, q_if, q_raise, q_mt, q_mt0, q_end0, q_endr, q_endx, q_lt, q_le, q_gt, q_ge, q_sub, q_add, q_neg, q_inti, q_intb, q_max, q_min, q_lenT, q_lenF, q_truT, q_truF, q_truB, q_truI, q_ixT, q_ixF, at_0, at_1, er_int, er_bl, er_str, er_non, er_tup, er_flst, er_ref, er_obj, er_ty, er_gl, q_lst, q_tup, q_cutT, q_pn, q_ps, q_slT, q_itS, seqL_t, sz_0, sz_1, sz_2, sz_3, sz_4, sz_5, sz_6, sz_7, sz_8, sz_9, sz_10, sz_11, sz_12, sz_13, sz_14, wipeD, gt3, qc])
  have qt := q_tupR (get_new (h := h) (p := (false, .lst ((List.range s).map fun i => tmD ((i + 1, 1), chN s (i + 1))))))
  have ef : polyD (facP (fun _ _ => true) s) = .tup ([.tup [.int 0, .int 0, .int 1]] ++ (List.range s).map fun i => tmD ((i + 1, 1), chN s (i + 1))) := by
    unfold polyD facP
    rw [List.filter_eq_self.mpr (by simp), List.range_succ_eq_map, List.map_cons, List.map_cons, List.map_map, List.map_map]
    simp only [tmD, ch_zero, List.cons_append, List.nil_append]
    congr 2
  refine ⟨_, ?_, .new [(false, .lst ((List.range s).map fun i => tmD ((i + 1, 1), chN s (i + 1))))]⟩
  have gt3 : ∀ (h : Hc) (a c d : D), gTupD [a, c, d] h = some (.tup [a, c, d], h) := fun h a c d => id rfl
  have gt1 : ∀ (h : Hc) (a : D), gTupD [a] h = some (.tup [a], h) := fun h a => id rfl
  have ga := q_addT (h := h ++ [(false, .lst ((List.range s).map fun i => tmD ((i + 1, 1), chN s (i + 1))))]) (ds := [.tup [.int 0, .int 0, .int 1]]) (es := (List.range s).map fun i => tmD ((i + 1, 1), chN s (i + 1))) (by rw [List.length_map, List.length_range]; simp; omega)
  rw [tn, ef]
  rw [q_c2]
  simp only [q_c, q_cons, q_k, q_bok, q_nil, gt3, gt1, q_vo, c, qt, ga]
theorem touched_of_w {k : Nat} {p : List Int} (hk : k ≤ 12) (p2 : ∀ x ∈ p, 2 ≤ x) (ps : p.sum ≤ k) :
    ∃ R h', m_touched_of [.int (k : Nat), iT p] h = .ok (polyD R) h' ∧ Ap h h' ∧ (∀ φ, pev φ R = evG (fun _ _ => true) (szM k p) φ) ∧ PolyS k R := by
  have sz : (200000 : Nat) < sizeLine := by decide
  have le1 := le_sum p p2
  have pl : p.length ≤ 12 := by have := sum_twice p p2; omega
  have s0 : 0 ≤ p.sum := by have := sum_twice p p2; omega
  have cm := comp_apF (t := .nm 3) (e := c2 gAdd (cC gTupD (cCons (cC gTupD (cCons (cK (.int 0)) (cCons (cK (.int 0)) (cCons (cK (.int 1)) (cNil))))) (cNil))) (cC gTuple (cCons (cComp [4] (cItR2 (cK (.int 1)) (c2 gAdd (cVar 3) (cK (.int 1)))) (.nm 4) (cYes) (cC gTupD (cCons (cVar 4) (cCons (cK (.int 1)) (cCons (cC gComb (cCons (cVar 3) (cCons (cVar 4) (cNil)))) (cNil)))))) (cNil)))) (ρ := wipeD [some (.int (k : Nat)), some (iT p), none, none, none] [3]) D.int (fun a => polyD (facP (fun _ _ => true) a.toNat)) p h fun a ha => ⟨_, asg_nm, fun h => part_w (by have := p2 a ha; omega) (by have := le1 a ha; omega)⟩
  obtain ⟨h1, e1, ap1⟩ := cm
  have c := q_comp (vs := [3]) (ci := cItS (cVar 1)) (h := h) (h1 := h) (l := iL p) (by
    have sq := seqL_t (ds := iL p) (h := h)
    have er : (iT p).isErr = false := rfl
    unfold iT at *
    generalize D.tup (iL p) = PP at *
    simp [q_bok, q_bxn, q_ofok, q_ofxn, q_vo, q_var, q_k, q_c1, q_c2, q_nil, q_cons, q_c, q_call, q_callK, pick, q_b, q_tru, q_not, q_and, q_or, q_ifE, q_andV, q_orV, q_notV, q_chain, q_seq, q_tnx, q_trt, q_txn, q_tbk, q_tct, q_skip, q_drop, q_ret, q_retN, q_bk, q_ct, q_set, q_par, q_par3, q_if, q_raise, q_mt, q_mt0, q_end0, q_endr, q_endx, q_lt, q_le, q_gt, q_ge, q_sub, q_add, q_neg, q_inti, q_intb, q_max, q_min, q_lenT, q_lenF, q_truT, q_truF, q_truB, q_truI, q_ixT, q_ixF, at_0, at_1, er_int, er_bl, er_str, er_non, er_tup, er_flst, er_ref, er_obj, er_ty, er_gl, q_lst, q_tup, q_cutT, q_pn, q_ps, q_slT, q_itS, seqL_t, sz_0, sz_1, sz_2, sz_3, sz_4, sz_5, sz_6, sz_7, sz_8, sz_9, sz_10, sz_11, sz_12, sz_13, sz_14, sq, er]) (by rw [List.length_map]; omega) e1
  let Z : List (Nat × List PTm) := p.map (fun a => (a.toNat, facP (fun _ _ => true) a.toNat)) ++ [(k - p.sum.toNat, sglP (k - p.sum.toNat))]
  have g1 := get_new (h := h1) (p := (false, .lst (p.map fun a => polyD (facP (fun _ _ => true) a.toNat))))
  have ap2 : Ap h (h1 ++ [(false, O.lst (p.map fun a => polyD (facP (fun _ _ => true) a.toNat)))]) := ap1.app _
  generalize hw : h1.length = w at *
  generalize h1 ++ [(false, O.lst (p.map fun a => polyD (facP (fun _ _ => true) a.toNat)))] = h2 at *
  obtain ⟨h3, e3, ap3⟩ := single_w (h := h2) (t := k - p.sum.toNat) (by omega)
  have g2 := ap3.get g1
  have q1 := q_lst (h := h3) (ds := [polyD (sglP (k - p.sum.toNat))]) (by simp; omega)
  have g3 := get_new (h := h3) (p := (false, .lst [polyD (sglP (k - p.sum.toNat))]))
  have g4 := (Ap.new [(false, O.lst [polyD (sglP (k - p.sum.toNat))])]).get g2
  have qa := q_addR g4 g3 (by rw [List.length_map]; simp; omega)
  have ap4 : Ap h (h3 ++ [(false, O.lst [polyD (sglP (k - p.sum.toNat))])]) := (ap2.trans ap3).app _
  generalize h3 ++ [(false, O.lst [polyD (sglP (k - p.sum.toNat))])] = h4 at *
  have eZ : (p.map fun a => polyD (facP (fun _ _ => true) a.toNat)) ++ [polyD (sglP (k - p.sum.toNat))] = Z.map fun z => polyD z.2 := by
    simp [Z, List.map_append, List.map_map, Function.comp_def]
  rw [eZ] at qa
  have tosum : ∀ q : List Int, (∀ x ∈ q, 2 ≤ x) → (q.map Int.toNat).sum = q.sum.toNat := by
    intro q hq
    induction q with
    | nil => rfl
    | cons x q ih =>
      have i := ih fun y hy => hq y (by simp [hy])
      have hx := hq x (by simp)
      have := sum_twice q fun y hy => hq y (by simp [hy])
      rw [List.map_cons, List.sum_cons, List.sum_cons, i]
      omega
  have sZ : (Z.map (·.1)).sum = k := by
    simp only [Z, List.map_append, List.map_map, List.sum_append, Function.comp_def, List.map_cons, List.map_nil, List.sum_cons, List.sum_nil]
    rw [show (p.map fun a : Int => a.toNat) = p.map Int.toNat from rfl, tosum p p2]
    omega
  obtain ⟨R, h5, e5, ap5, ev, po⟩ := product_w (h := h4 ++ [(false, O.lst (Z.map fun z => polyD z.2))]) (n := h4.length) (fl := false) (Z := Z) get_new (fun z hz => by
    rcases List.mem_append.mp hz with q | q
    · obtain ⟨a, ha, rfl⟩ := List.mem_map.mp q
      exact facS (by have := le1 a ha; have := p2 a ha; omega)
    · rw [List.mem_singleton] at q
      subst q
      exact sglS (by simp only []; omega)) (by rw [sZ]; exact hk)
  rw [sZ] at po
  refine ⟨R, h5, ?_, (ap4.app _).trans ap5, fun φ => ?_, po⟩
  · have sp : ∀ h : Hc, gSum [iT p] h = some (.int p.sum, h) := fun h => q_sumT
    have er : (iT p).isErr = false := rfl
    have sb : ((k : Nat) : Int) - p.sum = ((k - p.sum.toNat : Nat) : Int) := by omega
    have st : cSet 2 (cComp [3] (cItS (cVar 1)) (.nm 3) (cYes) (c2 gAdd (cC gTupD (cCons (cC gTupD (cCons (cK (.int 0)) (cCons (cK (.int 0)) (cCons (cK (.int 1)) (cNil))))) (cNil))) (cC gTuple (cCons (cComp [4] (cItR2 (cK (.int 1)) (c2 gAdd (cVar 3) (cK (.int 1)))) (.nm 4) (cYes) (cC gTupD (cCons (cVar 4) (cCons (cK (.int 1)) (cCons (cC gComb (cCons (cVar 3) (cCons (cVar 4) (cNil)))) (cNil)))))) (cNil))))) [some (.int (k : Nat)), some (iT p), none, none, none] h = .ok .nx [some (.int (k : Nat)), some (iT p), some (.ref w), none, none] h2 := by
      rw [q_set, c, q_ofok]
      rfl
    unfold m_touched_of runD b_touched_of
    simp only [List.length_cons, List.length_nil, if_true]
    show endD (cSeq _ _ [some (.int (k : Nat)), some (iT p), none, none, none] h) = _
    rw [q_seq, st, q_tnx]
    generalize iT p = PP at *
    generalize polyD (sglP (k - p.sum.toNat)) = SS at *
    generalize ((k - p.sum.toNat : Nat) : Int) = KK at *
    generalize polyD R = RR at *
    generalize Z.map (fun z => polyD z.2) = ZZ at *
    simp [q_bok, q_bxn, q_ofok, q_ofxn, q_vo, q_var, q_k, q_c1, q_c2, q_nil, q_cons, q_c, q_call, q_callK, pick, q_b, q_tru, q_not, q_and, q_or, q_ifE, q_andV, q_orV, q_notV, q_chain, q_seq, q_tnx, q_trt, q_txn, q_tbk, q_tct, q_skip, q_drop, q_ret, q_retN, q_bk, q_ct, q_set, q_par, q_par3, q_if, q_raise, q_mt, q_mt0, q_end0, q_endr, q_endx, q_lt, q_le, q_gt, q_ge, q_sub, q_add, q_neg, q_inti, q_intb, q_max, q_min, q_lenT, q_lenF, q_truT, q_truF, q_truB, q_truI, q_ixT, q_ixF, at_0, at_1, er_int, er_bl, er_str, er_non, er_tup, er_flst, er_ref, er_obj, er_ty, er_gl, q_tup, q_cutT, q_pn, q_ps, q_slT, q_itS, seqL_t, sz_0, sz_1, sz_2, sz_3, sz_4, sz_5, sz_6, sz_7, sz_8, sz_9, sz_10, sz_11, sz_12, sz_13, sz_14, sp, er, sb, e3, q1, qa, e5]
  · rw [ev]
    have : Z.map (·.2) = (p.map Int.toNat).map (facP fun _ _ => true) ++ [sglP (k - p.sum.toNat)] := by
      simp [Z, List.map_append, List.map_map, Function.comp_def]
    rw [this, all_ev rfl rfl]
theorem touched_w {k : Nat} {p : List Int} (hk : k ≤ 12) (v : PatV p) (ps : p.sum ≤ k) :
    ∃ R h', m_touched [.int (k : Nat), iT p] h = .ok (polyD R) h' ∧ Ap h h' ∧ (∀ φ, pev φ R = evG (fun _ _ => true) (szM k p) φ) ∧ PolyS k R := by
  have pl : p.length ≤ 12 := by have := sum_twice p v.two; omega
  obtain ⟨_, h1, e1, rfl, t1, rfl⟩ := (pat_ok (h := h) v (by omega)).eq
  obtain ⟨R, h2, e2, ap2, ev, po⟩ := touched_of_w (h := h ++ t1) hk v.two ps
  refine ⟨R, h2, ?_, (Ap.new _).trans ap2, ev, po⟩
  have er : (iT p).isErr = false := rfl
  have er2 : (polyD R).isErr = false := rfl
  have sp : ∀ h : Hc, gSum [iT p] h = some (.int p.sum, h) := fun h => q_sumT
  have w1 : m_want_things [.int (k : Nat)] h = .ok .non h := by
    have a : (0 : Int) ≤ (k : Nat) := by omega
    have b : ((k : Nat) : Int) ≤ 12 := by omega
    unfold m_want_things runD b_want_things
    generalize ((k : Nat) : Int) = KK at *
    simp [q_bok, q_bxn, q_ofok, q_ofxn, q_vo, q_var, q_k, q_c1, q_c2, q_nil, q_cons, q_c, q_call, q_callK, pick, q_b, q_tru, q_not, q_and, q_or, q_ifE, q_andV, q_orV, q_notV, q_chain, q_seq, q_tnx, q_trt, q_txn, q_tbk, q_tct, q_skip, q_drop, q_ret, q_retN, q_bk, q_ct, q_set, q_par, q_par3, q_if, q_raise, q_mt, q_mt0, q_end0, q_endr, q_endx, q_lt, q_le, q_gt, q_ge, q_sub, q_add, q_neg, q_inti, q_intb, q_max, q_min, q_lenT, q_lenF, q_truT, q_truF, q_truB, q_truI, q_ixT, q_ixF, at_0, at_1, er_int, er_bl, er_str, er_non, er_tup, er_flst, er_ref, er_obj, er_ty, er_gl, q_lst, q_tup, q_cutT, q_pn, q_ps, q_slT, q_itS, seqL_t, sz_0, sz_1, sz_2, sz_3, sz_4, sz_5, sz_6, sz_7, sz_8, sz_9, sz_10, sz_11, sz_12, sz_13, sz_14, a, b]
  have w2 : m_want_pattern [iT p] h = .ok .non (h ++ t1) := by
    unfold m_want_pattern runD b_want_pattern
    generalize iT p = PP at *
    simp [q_bok, q_bxn, q_ofok, q_ofxn, q_vo, q_var, q_k, q_c1, q_c2, q_nil, q_cons, q_c, q_call, q_callK, pick, q_b, q_tru, q_not, q_and, q_or, q_ifE, q_andV, q_orV, q_notV, q_chain, q_seq, q_tnx, q_trt, q_txn, q_tbk, q_tct, q_skip, q_drop, q_ret, q_retN, q_bk, q_ct, q_set, q_par, q_par3, q_if, q_raise, q_mt, q_mt0, q_end0, q_endr, q_endx, q_lt, q_le, q_gt, q_ge, q_sub, q_add, q_neg, q_inti, q_intb, q_max, q_min, q_lenT, q_lenF, q_truT, q_truF, q_truB, q_truI, q_ixT, q_ixF, at_0, at_1, er_int, er_bl, er_str, er_non, er_tup, er_flst, er_ref, er_obj, er_ty, er_gl, q_lst, q_tup, q_cutT, q_pn, q_ps, q_slT, q_itS, seqL_t, sz_0, sz_1, sz_2, sz_3, sz_4, sz_5, sz_6, sz_7, sz_8, sz_9, sz_10, sz_11, sz_12, sz_13, sz_14, er, e1]
  have w3 : m_want_day [.int (k : Nat), iT p] h = .ok .non (h ++ t1) := by
    have ng : ¬ ((k : Nat) : Int) < p.sum := by omega
    unfold m_want_day runD b_want_day
    generalize ((k : Nat) : Int) = KK at *
    generalize iT p = PP at *
    simp [q_bok, q_bxn, q_ofok, q_ofxn, q_vo, q_var, q_k, q_c1, q_c2, q_nil, q_cons, q_c, q_call, q_callK, pick, q_b, q_tru, q_not, q_and, q_or, q_ifE, q_andV, q_orV, q_notV, q_chain, q_seq, q_tnx, q_trt, q_txn, q_tbk, q_tct, q_skip, q_drop, q_ret, q_retN, q_bk, q_ct, q_set, q_par, q_par3, q_if, q_raise, q_mt, q_mt0, q_end0, q_endr, q_endx, q_lt, q_le, q_gt, q_ge, q_sub, q_add, q_neg, q_inti, q_intb, q_max, q_min, q_lenT, q_lenF, q_truT, q_truF, q_truB, q_truI, q_ixT, q_ixF, at_0, at_1, er_int, er_bl, er_str, er_non, er_tup, er_flst, er_ref, er_obj, er_ty, er_gl, q_lst, q_tup, q_cutT, q_pn, q_ps, q_slT, q_itS, seqL_t, sz_0, sz_1, sz_2, sz_3, sz_4, sz_5, sz_6, sz_7, sz_8, sz_9, sz_10, sz_11, sz_12, sz_13, sz_14, er, w1, w2, sp, ng]
  unfold m_touched runD b_touched
  generalize ((k : Nat) : Int) = KK at *
  generalize iT p = PP at *
  generalize polyD R = RR at *
  simp [q_bok, q_bxn, q_ofok, q_ofxn, q_vo, q_var, q_k, q_c1, q_c2, q_nil, q_cons, q_c, q_call, q_callK, pick, q_b, q_tru, q_not, q_and, q_or, q_ifE, q_andV, q_orV, q_notV, q_chain, q_seq, q_tnx, q_trt, q_txn, q_tbk, q_tct, q_skip, q_drop, q_ret, q_retN, q_bk, q_ct, q_set, q_par, q_par3, q_if, q_raise, q_mt, q_mt0, q_end0, q_endr, q_endx, q_lt, q_le, q_gt, q_ge, q_sub, q_add, q_neg, q_inti, q_intb, q_max, q_min, q_lenT, q_lenF, q_truT, q_truF, q_truB, q_truI, q_ixT, q_ixF, at_0, at_1, er_int, er_bl, er_str, er_non, er_tup, er_flst, er_ref, er_obj, er_ty, er_gl, q_lst, q_tup, q_cutT, q_pn, q_ps, q_slT, q_itS, seqL_t, sz_0, sz_1, sz_2, sz_3, sz_4, sz_5, sz_6, sz_7, sz_8, sz_9, sz_10, sz_11, sz_12, sz_13, sz_14, er, w3, e2]
end

end Gk

set_option Elab.async false
set_option linter.all false
set_option maxRecDepth 100000
namespace Gk
open PySem Sx
def wh : Alw := fun s a => decide (a = 0) || decide (a = s)

theorem facW : ∀ s, s < 13 → 1 ≤ s → facP wh s = [((0, 0), 1), ((s, 1), 1)] := by decide +kernel
theorem facWS {s : Nat} (h : s ≤ 12) (h1 : 1 ≤ s) : PolyS s (facP wh s) := by
  rw [facW s (by omega) h1]
  have t := two_pos s
  have t2 : 2 ≤ 2 ^ s := by
    have : 2 ^ 1 ≤ 2 ^ s := Nat.pow_le_pow_right (by decide) h1
    omega
  refine ⟨by simp [csum], fun e he => ?_, by simpa using t2, by simpa [csum] using t2, ?_, ?_, ?_⟩
  · simp only [List.mem_cons, List.not_mem_nil, or_false] at he
    rcases he with rfl | rfl
    · simp
    · simp; omega
  · simp only [List.pairwise_cons, List.mem_cons, List.not_mem_nil, or_false, forall_eq, List.Pairwise.nil, and_true]
    exact ⟨.inl h1, fun _ z => z.elim⟩
  · simp
  · simp; omega
section
variable {h : Hc}
theorem whole_of_w {k : Nat} {p : List Int} (hk : k ≤ 12) (p2 : ∀ x ∈ p, 2 ≤ x) (ps : p.sum ≤ k) :
    ∃ R h', m_whole_of [.int (k : Nat), iT p] h = .ok (polyD R) h' ∧ Ap h h' ∧ (∀ φ, pev φ R = evG wh (szM k p) φ) ∧ PolyS k R := by
  have sz : (200000 : Nat) < sizeLine := by decide
  have le1 := le_sum p p2
  have pl : p.length ≤ 12 := by have := sum_twice p p2; omega
  have s0 : 0 ≤ p.sum := by have := sum_twice p p2; omega
  have e1 := comp_all (t := .nm 2) (e := cC gTupD (cCons (cC gTupD (cCons (cK (.int 0)) (cCons (cK (.int 0)) (cCons (cK (.int 1)) (cNil))))) (cCons (cC gTupD (cCons (cVar 2) (cCons (cK (.int 1)) (cCons (cK (.int 1)) (cNil))))) (cNil)))) (ρ := wipeD [some (.int (k : Nat)), some (iT p), none] [2]) (h := h) D.int (fun a => polyD (facP wh a.toNat)) p fun a ha => ⟨_, asg_nm, by
    have a2 := p2 a ha
    have al := le1 a ha
    rw [facW a.toNat (by omega) (by omega)]
    have gt3 : ∀ (h : Hc) (a c d : D), gTupD [a, c, d] h = some (.tup [a, c, d], h) := fun h a c d => id rfl
    have gt2 : ∀ (h : Hc) (a c : D), gTupD [a, c] h = some (.tup [a, c], h) := fun h a c => id rfl
    have at_ : ((a.toNat : Nat) : Int) = a := by omega
    simp [q_bok, q_bxn, q_ofok, q_ofxn, q_vo, q_var, q_k, q_c1, q_c2, q_nil, q_cons, q_c, q_call, q_callK, pick, q_b, q_tru, q_not, q_and, q_or, q_ifE, q_andV, q_orV, q_notV, q_chain, q_seq, q_tnx, q_trt, q_txn, q_tbk, q_tct, q_skip, q_drop, q_ret, q_retN, q_bk, q_ct, q_set, q_par, q_par3, q_if, q_raise, q_mt, q_mt0, q_end0, q_endr, q_endx, q_lt, q_le, q_gt, q_ge, q_sub, q_add, q_neg, q_inti, q_intb, q_max, q_min, q_lenT, q_lenF, q_truT, q_truF, q_truB, q_truI, q_ixT, q_ixF, at_0, at_1, er_int, er_bl, er_str, er_non, er_tup, er_flst, er_ref, er_obj, er_ty, er_gl, q_lst, q_tup, q_cutT, q_pn, q_ps, q_slT, q_itS, seqL_t, sz_0, sz_1, sz_2, sz_3, sz_4, sz_5, sz_6, sz_7, sz_8, sz_9, sz_10, sz_11, sz_12, sz_13, sz_14, wipeD, gt3, gt2, at_]⟩
  have c := q_comp (vs := [2]) (ci := cItS (cVar 1)) (h := h) (h1 := h) (l := iL p) (by
    have sq := seqL_t (ds := iL p) (h := h)
    have er : (iT p).isErr = false := rfl
    unfold iT at *
    generalize D.tup (iL p) = PP at *
    simp [q_bok, q_bxn, q_ofok, q_ofxn, q_vo, q_var, q_k, q_c1, q_c2, q_nil, q_cons, q_c, q_call, q_callK, pick, q_b, q_tru, q_not, q_and, q_or, q_ifE, q_andV, q_orV, q_notV, q_chain, q_seq, q_tnx, q_trt, q_txn, q_tbk, q_tct, q_skip, q_drop, q_ret, q_retN, q_bk, q_ct, q_set, q_par, q_par3, q_if, q_raise, q_mt, q_mt0, q_end0, q_endr, q_endx, q_lt, q_le, q_gt, q_ge, q_sub, q_add, q_neg, q_inti, q_intb, q_max, q_min, q_lenT, q_lenF, q_truT, q_truF, q_truB, q_truI, q_ixT, q_ixF, at_0, at_1, er_int, er_bl, er_str, er_non, er_tup, er_flst, er_ref, er_obj, er_ty, er_gl, q_lst, q_tup, q_cutT, q_pn, q_ps, q_slT, q_itS, seqL_t, sz_0, sz_1, sz_2, sz_3, sz_4, sz_5, sz_6, sz_7, sz_8, sz_9, sz_10, sz_11, sz_12, sz_13, sz_14, sq, er]) (by rw [List.length_map]; omega) e1
  let Z : List (Nat × List PTm) := p.map (fun a => (a.toNat, facP wh a.toNat)) ++ [(k - p.sum.toNat, sglP (k - p.sum.toNat))]
  have g1 := get_new (h := h) (p := (false, .lst (p.map fun a => polyD (facP wh a.toNat))))
  have ap2 : Ap h (h ++ [(false, O.lst (p.map fun a => polyD (facP wh a.toNat)))]) := .new _
  generalize hw : h.length = w at *
  generalize h ++ [(false, O.lst (p.map fun a => polyD (facP wh a.toNat)))] = h2 at *
  obtain ⟨h3, e3, ap3⟩ := single_w (h := h2) (t := k - p.sum.toNat) (by omega)
  have g2 := ap3.get g1
  have q1 := q_lst (h := h3) (ds := [polyD (sglP (k - p.sum.toNat))]) (by simp; omega)
  have g3 := get_new (h := h3) (p := (false, .lst [polyD (sglP (k - p.sum.toNat))]))
  have g4 := (Ap.new [(false, O.lst [polyD (sglP (k - p.sum.toNat))])]).get g2
  have qa := q_addR g4 g3 (by rw [List.length_map]; simp; omega)
  have ap4 : Ap h (h3 ++ [(false, O.lst [polyD (sglP (k - p.sum.toNat))])]) := (ap2.trans ap3).app _
  generalize h3 ++ [(false, O.lst [polyD (sglP (k - p.sum.toNat))])] = h4 at *
  have eZ : (p.map fun a => polyD (facP wh a.toNat)) ++ [polyD (sglP (k - p.sum.toNat))] = Z.map fun z => polyD z.2 := by
    simp [Z, List.map_append, List.map_map, Function.comp_def]
  rw [eZ] at qa
  have tosum : ∀ q : List Int, (∀ x ∈ q, 2 ≤ x) → (q.map Int.toNat).sum = q.sum.toNat := by
    intro q hq
    induction q with
    | nil => rfl
    | cons x q ih =>
      have i := ih fun y hy => hq y (by simp [hy])
      have hx := hq x (by simp)
      have := sum_twice q fun y hy => hq y (by simp [hy])
      rw [List.map_cons, List.sum_cons, List.sum_cons, i]
      omega
  have sZ : (Z.map (·.1)).sum = k := by
    simp only [Z, List.map_append, List.map_map, List.sum_append, Function.comp_def, List.map_cons, List.map_nil, List.sum_cons, List.sum_nil]
    rw [show (p.map fun a : Int => a.toNat) = p.map Int.toNat from rfl, tosum p p2]
    omega
  obtain ⟨R, h5, e5, ap5, ev, po⟩ := product_w (h := h4 ++ [(false, O.lst (Z.map fun z => polyD z.2))]) (n := h4.length) (fl := false) (Z := Z) get_new (fun z hz => by
    rcases List.mem_append.mp hz with q | q
    · obtain ⟨a, ha, rfl⟩ := List.mem_map.mp q
      exact facWS (by have := le1 a ha; have := p2 a ha; omega) (by have := p2 a ha; omega)
    · rw [List.mem_singleton] at q
      subst q
      exact sglS (by simp only []; omega)) (by rw [sZ]; exact hk)
  rw [sZ] at po
  refine ⟨R, h5, ?_, (ap4.app _).trans ap5, fun φ => ?_, po⟩
  · have sp : ∀ h : Hc, gSum [iT p] h = some (.int p.sum, h) := fun h => q_sumT
    have er : (iT p).isErr = false := rfl
    have sb : ((k : Nat) : Int) - p.sum = ((k - p.sum.toNat : Nat) : Int) := by omega
    unfold m_whole_of runD b_whole_of
    simp only [List.length_cons, List.length_nil, if_true]
    show endD (cRet _ [some (.int (k : Nat)), some (iT p), none] h) = _
    rw [q_ret, q_call, q_cons, q_c2, c, q_bok]
    generalize iT p = PP at *
    generalize polyD (sglP (k - p.sum.toNat)) = SS at *
    generalize ((k - p.sum.toNat : Nat) : Int) = KK at *
    generalize polyD R = RR at *
    generalize Z.map (fun z => polyD z.2) = ZZ at *
    simp [q_bok, q_bxn, q_ofok, q_ofxn, q_vo, q_var, q_k, q_c1, q_c2, q_nil, q_cons, q_c, q_call, q_callK, pick, q_b, q_tru, q_not, q_and, q_or, q_ifE, q_andV, q_orV, q_notV, q_chain, q_seq, q_tnx, q_trt, q_txn, q_tbk, q_tct, q_skip, q_drop, q_ret, q_retN, q_bk, q_ct, q_set, q_par, q_par3, q_if, q_raise, q_mt, q_mt0, q_end0, q_endr, q_endx, q_lt, q_le, q_gt, q_ge, q_sub, q_add, q_neg, q_inti, q_intb, q_max, q_min, q_lenT, q_lenF, q_truT, q_truF, q_truB, q_truI, q_ixT, q_ixF, at_0, at_1, er_int, er_bl, er_str, er_non, er_tup, er_flst, er_ref, er_obj, er_ty, er_gl, q_tup, q_cutT, q_pn, q_ps, q_slT, q_itS, seqL_t, sz_0, sz_1, sz_2, sz_3, sz_4, sz_5, sz_6, sz_7, sz_8, sz_9, sz_10, sz_11, sz_12, sz_13, sz_14, sp, er, sb, e3, q1, qa, e5]
  · rw [ev]
    have : Z.map (·.2) = (p.map Int.toNat).map (facP wh) ++ [sglP (k - p.sum.toNat)] := by
      simp [Z, List.map_append, List.map_map, Function.comp_def]
    rw [this, all_ev rfl rfl]
theorem whole_w {k : Nat} {p : List Int} (hk : k ≤ 12) (v : PatV p) (ps : p.sum ≤ k) :
    ∃ R h', m_whole [.int (k : Nat), iT p] h = .ok (polyD R) h' ∧ Ap h h' ∧ (∀ φ, pev φ R = evG wh (szM k p) φ) ∧ PolyS k R := by
  have pl : p.length ≤ 12 := by have := sum_twice p v.two; omega
  obtain ⟨_, h1, e1, rfl, t1, rfl⟩ := (pat_ok (h := h) v (by omega)).eq
  obtain ⟨R, h2, e2, ap2, ev, po⟩ := whole_of_w (h := h ++ t1) hk v.two ps
  refine ⟨R, h2, ?_, (Ap.new _).trans ap2, ev, po⟩
  have er : (iT p).isErr = false := rfl
  have er2 : (polyD R).isErr = false := rfl
  have sp : ∀ h : Hc, gSum [iT p] h = some (.int p.sum, h) := fun h => q_sumT
  have w1 : m_want_things [.int (k : Nat)] h = .ok .non h := by
    have a : (0 : Int) ≤ (k : Nat) := by omega
    have b : ((k : Nat) : Int) ≤ 12 := by omega
    unfold m_want_things runD b_want_things
    generalize ((k : Nat) : Int) = KK at *
    simp [q_bok, q_bxn, q_ofok, q_ofxn, q_vo, q_var, q_k, q_c1, q_c2, q_nil, q_cons, q_c, q_call, q_callK, pick, q_b, q_tru, q_not, q_and, q_or, q_ifE, q_andV, q_orV, q_notV, q_chain, q_seq, q_tnx, q_trt, q_txn, q_tbk, q_tct, q_skip, q_drop, q_ret, q_retN, q_bk, q_ct, q_set, q_par, q_par3, q_if, q_raise, q_mt, q_mt0, q_end0, q_endr, q_endx, q_lt, q_le, q_gt, q_ge, q_sub, q_add, q_neg, q_inti, q_intb, q_max, q_min, q_lenT, q_lenF, q_truT, q_truF, q_truB, q_truI, q_ixT, q_ixF, at_0, at_1, er_int, er_bl, er_str, er_non, er_tup, er_flst, er_ref, er_obj, er_ty, er_gl, q_lst, q_tup, q_cutT, q_pn, q_ps, q_slT, q_itS, seqL_t, sz_0, sz_1, sz_2, sz_3, sz_4, sz_5, sz_6, sz_7, sz_8, sz_9, sz_10, sz_11, sz_12, sz_13, sz_14, a, b]
  have w2 : m_want_pattern [iT p] h = .ok .non (h ++ t1) := by
    unfold m_want_pattern runD b_want_pattern
    generalize iT p = PP at *
    simp [q_bok, q_bxn, q_ofok, q_ofxn, q_vo, q_var, q_k, q_c1, q_c2, q_nil, q_cons, q_c, q_call, q_callK, pick, q_b, q_tru, q_not, q_and, q_or, q_ifE, q_andV, q_orV, q_notV, q_chain, q_seq, q_tnx, q_trt, q_txn, q_tbk, q_tct, q_skip, q_drop, q_ret, q_retN, q_bk, q_ct, q_set, q_par, q_par3, q_if, q_raise, q_mt, q_mt0, q_end0, q_endr, q_endx, q_lt, q_le, q_gt, q_ge, q_sub, q_add, q_neg, q_inti, q_intb, q_max, q_min, q_lenT, q_lenF, q_truT, q_truF, q_truB, q_truI, q_ixT, q_ixF, at_0, at_1, er_int, er_bl, er_str, er_non, er_tup, er_flst, er_ref, er_obj, er_ty, er_gl, q_lst, q_tup, q_cutT, q_pn, q_ps, q_slT, q_itS, seqL_t, sz_0, sz_1, sz_2, sz_3, sz_4, sz_5, sz_6, sz_7, sz_8, sz_9, sz_10, sz_11, sz_12, sz_13, sz_14, er, e1]
  have w3 : m_want_day [.int (k : Nat), iT p] h = .ok .non (h ++ t1) := by
    have ng : ¬ ((k : Nat) : Int) < p.sum := by omega
    unfold m_want_day runD b_want_day
    generalize ((k : Nat) : Int) = KK at *
    generalize iT p = PP at *
    simp [q_bok, q_bxn, q_ofok, q_ofxn, q_vo, q_var, q_k, q_c1, q_c2, q_nil, q_cons, q_c, q_call, q_callK, pick, q_b, q_tru, q_not, q_and, q_or, q_ifE, q_andV, q_orV, q_notV, q_chain, q_seq, q_tnx, q_trt, q_txn, q_tbk, q_tct, q_skip, q_drop, q_ret, q_retN, q_bk, q_ct, q_set, q_par, q_par3, q_if, q_raise, q_mt, q_mt0, q_end0, q_endr, q_endx, q_lt, q_le, q_gt, q_ge, q_sub, q_add, q_neg, q_inti, q_intb, q_max, q_min, q_lenT, q_lenF, q_truT, q_truF, q_truB, q_truI, q_ixT, q_ixF, at_0, at_1, er_int, er_bl, er_str, er_non, er_tup, er_flst, er_ref, er_obj, er_ty, er_gl, q_lst, q_tup, q_cutT, q_pn, q_ps, q_slT, q_itS, seqL_t, sz_0, sz_1, sz_2, sz_3, sz_4, sz_5, sz_6, sz_7, sz_8, sz_9, sz_10, sz_11, sz_12, sz_13, sz_14, er, w1, w2, sp, ng]
  unfold m_whole runD b_whole
  generalize ((k : Nat) : Int) = KK at *
  generalize iT p = PP at *
  generalize polyD R = RR at *
  simp [q_bok, q_bxn, q_ofok, q_ofxn, q_vo, q_var, q_k, q_c1, q_c2, q_nil, q_cons, q_c, q_call, q_callK, pick, q_b, q_tru, q_not, q_and, q_or, q_ifE, q_andV, q_orV, q_notV, q_chain, q_seq, q_tnx, q_trt, q_txn, q_tbk, q_tct, q_skip, q_drop, q_ret, q_retN, q_bk, q_ct, q_set, q_par, q_par3, q_if, q_raise, q_mt, q_mt0, q_end0, q_endr, q_endx, q_lt, q_le, q_gt, q_ge, q_sub, q_add, q_neg, q_inti, q_intb, q_max, q_min, q_lenT, q_lenF, q_truT, q_truF, q_truB, q_truI, q_ixT, q_ixF, at_0, at_1, er_int, er_bl, er_str, er_non, er_tup, er_flst, er_ref, er_obj, er_ty, er_gl, q_lst, q_tup, q_cutT, q_pn, q_ps, q_slT, q_itS, seqL_t, sz_0, sz_1, sz_2, sz_3, sz_4, sz_5, sz_6, sz_7, sz_8, sz_9, sz_10, sz_11, sz_12, sz_13, sz_14, er, w3, e2]
end

end Gk

set_option Elab.async false
set_option linter.all false
set_option maxRecDepth 100000
namespace Gk
open PySem Sx
def chs4 (s : Nat) : Nat → Int
  | 0 => 1
  | i + 1 => (chs4 s i * ((s : Int) - (i : Int))).fdiv ((i : Int) + 1)
theorem chs4_ch : ∀ s, s < 13 → ∀ i, i ≤ s → chs4 s i = ((chN s i : Nat) : Int) := by decide +kernel
section
variable {h : Hc}
theorem choose4_w {s i : Nat} (s12 : s ≤ 12) (is : i ≤ s) : m__law_choose [.int (s : Nat), .int (i : Nat)] h = .ok (.int ((chN s i : Nat) : Int)) h := by
  suffices w : wE (m__law_choose [.int (s : Nat), .int (i : Nat)] h) fun x h' => x = .int ((chN s i : Nat) : Int) ∧ h' = h by
    obtain ⟨_, h', e, rfl, rfl⟩ := w.eq
    exact e
  unfold m__law_choose
  refine wE_run rfl ?_
  unfold b__law_choose
  refine wS_step (ρ' := [some (.int (s : Nat)), some (.int (i : Nat)), some (.int (chs4 s 0)), none]) (h' := h) (by
    rw [show chs4 s 0 = 1 from rfl]
    simp [q_bok, q_bxn, q_ofok, q_ofxn, q_vo, q_var, q_k, q_c1, q_c2, q_nil, q_cons, q_c, q_call, q_callK, pick, q_b, q_tru, q_not, q_and, q_or, q_ifE, q_andV, q_orV, q_notV, q_chain, q_seq, q_tnx, q_trt, q_txn, q_tbk, q_tct, q_skip, q_drop, q_ret, q_retN, q_bk, q_ct, q_set, q_par, q_par3, q_if, q_raise, q_mt, q_mt0, q_end0, q_endr, q_endx, q_lt, q_le, q_gt, q_ge, q_sub, q_add, q_neg, q_inti, q_intb, q_max, q_min, q_lenT, q_lenF, q_truT, q_truF, q_truB, q_truI, q_ixT, q_ixF, at_0, at_1, er_int, er_bl, er_str, er_non, er_tup, er_flst, er_ref, er_obj, er_ty, er_gl, q_lst, q_tup, q_cutT, q_pn, q_ps, q_slT, q_itS, seqL_t, sz_0, sz_1, sz_2, sz_3, sz_4, sz_5, sz_6, sz_7, sz_8, sz_9, sz_10, sz_11, sz_12, sz_13, sz_14]) ?_
  refine wS_loop ?_
  rw [q_for (l := (List.range i).map fun (i : Nat) => .int (i : Int)) (h1 := h) (q_itR1 (n := i) (by simp [q_bok, q_bxn, q_ofok, q_ofxn, q_vo, q_var, q_k, q_c1, q_c2, q_nil, q_cons, q_c, q_call, q_callK, pick, q_b, q_tru, q_not, q_and, q_or, q_ifE, q_andV, q_orV, q_notV, q_chain, q_seq, q_tnx, q_trt, q_txn, q_tbk, q_tct, q_skip, q_drop, q_ret, q_retN, q_bk, q_ct, q_set, q_par, q_par3, q_if, q_raise, q_mt, q_mt0, q_end0, q_endr, q_endx, q_lt, q_le, q_gt, q_ge, q_sub, q_add, q_neg, q_inti, q_intb, q_max, q_min, q_lenT, q_lenF, q_truT, q_truF, q_truB, q_truI, q_ixT, q_ixF, at_0, at_1, er_int, er_bl, er_str, er_non, er_tup, er_flst, er_ref, er_obj, er_ty, er_gl, q_lst, q_tup, q_cutT, q_pn, q_ps, q_slT, q_itS, seqL_t, sz_0, sz_1, sz_2, sz_3, sz_4, sz_5, sz_6, sz_7, sz_8, sz_9, sz_10, sz_11, sz_12, sz_13, sz_14]) (by omega))]
  refine for_ix (fun (i : Nat) => D.int (i : Int)) (List.range i) (fun j ρ h1 => h1 = h ∧ ∃ x3, ρ = [some (.int (s : Nat)), some (.int (i : Nat)), some (.int (chs4 s j)), x3]) ?_ ?_ ⟨rfl, none, rfl⟩
  · rintro j a ρ h1 hj ⟨rfl, x3, rfl⟩
    obtain ⟨rfl, hlt⟩ := range_at hj
    refine ⟨_, asg_nm, ?_⟩
    have sm : small64b ((s : Int) - (a : Int)) = true := by
      unfold small64b
      simp only [Bool.and_eq_true, decide_eq_true_eq]
      omega
    have qm := q_mul (p := chs4 s a) (q := (s : Int) - (a : Int)) (h := h1) (mulR sm)
    have dk : divOk ((a : Int) + 1) = true := by
      unfold divOk
      rw [Bool.or_eq_true, Bool.and_eq_true]
      refine .inl ⟨by simp; omega, ?_⟩
      rw [Nat.blt_eq]
      omega
    have qd := q_div (p := chs4 s a * ((s : Int) - (a : Int))) (q := (a : Int) + 1) (h := h1) dk
    refine wS.of (f := .nx) (ρ := [some (.int (s : Nat)), some (.int (i : Nat)), some (.int (chs4 s (a + 1))), some (.int (a : Nat))]) (h := h1) ?_ ⟨rfl, _, rfl⟩
    rw [show chs4 s (a + 1) = (chs4 s a * ((s : Int) - (a : Int))).fdiv ((a : Int) + 1) from rfl]
    generalize chs4 s a * ((s : Int) - (a : Int)) = MM at *
    generalize chs4 s a = CC at *
    generalize MM.fdiv ((a : Int) + 1) = FF at *
    simp only [q_set, q_c2, q_var, q_k, List.getElem?_cons_succ, List.getElem?_cons_zero, er_int, Bool.false_eq_true, if_false, q_bok, q_sub, q_add, q_vo, qm, qd, q_ofok, List.set_cons_succ, List.set_cons_zero]
  · rintro ρ h1 ⟨rfl, x3, rfl⟩
    dsimp only
    rw [List.length_range, chs4_ch s (by omega) i is]
    exact wS_ret (d := .int ((chN s i : Nat) : Int)) (h' := h1) (by simp [q_bok, q_bxn, q_ofok, q_ofxn, q_vo, q_var, q_k, q_c1, q_c2, q_nil, q_cons, q_c, q_call, q_callK, pick, q_b, q_tru, q_not, q_and, q_or, q_ifE, q_andV, q_orV, q_notV, q_chain, q_seq, q_tnx, q_trt, q_txn, q_tbk, q_tct, q_skip, q_drop, q_ret, q_retN, q_bk, q_ct, q_set, q_par, q_par3, q_if, q_raise, q_mt, q_mt0, q_end0, q_endr, q_endx, q_lt, q_le, q_gt, q_ge, q_sub, q_add, q_neg, q_inti, q_intb, q_max, q_min, q_lenT, q_lenF, q_truT, q_truF, q_truB, q_truI, q_ixT, q_ixF, at_0, at_1, er_int, er_bl, er_str, er_non, er_tup, er_flst, er_ref, er_obj, er_ty, er_gl, q_lst, q_tup, q_cutT, q_pn, q_ps, q_slT, q_itS, seqL_t, sz_0, sz_1, sz_2, sz_3, sz_4, sz_5, sz_6, sz_7, sz_8, sz_9, sz_10, sz_11, sz_12, sz_13, sz_14]) ⟨rfl, rfl⟩
theorem q_addRI4 {m n : Nat} {f g : Bool} {a c : List Int} (e1 : h[m]? = some (f, .lst (iL a))) (e2 : h[n]? = some (g, .lst (iL c))) (z : a.length + c.length ≤ 200) : gAdd (.ref m) (.ref n) h = some (.ref h.length, h ++ [(false, .lst (iL (a ++ c)))]) := by
  have sz : (2000 : Nat) < sizeLine := by decide
  have := q_addR e1 e2 (by unfold iL; rw [List.length_map, List.length_map]; omega)
  have e : iL a ++ iL c = iL (a ++ c) := by simp [iL]
  rw [e] at this
  exact this
theorem q_addRR4 {m n : Nat} {f g : Bool} {a c : List (List Int)} (e1 : h[m]? = some (f, .lst (rL a))) (e2 : h[n]? = some (g, .lst (rL c))) (z : a.length + c.length ≤ 200) : gAdd (.ref m) (.ref n) h = some (.ref h.length, h ++ [(false, .lst (rL (a ++ c)))]) := by
  have sz : (2000 : Nat) < sizeLine := by decide
  have := q_addR e1 e2 (by rw [List.length_map, List.length_map]; omega)
  have e : rL a ++ rL c = rL (a ++ c) := by simp [rL]
  rw [e] at this
  exact this
theorem q_ninR4 {m : Nat} {f : Bool} {a : List Int} {i : Int} (e : h[m]? = some (f, .lst (iL a))) : gNotIn (.int i) (.ref m) h = some (.bl (!decide (i ∈ a)), h) := by
  have := q_inR (i := i) e
  unfold gIn at this
  unfold gNotIn
  cases c : inD (.int i) (.ref m) h with
  | none => rw [c] at this; cases this
  | some b =>
    rw [c] at this
    injection this with this
    injection this with this
    injection this with this
    rw [this]
abbrev n4 (k : Nat) : List Int := (List.range k).map fun (i : Nat) => (i : Int)
def bhL (k : Nat) (row : List (List Int)) : List (List Int) := row ++ ((n4 k).filter fun x => !decide (x ∈ row.flatten)).map fun x => [x]
theorem behindL_w {k : Nat} {row : List (List Int)} {X : D} (k6 : k ≤ 12) (rl : row.length ≤ 12) (fl : row.flatten.length ≤ 100) (erX : X.isErr = false) :
    ∃ (h' : Hc) (m : Nat), m__law_behind [.int (k : Nat), .tup (rL row), X] h = .ok (.ref m) h' ∧ Ap h h' ∧ h.length ≤ m ∧ h'[m]? = some (false, .lst (rL (bhL k row))) := by
  have sz : (2000 : Nat) < sizeLine := by decide
  suffices w : wE (m__law_behind [.int (k : Nat), .tup (rL row), X] h) fun r h' => ∃ m, r = .ref m ∧ Ap h h' ∧ h.length ≤ m ∧ h'[m]? = some (false, .lst (rL (bhL k row))) by
    obtain ⟨_, h', e, m, rfl, q⟩ := w.eq
    exact ⟨h', m, e, q⟩
  have erR : (D.tup (rL row)).isErr = false := rfl
  unfold m__law_behind
  refine wE_run rfl ?_
  unfold b__law_behind
  have gl : gList [.tup (rL row)] h = some (.ref h.length, h ++ [(false, .lst (rL row))]) := id rfl
  have g0 := get_new (h := h) (p := (false, O.lst (rL row)))
  have ap0 : Ap h (h ++ [(false, O.lst (rL row))]) := .new _
  have l0 : (h ++ [(false, O.lst (rL row))]).length = h.length + 1 := by simp
  have lt0 := (List.getElem?_eq_some_iff.mp g0).1
  generalize hf : h.length = f at *
  generalize h ++ [(false, O.lst (rL row))] = h1 at *
  have gn : gLstD [] h1 = some (.ref h1.length, h1 ++ [(false, .lst (iL []))]) := id rfl
  have g1 := get_new (h := h1) (p := (false, O.lst (iL [])))
  have ap1 : Ap h1 (h1 ++ [(false, O.lst (iL []))]) := .new _
  have g0' := ap1.get g0
  generalize hm : h1.length = m at *
  generalize h1 ++ [(false, O.lst (iL []))] = h2 at *
  refine wS_step (ρ' := [some (.int (k : Nat)), some (.tup (rL row)), some X, some (.ref f), some (.ref m), none, none]) (h' := h2) (by
    show cAsg (.tp [.nm 3, .nm 4]) _ [some (.int (k : Nat)), some (.tup (rL row)), some X, none, none, none, none] h = _
    have t2 : gTupD [.ref f, .ref m] h2 = some (.tup [.ref f, .ref m], h2) := id rfl
    rw [q_asg]
    generalize rL row = RR at *
    simp [q_bok, q_bxn, q_ofok, q_ofxn, q_vo, q_var, q_k, q_c1, q_c2, q_nil, q_cons, q_c, q_call, q_callK, pick, q_b, q_tru, q_not, q_and, q_or, q_ifE, q_andV, q_orV, q_notV, q_chain, q_seq, q_tnx, q_trt, q_txn, q_tbk, q_tct, q_skip, q_drop, q_ret, q_retN, q_bk, q_ct, q_set, q_par, q_par3, q_if, q_raise, q_mt, q_mt0, q_end0, q_endr, q_endx, q_lt, q_le, q_gt, q_ge, q_sub, q_add, q_neg, q_inti, q_intb, q_max, q_min, q_lenT, q_lenF, q_truT, q_truF, q_truB, q_truI, q_ixT, q_ixF, at_0, at_1, er_int, er_bl, er_str, er_non, er_tup, er_flst, er_ref, er_obj, er_ty, er_gl, q_tup, q_cutT, q_pn, q_ps, q_slT, q_itS, seqL_t, sz_0, sz_1, sz_2, sz_3, sz_4, sz_5, sz_6, sz_7, sz_8, sz_9, sz_10, sz_11, sz_12, sz_13, sz_14, erR, gl, gn, t2, asg_t2]) ?_
  have apS : Ap h h2 := ap0.trans ap1
  refine wS_bind2 (R := fun ρ h3 => ∃ m x5, ρ = [some (.int (k : Nat)), some (.tup (rL row)), some X, some (.ref f), some (.ref m), x5, none] ∧ Ap h h3 ∧ h3[f]? = some (false, .lst (rL row)) ∧ h3[m]? = some (false, .lst (iL row.flatten))) ?_ ?_
  · rw [q_for (l := rL row) (h1 := h2) (by
      have sq := seqL_t (ds := rL row) (h := h2)
      generalize rL row = RR at *
      simp [q_bok, q_bxn, q_ofok, q_ofxn, q_vo, q_var, q_k, q_c1, q_c2, q_nil, q_cons, q_c, q_call, q_callK, pick, q_b, q_tru, q_not, q_and, q_or, q_ifE, q_andV, q_orV, q_notV, q_chain, q_seq, q_tnx, q_trt, q_txn, q_tbk, q_tct, q_skip, q_drop, q_ret, q_retN, q_bk, q_ct, q_set, q_par, q_par3, q_if, q_raise, q_mt, q_mt0, q_end0, q_endr, q_endx, q_lt, q_le, q_gt, q_ge, q_sub, q_add, q_neg, q_inti, q_intb, q_max, q_min, q_lenT, q_lenF, q_truT, q_truF, q_truB, q_truI, q_ixT, q_ixF, at_0, at_1, er_int, er_bl, er_str, er_non, er_tup, er_flst, er_ref, er_obj, er_ty, er_gl, q_lst, q_tup, q_cutT, q_pn, q_ps, q_slT, q_itS, seqL_t, sz_0, sz_1, sz_2, sz_3, sz_4, sz_5, sz_6, sz_7, sz_8, sz_9, sz_10, sz_11, sz_12, sz_13, sz_14, erR, sq])]
    refine for_ix iT row (fun i ρ h3 => ∃ m x5, ρ = [some (.int (k : Nat)), some (.tup (rL row)), some X, some (.ref f), some (.ref m), x5, none] ∧ Ap h h3 ∧ h3[f]? = some (false, .lst (rL row)) ∧ h3[m]? = some (false, .lst (iL (row.take i).flatten))) ?_ ?_ ⟨m, _, rfl, apS, g0', by simpa using g1⟩
    · rintro i g ρ h3 hi ⟨m', x5, rfl, ap3, gf, gm⟩
      refine ⟨_, asg_nm, ?_⟩
      have tk : row.take (i + 1) = row.take i ++ [g] := by rw [List.take_add_one, hi]; rfl
      have fle : ((row.take i).flatten).length + g.length ≤ 100 := by
        have := congrArg (fun l : List (List Int) => l.flatten.length) (List.take_append_drop (i + 1) row)
        simp only [List.flatten_append, List.length_append] at this
        rw [tk, List.flatten_append, List.length_append] at this
        simp only [List.flatten_cons, List.flatten_nil, List.append_nil] at this
        omega
      have lg : gList [iT g] h3 = some (.ref h3.length, h3 ++ [(false, .lst (iL g))]) := id rfl
      have g4 := get_new (h := h3) (p := (false, O.lst (iL g)))
      have ap4 : Ap h3 (h3 ++ [(false, O.lst (iL g))]) := .new _
      have gm4 := ap4.get gm
      have gf4 := ap4.get gf
      have erg : (iT g).isErr = false := rfl
      generalize h3.length = l3 at *
      generalize h3 ++ [(false, O.lst (iL g))] = h4 at *
      have qa := q_addRI4 gm4 g4 (by omega)
      rw [show (row.take i).flatten ++ g = (row.take (i + 1)).flatten by rw [tk, List.flatten_append]; simp] at qa
      refine wS.of (f := .nx) (ρ := [some (.int (k : Nat)), some (.tup (rL row)), some X, some (.ref f), some (.ref h4.length), some (iT g), none]) (h := h4 ++ [(false, .lst (iL (row.take (i + 1)).flatten))]) ?_ ⟨_, _, rfl, (ap3.trans ap4).app _, (Ap.new _).get gf4, get_new⟩
      show cSet 4 _ [some (.int (k : Nat)), some (.tup (rL row)), some X, some (.ref f), some (.ref m'), some (iT g), none] h3 = _
      generalize iT g = GG at *
      generalize rL row = RR at *
      generalize h4 ++ [(false, O.lst (iL (row.take (i + 1)).flatten))] = h5 at *
      simp [q_bok, q_bxn, q_ofok, q_ofxn, q_vo, q_var, q_k, q_c1, q_c2, q_nil, q_cons, q_c, q_call, q_callK, pick, q_b, q_tru, q_not, q_and, q_or, q_ifE, q_andV, q_orV, q_notV, q_chain, q_seq, q_tnx, q_trt, q_txn, q_tbk, q_tct, q_skip, q_drop, q_ret, q_retN, q_bk, q_ct, q_set, q_par, q_par3, q_if, q_raise, q_mt, q_mt0, q_end0, q_endr, q_endx, q_lt, q_le, q_gt, q_ge, q_sub, q_add, q_neg, q_inti, q_intb, q_max, q_min, q_lenT, q_lenF, q_truT, q_truF, q_truB, q_truI, q_ixT, q_ixF, at_0, at_1, er_int, er_bl, er_str, er_non, er_tup, er_flst, er_ref, er_obj, er_ty, er_gl, q_tup, q_cutT, q_pn, q_ps, q_slT, q_itS, seqL_t, sz_0, sz_1, sz_2, sz_3, sz_4, sz_5, sz_6, sz_7, sz_8, sz_9, sz_10, sz_11, sz_12, sz_13, sz_14, erg, lg, qa]
    · rintro ρ h3 ⟨m', x5, rfl, q⟩
      rw [List.take_length] at q
      exact ⟨m', x5, rfl, q⟩
  · rintro ρ h3 ⟨m', x5, rfl, ap3, gf, gm⟩
    have cc := q_comp (vs := [6]) (ci := cItR1 (cVar 0)) (t := .nm 6) (tt := cB (c2 gNotIn (cVar 6) (cVar 4))) (e := cC gTupD (cCons (cVar 6) (cNil))) (ρ := [some (.int (k : Nat)), some (.tup (rL row)), some X, some (.ref f), some (.ref m'), x5, none]) (h := h3) (h1 := h3) (h2 := h3) (l := (List.range k).map fun (i : Nat) => .int (i : Int)) (xs := ((List.range k).filter fun (i : Nat) => !decide ((i : Int) ∈ row.flatten)).map fun (i : Nat) => iT [(i : Int)]) (q_itR1 (n := k) (by generalize rL row = RR at *; simp [q_bok, q_bxn, q_ofok, q_ofxn, q_vo, q_var, q_k, q_c1, q_c2, q_nil, q_cons, q_c, q_call, q_callK, pick, q_b, q_tru, q_not, q_and, q_or, q_ifE, q_andV, q_orV, q_notV, q_chain, q_seq, q_tnx, q_trt, q_txn, q_tbk, q_tct, q_skip, q_drop, q_ret, q_retN, q_bk, q_ct, q_set, q_par, q_par3, q_if, q_raise, q_mt, q_mt0, q_end0, q_endr, q_endx, q_lt, q_le, q_gt, q_ge, q_sub, q_add, q_neg, q_inti, q_intb, q_max, q_min, q_lenT, q_lenF, q_truT, q_truF, q_truB, q_truI, q_ixT, q_ixF, at_0, at_1, er_int, er_bl, er_str, er_non, er_tup, er_flst, er_ref, er_obj, er_ty, er_gl, q_lst, q_tup, q_cutT, q_pn, q_ps, q_slT, q_itS, seqL_t, sz_0, sz_1, sz_2, sz_3, sz_4, sz_5, sz_6, sz_7, sz_8, sz_9, sz_10, sz_11, sz_12, sz_13, sz_14]) (by omega)) (by rw [List.length_map, List.length_range]; omega) (by
      refine comp_some (fun (i : Nat) => D.int (i : Int)) (fun (i : Nat) => iT [(i : Int)]) (fun (i : Nat) => !decide ((i : Int) ∈ row.flatten)) (List.range k) fun a _ => ⟨_, asg_nm, ?_⟩
      have qn := q_ninR4 (i := (a : Int)) gm
      have gt1 : gTupD [.int (a : Int)] h3 = some (.tup [.int (a : Int)], h3) := id rfl
      generalize rL row = RR at *
      constructor
      · simp [q_bok, q_bxn, q_ofok, q_ofxn, q_vo, q_var, q_k, q_c1, q_c2, q_nil, q_cons, q_c, q_call, q_callK, pick, q_b, q_tru, q_not, q_and, q_or, q_ifE, q_andV, q_orV, q_notV, q_chain, q_seq, q_tnx, q_trt, q_txn, q_tbk, q_tct, q_skip, q_drop, q_ret, q_retN, q_bk, q_ct, q_set, q_par, q_par3, q_if, q_raise, q_mt, q_mt0, q_end0, q_endr, q_endx, q_lt, q_le, q_gt, q_ge, q_sub, q_add, q_neg, q_inti, q_intb, q_max, q_min, q_lenT, q_lenF, q_truT, q_truF, q_truB, q_truI, q_ixT, q_ixF, at_0, at_1, er_int, er_bl, er_str, er_non, er_tup, er_flst, er_ref, er_obj, er_ty, er_gl, q_lst, q_tup, q_cutT, q_pn, q_ps, q_slT, q_itS, seqL_t, sz_0, sz_1, sz_2, sz_3, sz_4, sz_5, sz_6, sz_7, sz_8, sz_9, sz_10, sz_11, sz_12, sz_13, sz_14, wipeD, qn]
      · simp [q_bok, q_bxn, q_ofok, q_ofxn, q_vo, q_var, q_k, q_c1, q_c2, q_nil, q_cons, q_c, q_call, q_callK, pick, q_b, q_tru, q_not, q_and, q_or, q_ifE, q_andV, q_orV, q_notV, q_chain, q_seq, q_tnx, q_trt, q_txn, q_tbk, q_tct, q_skip, q_drop, q_ret, q_retN, q_bk, q_ct, q_set, q_par, q_par3, q_if, q_raise, q_mt, q_mt0, q_end0, q_endr, q_endx, q_lt, q_le, q_gt, q_ge, q_sub, q_add, q_neg, q_inti, q_intb, q_max, q_min, q_lenT, q_lenF, q_truT, q_truF, q_truB, q_truI, q_ixT, q_ixF, at_0, at_1, er_int, er_bl, er_str, er_non, er_tup, er_flst, er_ref, er_obj, er_ty, er_gl, q_lst, q_tup, q_cutT, q_pn, q_ps, q_slT, q_itS, seqL_t, sz_0, sz_1, sz_2, sz_3, sz_4, sz_5, sz_6, sz_7, sz_8, sz_9, sz_10, sz_11, sz_12, sz_13, sz_14, wipeD, gt1])
    have xe : (((List.range k).filter fun (i : Nat) => !decide ((i : Int) ∈ row.flatten)).map fun (i : Nat) => iT [(i : Int)]) = rL (((n4 k).filter fun x => !decide (x ∈ row.flatten)).map fun x => [x]) := by
      unfold n4
      rw [List.filter_map, List.map_map, rL, List.map_map]
      rfl
    rw [xe] at cc
    have lf : (((n4 k).filter fun x => !decide (x ∈ row.flatten)).map fun x => [x]).length ≤ 12 := by
      rw [List.length_map]
      refine Nat.le_trans (List.length_filter_le _ _) ?_
      rw [List.length_map, List.length_range]; exact k6
    have gc := get_new (h := h3) (p := (false, O.lst (rL (((n4 k).filter fun x => !decide (x ∈ row.flatten)).map fun x => [x]))))
    have apc : Ap h3 (h3 ++ [(false, O.lst (rL (((n4 k).filter fun x => !decide (x ∈ row.flatten)).map fun x => [x])))]) := .new _
    have gfc := apc.get gf
    have eb : bhL k row = row ++ ((n4 k).filter fun x => !decide (x ∈ row.flatten)).map fun x => [x] := rfl
    generalize ((n4 k).filter fun x => !decide (x ∈ row.flatten)).map (fun x => [x]) = SS at *
    generalize h3.length = l3 at *
    generalize h3 ++ [(false, O.lst (rL SS))] = h4 at *
    have qa := q_addRR4 gfc gc (by omega)
    have l4 := ((ap3.trans apc).len : h.length ≤ h4.length)
    refine wS_ret (d := .ref h4.length) (h' := h4 ++ [(false, .lst (rL (row ++ SS)))]) (by
      show c2 gAdd (cVar 3) _ [some (.int (k : Nat)), some (.tup (rL row)), some X, some (.ref f), some (.ref m'), x5, none] h3 = _
      rw [q_c2, show cVar 3 [some (.int (k : Nat)), some (.tup (rL row)), some X, some (.ref f), some (.ref m'), x5, none] h3 = .ok (.ref f) h3 from rfl, q_bok, cc, q_bok, qa]
      rfl) ⟨_, rfl, (ap3.trans apc).app _, by omega, by rw [eb]; exact get_new⟩
end

end Gk

set_option Elab.async false
set_option linter.all false
set_option maxRecDepth 100000
namespace Gk
open PySem Sx
theorem comp_apU4 {α : Type} {t : TGT} {tt : CT} {e : CE} {ρ : Rho} {h0 : Hc} (mk F : α → D) (P : α → Bool) : ∀ (l : List α) (h : Hc), Ap h0 h → (∀ a ∈ l, ∃ ρ1, asg t (mk a) ρ = some ρ1 ∧ ∀ h, Ap h0 h → ∃ h', tt ρ1 h = .ok (P a) h' ∧ Ap h h' ∧ (P a = true → e ρ1 h' = .ok (F a) h')) → ∃ h', cCompB t tt e ρ (l.map mk) h = .ok ((l.filter P).map F) h' ∧ Ap h h'
  | [], h, _, _ => ⟨h, rfl, .refl⟩
  | a :: l, h, a0, k => by
    obtain ⟨ρ1, e1, k1⟩ := k a (by simp)
    obtain ⟨h1, e2, ap, k2⟩ := k1 h a0
    obtain ⟨h2, e3, ap2⟩ := comp_apU4 mk F P l h1 (a0.trans ap) fun x hx => k x (by simp [hx])
    refine ⟨h2, ?_, ap.trans ap2⟩
    cases p : P a with
    | true =>
      rw [p] at e2
      simp only [List.map_cons, cCompB, e1, e2, q_bok, if_true, k2 p, e3, List.filter_cons, p]
    | false =>
      rw [p] at e2
      simp only [List.map_cons, cCompB, e1, e2, q_bok, Bool.false_eq_true, if_false, e3, List.filter_cons, p]
theorem q_compU4 {ci : CI} {t : TGT} {tt : CT} {e : CE} {ρ : Rho} {vs : List Nat} {h0 h h2 : Hc} {l xs : List D} {w : Nat} {p : Bool × O} (hw : h[w]? = some p) (e1 : ci ρ h0 = .ok (l, [w]) h) (z : l.length < sizeLine) (e2 : cCompB t tt e (wipeD ρ vs) l (lckL [w] h) = .ok xs h2) (ap : Ap (lckL [w] h) h2) :
    ∃ h3 : Hc, Ap h h3 ∧ h3.length = h2.length ∧ cComp vs ci t tt e ρ h0 = .ok (.ref h3.length) (h3 ++ [(false, .lst xs)]) := by
  refine ⟨h2.set w p, ap_unlock hw ap, by rw [List.length_set], ?_⟩
  unfold cComp
  rw [e1]
  show (if decide (l.length < sizeLine) = true then _ else _) = _
  rw [if_pos (by simpa using z), e2]
  show Res.ok (D.ref (ulkL h [w] h2).length) _ = _
  have : ulkL h [w] h2 = h2.set w p := by
    unfold ulkL
    simp only [hw]
    rfl
  rw [this]
theorem q_cb4 {a : CE} {ρ : Rho} {h : Hc} : cB a ρ h = (a ρ h).bind fun x h1 => match x with | .bl b => .ok b h1 | _ => .stuck := rfl
def tdB (T : List Int) (l : List Int) : Bool := decide (l.filter (fun x => decide (x ∈ T)) ≠ [])
def utB (T : List Int) (l : List Int) : Bool := decide (l.filter (fun x => !decide (x ∈ T)) ≠ [])
def okW4 (wq : Bool) (T : List Int) (L : List (List Int)) : Bool := !wq || decide ((L.filter (tdB T)).filter (utB T) = [])
def cn4 (wq : Bool) (k : Nat) (T : List Int) (R : List (List (List Int))) (j : Nat) : Nat := R.countP fun row => okW4 wq T (bhL k row) && decide (((bhL k row).filter (tdB T)).length = j)
def cnL (wq : Bool) (k : Nat) (T : List Int) (R : List (List (List Int))) : List Int := (List.range (k + 1)).map fun j => ((cn4 wq k T R j : Nat) : Int)
theorem cn_set {wq : Bool} {k : Nat} {T : List Int} {R : List (List (List Int))} {row : List (List Int)} (lt : ((bhL k row).filter (tdB T)).length < k + 1) :
    (if okW4 wq T (bhL k row) = true then (cnL wq k T R).set ((bhL k row).filter (tdB T)).length (((cn4 wq k T R ((bhL k row).filter (tdB T)).length : Nat) : Int) + 1) else cnL wq k T R) = cnL wq k T (R ++ [row]) := by
  have st : ∀ j, cn4 wq k T (R ++ [row]) j = cn4 wq k T R j + if okW4 wq T (bhL k row) && decide (((bhL k row).filter (tdB T)).length = j) then 1 else 0 := fun j => by
    unfold cn4
    rw [List.countP_append, List.countP_cons, List.countP_nil, Nat.zero_add]
  generalize ((bhL k row).filter (tdB T)).length = m at *
  cases c : okW4 wq T (bhL k row) with
  | false =>
    rw [if_neg Bool.false_ne_true]
    unfold cnL
    refine List.map_congr_left fun j _ => ?_
    rw [st, c]
    simp
  | true =>
    rw [if_pos rfl]
    refine List.ext_getElem? fun j => ?_
    unfold cnL
    rw [List.getElem?_set]
    by_cases e : m = j
    · subst e
      rw [if_pos rfl, if_pos (by simpa using lt), List.getElem?_map, List.getElem?_range lt, Option.map_some, st, c]
      simp
    · rw [if_neg e, List.getElem?_map, List.getElem?_map]
      cases q : (List.range (k + 1))[j]? with
      | none => rfl
      | some i =>
        have := (List.getElem?_eq_some_iff.mp q).2
        rw [List.getElem_range] at this
        subst this
        rw [Option.map_some, Option.map_some, st]
        simp [e]
section
variable {h : Hc}
abbrev inT4 (op : G2) : CT := cB (c2 gNe (cComp [8] (cItS (cVar 7)) (.nm 8) (cB (c2 op (cVar 8) (cVar 2))) (cVar 8)) (cC gLstD (cNil)))
theorem in4_w {op : G2} {q : Int → Bool} {k r t c : Nat} {wq : Bool} {x5 x6 : Option D} {l : List Int} (ll : l.length ≤ 100) (hq : ∀ x, op (.int x) (.ref t) h = some (.bl (q x), h)) :
    ∃ h', inT4 op [some (.int (k : Nat)), some (.ref r), some (.ref t), some (.bl wq), some (.ref c), x5, x6, some (iT l), none] h = .ok (decide (l.filter q ≠ [])) h' ∧ Ap h h' := by
  have sz : (2000 : Nat) < sizeLine := by decide
  have erl : (iT l).isErr = false := rfl
  have cc := q_comp (vs := [8]) (ci := cItS (cVar 7)) (t := .nm 8) (tt := cB (c2 op (cVar 8) (cVar 2))) (e := cVar 8) (ρ := [some (.int (k : Nat)), some (.ref r), some (.ref t), some (.bl wq), some (.ref c), x5, x6, some (iT l), none]) (h := h) (h1 := h) (h2 := h) (l := l.map D.int) (xs := (l.filter q).map D.int) (by
    have sq := seqL_t (ds := iL l) (h := h)
    have sq : seqL (iT l) h = some (l.map D.int, []) := sq
    generalize iT l = LL at *
    simp [q_bok, q_bxn, q_ofok, q_ofxn, q_vo, q_var, q_k, q_c1, q_c2, q_nil, q_cons, q_c, q_call, q_callK, pick, q_b, q_tru, q_not, q_and, q_or, q_ifE, q_andV, q_orV, q_notV, q_chain, q_seq, q_tnx, q_trt, q_txn, q_tbk, q_tct, q_skip, q_drop, q_ret, q_retN, q_bk, q_ct, q_set, q_par, q_par3, q_if, q_raise, q_mt, q_mt0, q_end0, q_endr, q_endx, q_lt, q_le, q_gt, q_ge, q_sub, q_add, q_neg, q_inti, q_intb, q_max, q_min, q_lenT, q_lenF, q_truT, q_truF, q_truB, q_truI, q_ixT, q_ixF, at_0, at_1, er_int, er_bl, er_str, er_non, er_tup, er_flst, er_ref, er_obj, er_ty, er_gl, q_lst, q_tup, q_cutT, q_pn, q_ps, q_slT, q_itS, seqL_t, sz_0, sz_1, sz_2, sz_3, sz_4, sz_5, sz_6, sz_7, sz_8, sz_9, sz_10, sz_11, sz_12, sz_13, sz_14, erl, sq]) (by rw [List.length_map]; omega) (by
    refine comp_some D.int D.int q l fun a _ => ⟨_, asg_nm, ?_⟩
    have qa := hq a
    generalize iT l = LL at *
    constructor
    · simp [q_bok, q_bxn, q_ofok, q_ofxn, q_vo, q_var, q_k, q_c1, q_c2, q_nil, q_cons, q_c, q_call, q_callK, pick, q_b, q_tru, q_not, q_and, q_or, q_ifE, q_andV, q_orV, q_notV, q_chain, q_seq, q_tnx, q_trt, q_txn, q_tbk, q_tct, q_skip, q_drop, q_ret, q_retN, q_bk, q_ct, q_set, q_par, q_par3, q_if, q_raise, q_mt, q_mt0, q_end0, q_endr, q_endx, q_lt, q_le, q_gt, q_ge, q_sub, q_add, q_neg, q_inti, q_intb, q_max, q_min, q_lenT, q_lenF, q_truT, q_truF, q_truB, q_truI, q_ixT, q_ixF, at_0, at_1, er_int, er_bl, er_str, er_non, er_tup, er_flst, er_ref, er_obj, er_ty, er_gl, q_lst, q_tup, q_cutT, q_pn, q_ps, q_slT, q_itS, seqL_t, sz_0, sz_1, sz_2, sz_3, sz_4, sz_5, sz_6, sz_7, sz_8, sz_9, sz_10, sz_11, sz_12, sz_13, sz_14, wipeD, qa]
    · simp [q_bok, q_bxn, q_ofok, q_ofxn, q_vo, q_var, q_k, q_c1, q_c2, q_nil, q_cons, q_c, q_call, q_callK, pick, q_b, q_tru, q_not, q_and, q_or, q_ifE, q_andV, q_orV, q_notV, q_chain, q_seq, q_tnx, q_trt, q_txn, q_tbk, q_tct, q_skip, q_drop, q_ret, q_retN, q_bk, q_ct, q_set, q_par, q_par3, q_if, q_raise, q_mt, q_mt0, q_end0, q_endr, q_endx, q_lt, q_le, q_gt, q_ge, q_sub, q_add, q_neg, q_inti, q_intb, q_max, q_min, q_lenT, q_lenF, q_truT, q_truF, q_truB, q_truI, q_ixT, q_ixF, at_0, at_1, er_int, er_bl, er_str, er_non, er_tup, er_flst, er_ref, er_obj, er_ty, er_gl, q_lst, q_tup, q_cutT, q_pn, q_ps, q_slT, q_itS, seqL_t, sz_0, sz_1, sz_2, sz_3, sz_4, sz_5, sz_6, sz_7, sz_8, sz_9, sz_10, sz_11, sz_12, sz_13, sz_14, wipeD])
  have g1 := get_new (h := h) (p := (false, O.lst ((l.filter q).map D.int)))
  have ap1 : Ap h (h ++ [(false, O.lst ((l.filter q).map D.int))]) := .new _
  generalize h.length = w at *
  generalize h ++ [(false, O.lst ((l.filter q).map D.int))] = h1 at *
  have gn : gLstD [] h1 = some (.ref h1.length, h1 ++ [(false, .lst (iL []))]) := id rfl
  have g2 := get_new (h := h1) (p := (false, O.lst (iL [])))
  have ap2 : Ap h1 (h1 ++ [(false, O.lst (iL []))]) := .new _
  have g1' := ap2.get g1
  have qe := q_neR (a := l.filter q) (b := []) g1' g2
  refine ⟨_, ?_, ap1.trans ap2⟩
  unfold inT4
  rw [q_cb4, q_c2, cc, q_bok]
  simp only [q_c, q_nil, q_bok, gn, q_vo, qe]
  by_cases z : l.filter q = [] <;> simp [z]
theorem q_inR4 {m : Nat} {f : Bool} {a : List Int} {i : Int} (e : h[m]? = some (f, .lst (iL a))) : gIn (.int i) (.ref m) h = some (.bl (decide (i ∈ a)), h) := q_inR e
theorem lines4_w {op : G2} {q : Int → Bool} {k r t c m : Nat} {fm : Bool} {wq : Bool} {x5 x6 x7 : Option D} {L : List (List Int)} {ci : CI} {h1 : Hc} (ft : Bool) {T : List Int} (ap : Ap h h1) (gt : h[t]? = some (ft, .lst (iL T))) (gm : h1[m]? = some (fm, .lst (rL L))) (mt : m ≠ t) (ll : ∀ l ∈ L, l.length ≤ 100) (LL : L.length ≤ 200) (hq : ∀ (h : Hc), h[t]? = some (ft, .lst (iL T)) → ∀ x, op (.int x) (.ref t) h = some (.bl (q x), h))
    (hci : ci [some (.int (k : Nat)), some (.ref r), some (.ref t), some (.bl wq), some (.ref c), x5, x6, x7, none] h = .ok (rL L, [m]) h1) :
    ∃ (h' : Hc) (w : Nat), cComp [7] ci (.nm 7) (inT4 op) (cVar 7) [some (.int (k : Nat)), some (.ref r), some (.ref t), some (.bl wq), some (.ref c), x5, x6, x7, none] h = .ok (.ref w) h' ∧ Ap h h' ∧ h.length ≤ w ∧ h'[w]? = some (false, .lst (rL (L.filter fun l => decide (l.filter q ≠ [])))) := by
  have sz : (2000 : Nat) < sizeLine := by decide
  have gt1 := ap.get gt
  have gtl : (lckL [m] h1)[t]? = some (ft, .lst (iL T)) := by rw [lck1_ne gm (Ne.symm mt)]; exact gt1
  obtain ⟨h2, e2, ap2⟩ := comp_apU4 (t := .nm 7) (tt := inT4 op) (e := cVar 7) (ρ := wipeD [some (.int (k : Nat)), some (.ref r), some (.ref t), some (.bl wq), some (.ref c), x5, x6, x7, none] [7]) (h0 := lckL [m] h1) iT iT (fun l => decide (l.filter q ≠ [])) L (lckL [m] h1) .refl fun l hl => ⟨_, asg_nm, fun h3 ap3 => by
    obtain ⟨h4, e4, ap4⟩ := in4_w (h := h3) (op := op) (q := q) (k := k) (r := r) (t := t) (c := c) (wq := wq) (x5 := x5) (x6 := x6) (ll l hl) (hq h3 (ap3.get gtl))
    exact ⟨h4, e4, ap4, fun _ => by
      have erl : (iT l).isErr = false := rfl
      generalize iT l = LL at *
      simp [q_bok, q_bxn, q_ofok, q_ofxn, q_vo, q_var, q_k, q_c1, q_c2, q_nil, q_cons, q_c, q_call, q_callK, pick, q_b, q_tru, q_not, q_and, q_or, q_ifE, q_andV, q_orV, q_notV, q_chain, q_seq, q_tnx, q_trt, q_txn, q_tbk, q_tct, q_skip, q_drop, q_ret, q_retN, q_bk, q_ct, q_set, q_par, q_par3, q_if, q_raise, q_mt, q_mt0, q_end0, q_endr, q_endx, q_lt, q_le, q_gt, q_ge, q_sub, q_add, q_neg, q_inti, q_intb, q_max, q_min, q_lenT, q_lenF, q_truT, q_truF, q_truB, q_truI, q_ixT, q_ixF, at_0, at_1, er_int, er_bl, er_str, er_non, er_tup, er_flst, er_ref, er_obj, er_ty, er_gl, q_lst, q_tup, q_cutT, q_pn, q_ps, q_slT, q_itS, seqL_t, sz_0, sz_1, sz_2, sz_3, sz_4, sz_5, sz_6, sz_7, sz_8, sz_9, sz_10, sz_11, sz_12, sz_13, sz_14, wipeD, erl]⟩⟩
  obtain ⟨h3, ap3, _, cc⟩ := q_compU4 (vs := [7]) (ci := ci) (ρ := [some (.int (k : Nat)), some (.ref r), some (.ref t), some (.bl wq), some (.ref c), x5, x6, x7, none]) gm hci (by rw [List.length_map]; omega) e2 ap2
  exact ⟨_, _, cc, (ap.trans ap3).app _, (ap.trans ap3).len, get_new⟩
theorem q_setIx4 {e o i : CE} {ρ : Rho} {h h1 h2 h3 : Hc} {d : D} {n j : Nat} {ds : List D} (e1 : e ρ h = .ok d h1) (e2 : o ρ h1 = .ok (.ref n) h2) (e3 : i ρ h2 = .ok (.int (j : Nat)) h3) (hn : h3[n]? = some (false, .lst ds)) (hj : j < ds.length) : cSetIx e o i ρ h = .ok .nx ρ (h3.set n (false, .lst (ds.set j d))) := by
  have p : Sx.putAt ds (j : Int) d = some (ds.set j d) := by
    unfold Sx.putAt L2.ixN
    have h1 : (0 : Int) ≤ (j : Int) := by omega
    have h2 : (j : Int) < (ds.length : Nat) := by omega
    rw [if_pos h1, if_pos h2]
    simp
  unfold cSetIx
  simp only [e1, e2, e3, q_ofok, hn, p]
theorem counts4_w' {k r t : Nat} {wq : Bool} {fr ft : Bool} {R : List (List (List Int))} {T : List Int} (k6 : k ≤ 6) (gr : h[r]? = some (fr, .lst (R.map rowD))) (gt : h[t]? = some (ft, .lst (iL T))) (rt : r ≠ t) (RR : R.length ≤ 1000000) (lt : ∀ row ∈ R, row.length ≤ 12 ∧ row.flatten.length ≤ 100 ∧ (∀ l ∈ bhL k row, l.length ≤ 100) ∧ (bhL k row).length < k + 1) :
    ∃ (h' : Hc) (c : Nat), m__law_counts_of [.int (k : Nat), .ref r, .ref t, .bl wq] h = .ok (.ref c) h' ∧ Ap h h' ∧ h.length ≤ c ∧ h'[c]? = some (false, .lst (iL (cnL wq k T R))) := by
  have sz : (2000 : Nat) < sizeLine := by decide
  have ltr := (List.getElem?_eq_some_iff.mp gr).1
  have ltt := (List.getElem?_eq_some_iff.mp gt).1
  suffices w : wE (m__law_counts_of [.int (k : Nat), .ref r, .ref t, .bl wq] h) fun x h' => ∃ c, x = .ref c ∧ Ap h h' ∧ h.length ≤ c ∧ h'[c]? = some (false, .lst (iL (cnL wq k T R))) by
    obtain ⟨_, h', e, m, rfl, q⟩ := w.eq
    exact ⟨h', m, e, q⟩
  unfold m__law_counts_of
  refine wE_run rfl ?_
  unfold b__law_counts_of
  have gn : gLstD [.int 0] h = some (.ref h.length, h ++ [(false, .lst (iL [0]))]) := id rfl
  have g0 := get_new (h := h) (p := (false, O.lst (iL [0])))
  have ap0 : Ap h (h ++ [(false, O.lst (iL [0]))]) := .new _
  have l0 : (h ++ [(false, O.lst (iL [0]))]).length = h.length + 1 := by simp
  generalize hw : h.length = w at *
  generalize h ++ [(false, O.lst (iL [0]))] = h1 at *
  have qm := q_mulR (k := k + 1) g0 (by omega) (by decide)
  have e0 : repD (((k + 1 : Nat)) : Int) (iL [0]) = iL (cnL wq k T []) := by
    unfold repD cnL cn4
    simp only [List.countP_nil]
    rw [show (((k + 1 : Nat) : Int)).toNat = k + 1 from rfl]
    clear qm
    have : ∀ n, (List.replicate n (iL [0])).flatten = iL ((List.range n).map fun _ => ((0 : Nat) : Int)) := fun n => by
      induction n with
      | zero => rfl
      | succ n ih =>
        rw [List.replicate_succ', List.flatten_append, ih, List.range_succ, List.map_append]
        unfold iL
        rw [List.map_append]
        rfl
    exact this _
  have ek : ((k : Nat) : Int) + 1 = ((k + 1 : Nat) : Int) := by omega
  rw [e0, ← ek] at qm
  have g2 := get_new (h := h1) (p := (false, O.lst (iL (cnL wq k T []))))
  have ap2 : Ap h1 (h1 ++ [(false, O.lst (iL (cnL wq k T [])))]) := .new _
  generalize hc : h1.length = c at *
  generalize h1 ++ [(false, O.lst (iL (cnL wq k T [])))] = h2 at *
  refine wS_step (ρ' := [some (.int (k : Nat)), some (.ref r), some (.ref t), some (.bl wq), some (.ref c), none, none, none, none]) (h' := h2) (by
    show cSet 4 _ [some (.int (k : Nat)), some (.ref r), some (.ref t), some (.bl wq), none, none, none, none, none] h = _
    simp [q_bok, q_bxn, q_ofok, q_ofxn, q_vo, q_var, q_k, q_c1, q_c2, q_nil, q_cons, q_c, q_call, q_callK, pick, q_b, q_tru, q_not, q_and, q_or, q_ifE, q_andV, q_orV, q_notV, q_chain, q_seq, q_tnx, q_trt, q_txn, q_tbk, q_tct, q_skip, q_drop, q_ret, q_retN, q_bk, q_ct, q_set, q_par, q_par3, q_if, q_raise, q_mt, q_mt0, q_end0, q_endr, q_endx, q_lt, q_le, q_gt, q_ge, q_sub, q_add, q_neg, q_inti, q_intb, q_max, q_min, q_lenT, q_lenF, q_truT, q_truF, q_truB, q_truI, q_ixT, q_ixF, at_0, at_1, er_int, er_bl, er_str, er_non, er_tup, er_flst, er_ref, er_obj, er_ty, er_gl, q_tup, q_cutT, q_pn, q_ps, q_slT, q_itS, seqL_t, sz_0, sz_1, sz_2, sz_3, sz_4, sz_5, sz_6, sz_7, sz_8, sz_9, sz_10, sz_11, sz_12, sz_13, sz_14, gn, qm]) ?_
  have apS : Ap h h2 := ap0.trans ap2
  have gr2 := apS.get gr
  have gt2 := apS.get gt
  refine wS_bind2 (R := fun ρ h3 => ∃ x5 x6 x7, ρ = [some (.int (k : Nat)), some (.ref r), some (.ref t), some (.bl wq), some (.ref c), x5, x6, x7, none] ∧ Kd c h2 h3 ∧ h3[c]? = some (false, .lst (iL (cnL wq k T R)))) ?_ ?_
  · refine wS_forR (l := R.map rowD) (w := r) (h1 := h2) (p := (fr, .lst (R.map rowD))) (by
      have sq := seqL_r gr2
      generalize R.map rowD = RD at *
      simp [q_bok, q_bxn, q_ofok, q_ofxn, q_vo, q_var, q_k, q_c1, q_c2, q_nil, q_cons, q_c, q_call, q_callK, pick, q_b, q_tru, q_not, q_and, q_or, q_ifE, q_andV, q_orV, q_notV, q_chain, q_seq, q_tnx, q_trt, q_txn, q_tbk, q_tct, q_skip, q_drop, q_ret, q_retN, q_bk, q_ct, q_set, q_par, q_par3, q_if, q_raise, q_mt, q_mt0, q_end0, q_endr, q_endx, q_lt, q_le, q_gt, q_ge, q_sub, q_add, q_neg, q_inti, q_intb, q_max, q_min, q_lenT, q_lenF, q_truT, q_truF, q_truB, q_truI, q_ixT, q_ixF, at_0, at_1, er_int, er_bl, er_str, er_non, er_tup, er_flst, er_ref, er_obj, er_ty, er_gl, q_lst, q_tup, q_cutT, q_pn, q_ps, q_slT, q_itS, seqL_t, sz_0, sz_1, sz_2, sz_3, sz_4, sz_5, sz_6, sz_7, sz_8, sz_9, sz_10, sz_11, sz_12, sz_13, sz_14, sq]) gr2 ?_
    have gtL : (lckL [r] h2)[t]? = some (ft, .lst (iL T)) := by rw [lck1_ne gr2 (Ne.symm rt)]; exact gt2
    have gcL : (lckL [r] h2)[c]? = some (false, .lst (iL (cnL wq k T []))) := by rw [lck1_ne gr2 (by omega)]; exact g2
    refine for_ix rowD R (fun i ρ h3 => ∃ x5 x6 x7, ρ = [some (.int (k : Nat)), some (.ref r), some (.ref t), some (.bl wq), some (.ref c), x5, x6, x7, none] ∧ Kd c (lckL [r] h2) h3 ∧ h3[c]? = some (false, .lst (iL (cnL wq k T (R.take i))))) ?_ ?_ ⟨_, _, _, rfl, .refl, by simpa using gcL⟩
    · rintro i row ρ h3 hi ⟨x5, x6, x7, rfl, kd, gc⟩
      refine ⟨_, asg_nm, ?_⟩
      obtain ⟨q1, q2, q3, q4⟩ := lt row (List.mem_of_getElem? hi)
      have gt3 := kd.get gtL (by omega : t ≠ c)
      have tk : R.take (i + 1) = R.take i ++ [row] := by rw [List.take_add_one, hi]; rfl
      have lc := (List.getElem?_eq_some_iff.mp gc).1
      have lt3 := (List.getElem?_eq_some_iff.mp gt3).1
      have erR : (rowD row).isErr = false := rfl
      obtain ⟨h4, m4, e4, ap4, lm4, g4⟩ := behindL_w (h := h3) (k := k) (row := row) (X := .ref t) (by omega) q1 q2 rfl
      obtain ⟨h5, m5, e5, ap5, lm5, g5⟩ := lines4_w (h := h3) (h1 := h4) (op := gIn) (q := fun x => decide (x ∈ T)) (k := k) (r := r) (t := t) (c := c) (m := m4) (wq := wq) (x5 := some (rowD row)) (x6 := x6) (x7 := x7) (ci := cItS (cCall m__law_behind (cCons (cVar 0) (cCons (cVar 5) (cCons (cVar 2) (cNil)))))) ft ap4 gt3 g4 (by omega) q3 (by omega) (fun h g x => q_inR4 g) (by
        have e4 : m__law_behind [.int (k : Nat), rowD row, .ref t] h3 = .ok (.ref m4) h4 := e4
        have sq := seqL_r g4
        generalize rowD row = RW at *
        generalize rL (bhL k row) = BL at *
        simp [q_bok, q_bxn, q_ofok, q_ofxn, q_vo, q_var, q_k, q_c1, q_c2, q_nil, q_cons, q_c, q_call, q_callK, pick, q_b, q_tru, q_not, q_and, q_or, q_ifE, q_andV, q_orV, q_notV, q_chain, q_seq, q_tnx, q_trt, q_txn, q_tbk, q_tct, q_skip, q_drop, q_ret, q_retN, q_bk, q_ct, q_set, q_par, q_par3, q_if, q_raise, q_mt, q_mt0, q_end0, q_endr, q_endx, q_lt, q_le, q_gt, q_ge, q_sub, q_add, q_neg, q_inti, q_intb, q_max, q_min, q_lenT, q_lenF, q_truT, q_truF, q_truB, q_truI, q_ixT, q_ixF, at_0, at_1, er_int, er_bl, er_str, er_non, er_tup, er_flst, er_ref, er_obj, er_ty, er_gl, q_lst, q_tup, q_cutT, q_pn, q_ps, q_slT, q_itS, seqL_t, sz_0, sz_1, sz_2, sz_3, sz_4, sz_5, sz_6, sz_7, sz_8, sz_9, sz_10, sz_11, sz_12, sz_13, sz_14, erR, e4, sq])
      have gc5 := ap5.get gc
      have lc5 := (List.getElem?_eq_some_iff.mp gc5).1
      show wS (cSeq (cSet 6 _) _ [some (.int (k : Nat)), some (.ref r), some (.ref t), some (.bl wq), some (.ref c), some (rowD row), x6, x7, none] h3) _
      refine wS_step (ρ' := [some (.int (k : Nat)), some (.ref r), some (.ref t), some (.bl wq), some (.ref c), some (rowD row), some (.ref m5), x7, none]) (h' := h5) (by
        rw [q_set]
        show _ = ResS.ok .nx [some (.int (k : Nat)), some (.ref r), some (.ref t), some (.bl wq), some (.ref c), some (rowD row), some (.ref m5), x7, none] h5
        have e5 : cComp [7] (cItS (cCall m__law_behind (cCons (cVar 0) (cCons (cVar 5) (cCons (cVar 2) (cNil)))))) (.nm 7) (cB (c2 gNe (cComp [8] (cItS (cVar 7)) (.nm 8) (cB (c2 gIn (cVar 8) (cVar 2))) (cVar 8)) (cC gLstD (cNil)))) (cVar 7) [some (.int (k : Nat)), some (.ref r), some (.ref t), some (.bl wq), some (.ref c), some (rowD row), x6, x7, none] h3 = _ := e5
        rw [e5, q_ofok]
        rfl) ?_
      have eF : ((bhL k row).filter fun l => decide (l.filter (fun x => decide (x ∈ T)) ≠ [])) = (bhL k row).filter (tdB T) := rfl
      rw [eF] at g5
      have lS : ((bhL k row).filter (tdB T)).length < k + 1 := Nat.lt_of_le_of_lt (List.length_filter_le _ _) q4
      have st := cn_set (wq := wq) (T := T) (R := R.take i) lS
      rw [← tk] at st
      -- the test
      have gt5 := ap5.get gt3
      have tst : ∃ h6, cOr (cNot (cTru (cVar 3))) (cB (c2 gEq (cComp [7] (cItS (cVar 6)) (.nm 7) (cB (c2 gNe (cComp [8] (cItS (cVar 7)) (.nm 8) (cB (c2 gNotIn (cVar 8) (cVar 2))) (cVar 8)) (cC gLstD (cNil)))) (cVar 7)) (cC gLstD (cNil)))) [some (.int (k : Nat)), some (.ref r), some (.ref t), some (.bl wq), some (.ref c), some (rowD row), some (.ref m5), x7, none] h5 = .ok (okW4 wq T (bhL k row)) h6 ∧ Ap h5 h6 := by
        rcases Bool.eq_false_or_eq_true wq with hwh | hwh
        · obtain ⟨h6, m6, e6, ap6, lm6, g6⟩ := lines4_w (h := h5) (h1 := h5) (op := gNotIn) (q := fun x => !decide (x ∈ T)) (k := k) (r := r) (t := t) (c := c) (m := m5) (wq := wq) (x5 := some (rowD row)) (x6 := some (.ref m5)) (x7 := x7) (ci := cItS (cVar 6)) ft .refl gt5 g5 (by omega) (fun l hl => q3 l (List.mem_filter.mp hl).1) (by omega) (fun h g x => q_ninR4 g) (by
            have sq := seqL_r g5
            generalize rowD row = RW at *
            generalize rL ((bhL k row).filter (tdB T)) = BL at *
            simp [q_bok, q_bxn, q_ofok, q_ofxn, q_vo, q_var, q_k, q_c1, q_c2, q_nil, q_cons, q_c, q_call, q_callK, pick, q_b, q_tru, q_not, q_and, q_or, q_ifE, q_andV, q_orV, q_notV, q_chain, q_seq, q_tnx, q_trt, q_txn, q_tbk, q_tct, q_skip, q_drop, q_ret, q_retN, q_bk, q_ct, q_set, q_par, q_par3, q_if, q_raise, q_mt, q_mt0, q_end0, q_endr, q_endx, q_lt, q_le, q_gt, q_ge, q_sub, q_add, q_neg, q_inti, q_intb, q_max, q_min, q_lenT, q_lenF, q_truT, q_truF, q_truB, q_truI, q_ixT, q_ixF, at_0, at_1, er_int, er_bl, er_str, er_non, er_tup, er_flst, er_ref, er_obj, er_ty, er_gl, q_lst, q_tup, q_cutT, q_pn, q_ps, q_slT, q_itS, seqL_t, sz_0, sz_1, sz_2, sz_3, sz_4, sz_5, sz_6, sz_7, sz_8, sz_9, sz_10, sz_11, sz_12, sz_13, sz_14, sq])
          have eF2 : (((bhL k row).filter (tdB T)).filter fun l => decide (l.filter (fun x => !decide (x ∈ T)) ≠ [])) = ((bhL k row).filter (tdB T)).filter (utB T) := rfl
          rw [eF2] at g6
          have gn6 : gLstD [] h6 = some (.ref h6.length, h6 ++ [(false, .lst [])]) := id rfl
          have g7 := get_new (h := h6) (p := (false, O.lst []))
          have ap7 : Ap h6 (h6 ++ [(false, O.lst [])]) := .new _
          have g67 := ap7.get g6
          refine ⟨h6 ++ [(false, .lst [])], ?_, ap6.app _⟩
          have pr : ∀ M : List (List Int), (rL M).all (pu 8) = true := fun M => List.all_eq_true.mpr fun d hd => by
            obtain ⟨l, _, rfl⟩ := List.mem_map.mp hd
            exact pu_iT 7 l
          have qe : gEq (.ref m6) (.ref h6.length) (h6 ++ [(false, .lst [])]) = some (.bl (decide (((bhL k row).filter (tdB T)).filter (utB T) = [])), h6 ++ [(false, .lst [])]) := by
            by_cases z : ((bhL k row).filter (tdB T)).filter (utB T) = []
            · rw [z] at g67
              rw [decide_eq_true z]
              exact q_eqRS g67 g7 rfl
            · rw [decide_eq_false z]
              exact q_eqRN g67 g7 (pr _) rfl fun e => z (List.map_eq_nil_iff.mp e)
          have e6 : cComp [7] (cItS (cVar 6)) (.nm 7) (cB (c2 gNe (cComp [8] (cItS (cVar 7)) (.nm 8) (cB (c2 gNotIn (cVar 8) (cVar 2))) (cVar 8)) (cC gLstD (cNil)))) (cVar 7) [some (.int (k : Nat)), some (.ref r), some (.ref t), some (.bl wq), some (.ref c), some (rowD row), some (.ref m5), x7, none] h5 = .ok (.ref m6) h6 := e6
          have eo : okW4 wq T (bhL k row) = decide (((bhL k row).filter (tdB T)).filter (utB T) = []) := by
            unfold okW4
            rw [hwh]
            simp
          rw [eo]
          unfold cOr cNot
          have t3 : cTru (cVar 3) [some (.int (k : Nat)), some (.ref r), some (.ref t), some (.bl wq), some (.ref c), some (rowD row), some (.ref m5), x7, none] h5 = .ok true h5 := by rw [hwh]; rfl
          rw [t3, q_bok, q_bok]
          simp only [Bool.not_true]
          rw [q_cb4, q_c2, e6, q_bok]
          simp only [q_c, q_nil, q_bok, gn6, q_vo, qe]
        · refine ⟨h5, ?_, .refl⟩
          have eo : okW4 wq T (bhL k row) = true := by
            unfold okW4
            rw [hwh]
            simp
          rw [eo]
          unfold cOr cNot
          have t3 : cTru (cVar 3) [some (.int (k : Nat)), some (.ref r), some (.ref t), some (.bl wq), some (.ref c), some (rowD row), some (.ref m5), x7, none] h5 = .ok false h5 := by rw [hwh]; rfl
          rw [t3, q_bok, q_bok]
          rfl
      obtain ⟨h6, e6, ap6⟩ := tst
      rw [q_if, e6, q_ofok]
      have gc6 := ap6.get gc5
      have g56 := ap6.get g5
      have kd6 : Kd c (lckL [r] h2) h6 := (kd.ap ap5).ap ap6
      by_cases ok : okW4 wq T (bhL k row) = true
      · rw [ok] at st ⊢
        rw [if_pos rfl] at st
        simp only [if_true]
        have ql := q_lenR g56
        rw [List.length_map] at ql
        generalize ((bhL k row).filter (tdB T)).length = M at *
        have gi : gIx (.ref c) (.int (M : Nat)) h6 = some (.int (cn4 wq k T (R.take i) M : Nat), h6) := by
          rw [q_ixR gc6, at_nat (d := .int (cn4 wq k T (R.take i) M : Nat)) (by
            unfold iL cnL
            rw [List.getElem?_map, List.getElem?_map, List.getElem?_range lS]
            rfl)]
        refine wS.of (f := .nx) (ρ := [some (.int (k : Nat)), some (.ref r), some (.ref t), some (.bl wq), some (.ref c), some (rowD row), some (.ref m5), x7, none]) (h := h6.set c (false, .lst (iL (cnL wq k T (R.take (i + 1)))))) ?_ ⟨_, _, _, rfl, kd6.put _, by rw [List.getElem?_set_self (List.getElem?_eq_some_iff.mp gc6).1]⟩
        have q := q_setIx4 (e := c2 gAdd (c2 gIx (cVar 4) (cC gLen (cCons (cVar 6) (cNil)))) (cK (.int 1))) (o := cVar 4) (i := cC gLen (cCons (cVar 6) (cNil))) (ρ := [some (.int (k : Nat)), some (.ref r), some (.ref t), some (.bl wq), some (.ref c), some (rowD row), some (.ref m5), x7, none]) (h := h6) (h1 := h6) (h2 := h6) (h3 := h6) (d := .int (((cn4 wq k T (R.take i) M : Nat) : Int) + 1)) (n := c) (j := M) (ds := iL (cnL wq k T (R.take i))) (by
          generalize rowD row = RW at *
          simp [q_bok, q_bxn, q_ofok, q_ofxn, q_vo, q_var, q_k, q_c1, q_c2, q_nil, q_cons, q_c, q_call, q_callK, pick, q_b, q_tru, q_not, q_and, q_or, q_ifE, q_andV, q_orV, q_notV, q_chain, q_seq, q_tnx, q_trt, q_txn, q_tbk, q_tct, q_skip, q_drop, q_ret, q_retN, q_bk, q_ct, q_set, q_par, q_par3, q_if, q_raise, q_mt, q_mt0, q_end0, q_endr, q_endx, q_lt, q_le, q_gt, q_ge, q_sub, q_add, q_neg, q_inti, q_intb, q_max, q_min, q_lenT, q_lenF, q_truT, q_truF, q_truB, q_truI, q_ixT, q_ixF, at_0, at_1, er_int, er_bl, er_str, er_non, er_tup, er_flst, er_ref, er_obj, er_ty, er_gl, q_lst, q_tup, q_cutT, q_pn, q_ps, q_slT, q_itS, seqL_t, sz_0, sz_1, sz_2, sz_3, sz_4, sz_5, sz_6, sz_7, sz_8, sz_9, sz_10, sz_11, sz_12, sz_13, sz_14, ql, gi]) rfl (by
          generalize rowD row = RW at *
          simp [q_bok, q_bxn, q_ofok, q_ofxn, q_vo, q_var, q_k, q_c1, q_c2, q_nil, q_cons, q_c, q_call, q_callK, pick, q_b, q_tru, q_not, q_and, q_or, q_ifE, q_andV, q_orV, q_notV, q_chain, q_seq, q_tnx, q_trt, q_txn, q_tbk, q_tct, q_skip, q_drop, q_ret, q_retN, q_bk, q_ct, q_set, q_par, q_par3, q_if, q_raise, q_mt, q_mt0, q_end0, q_endr, q_endx, q_lt, q_le, q_gt, q_ge, q_sub, q_add, q_neg, q_inti, q_intb, q_max, q_min, q_lenT, q_lenF, q_truT, q_truF, q_truB, q_truI, q_ixT, q_ixF, at_0, at_1, er_int, er_bl, er_str, er_non, er_tup, er_flst, er_ref, er_obj, er_ty, er_gl, q_lst, q_tup, q_cutT, q_pn, q_ps, q_slT, q_itS, seqL_t, sz_0, sz_1, sz_2, sz_3, sz_4, sz_5, sz_6, sz_7, sz_8, sz_9, sz_10, sz_11, sz_12, sz_13, sz_14, ql]) gc6 (by unfold iL cnL; rw [List.length_map, List.length_map, List.length_range]; exact lS)
        rw [q]
        have es : (iL (cnL wq k T (R.take i))).set M (.int (((cn4 wq k T (R.take i) M : Nat) : Int) + 1)) = iL (cnL wq k T (R.take (i + 1))) := by
          rw [← st]
          unfold iL
          rw [List.map_set]
        rw [es]
      · have okf : okW4 wq T (bhL k row) = false := by simpa using ok
        rw [okf] at st ⊢
        rw [if_neg Bool.false_ne_true] at st
        simp only [Bool.false_eq_true, if_false]
        refine wS.of (f := .nx) (ρ := [some (.int (k : Nat)), some (.ref r), some (.ref t), some (.bl wq), some (.ref c), some (rowD row), some (.ref m5), x7, none]) (h := h6) rfl ⟨_, _, _, rfl, kd6, ?_⟩
        rw [← st]
        exact gc6
    · rintro ρ h3 ⟨x5, x6, x7, rfl, kd, gc⟩
      rw [List.take_length] at gc
      have lr2 := (List.getElem?_eq_some_iff.mp gr2).1
      exact ⟨_, _, _, rfl, kd.unlock gr2, by rw [List.getElem?_set_ne (by omega)]; exact gc⟩
  · rintro ρ h3 ⟨x5, x6, x7, rfl, kd, gc⟩
    have ap3 : Ap h1 h3 := ((Kd.of (n := c) ap2).trans kd).isAp (by omega)
    have := ap0.len
    refine wS_ret (d := .ref c) (h' := h3) (by simp [q_bok, q_bxn, q_ofok, q_ofxn, q_vo, q_var, q_k, q_c1, q_c2, q_nil, q_cons, q_c, q_call, q_callK, pick, q_b, q_tru, q_not, q_and, q_or, q_ifE, q_andV, q_orV, q_notV, q_chain, q_seq, q_tnx, q_trt, q_txn, q_tbk, q_tct, q_skip, q_drop, q_ret, q_retN, q_bk, q_ct, q_set, q_par, q_par3, q_if, q_raise, q_mt, q_mt0, q_end0, q_endr, q_endx, q_lt, q_le, q_gt, q_ge, q_sub, q_add, q_neg, q_inti, q_intb, q_max, q_min, q_lenT, q_lenF, q_truT, q_truF, q_truB, q_truI, q_ixT, q_ixF, at_0, at_1, er_int, er_bl, er_str, er_non, er_tup, er_flst, er_ref, er_obj, er_ty, er_gl, q_lst, q_tup, q_cutT, q_pn, q_ps, q_slT, q_itS, seqL_t, sz_0, sz_1, sz_2, sz_3, sz_4, sz_5, sz_6, sz_7, sz_8, sz_9, sz_10, sz_11, sz_12, sz_13, sz_14]) ⟨c, rfl, ap0.trans ap3, by omega, gc⟩
end

end Gk

set_option Elab.async false
set_option linter.all false
set_option maxRecDepth 100000
namespace Gk
open PySem Sx
theorem nd_len4 : ∀ (n : Nat) (l : List Nat), l.Nodup → (∀ x ∈ l, x < n) → l.length ≤ n
  | 0, l, _, h => by
    cases l with
    | nil => simp
    | cons a l => exact absurd (h a (by simp)) (by omega)
  | n + 1, l, nd, h => by
    have ih := nd_len4 n (l.filter fun x => decide (x ≠ n)) (nd.sublist List.filter_sublist) fun x hx => by
      obtain ⟨h1, h2⟩ := List.mem_filter.mp hx
      have := h x h1
      have : x ≠ n := by simpa using h2
      omega
    have c : l.count n ≤ 1 := List.nodup_iff_count.mp nd n
    have e := List.length_eq_countP_add_countP (fun x => decide (x ≠ n)) (l := l)
    rw [List.countP_eq_length_filter] at e
    have e2 : l.countP (fun a => decide (¬ decide (a ≠ n) = true)) = l.count n := by
      unfold List.count
      refine List.countP_congr fun x _ => ?_
      simp
    rw [e2] at e
    omega
theorem q_or4 {a b : CT} {ρ : Rho} {h : Hc} : cOr a b ρ h = (a ρ h).bind fun x h1 => match x with | true => .ok true h1 | false => b ρ h1 := rfl
section
variable {h : Hc}
theorem lx_cd {a b : Nat × Nat} (h : lxP a b) (a6 : a.2 < 64) : cdP [((a.1 : Nat) : Int), ((a.2 : Nat) : Int)] < cdP [((b.1 : Nat) : Int), ((b.2 : Nat) : Int)] := by
  unfold lxP at h
  simp only [cdP]
  omega
theorem asc_P : ∀ {P : List (Nat × Nat)}, P.Pairwise lxP → (∀ e ∈ P, e.2 < 64) → ascP (P.map fun e => [((e.1 : Nat) : Int), ((e.2 : Nat) : Int)]) = true
  | [], _, _ => rfl
  | [_], _, _ => rfl
  | a :: b :: r, p, s => by
    have p1 := List.pairwise_cons.mp p
    have ih := asc_P p1.2 fun e he => s e (List.mem_cons_of_mem _ he)
    rw [List.map_cons] at ih
    rw [List.map_cons, List.map_cons]
    simp only [ascP, Bool.and_eq_true, decide_eq_true_eq]
    exact ⟨lx_cd (p1.1 b (List.mem_cons_self ..)) (s a (List.mem_cons_self ..)), ih⟩
theorem few_P {k : Nat} {R : List PTm} (k6 : k ≤ 6) (po : PolyS k R) : R.length < 64 := by
  have := nd_len4 49 (R.map fun e => e.1.1 * 7 + e.1.2) (List.pairwise_map.mpr (List.Pairwise.imp_of_mem (fun {a b} ha hb h => ?_) po.asc)) fun z hz => by
    obtain ⟨e, he, rfl⟩ := List.mem_map.mp hz
    have := po.pow e he
    omega
  · rw [List.length_map] at this
    omega
  · have h1 := po.pow a ha
    have h2 := po.pow b hb
    unfold lxP at h
    omega
theorem form_w {k : Nat} {R : List PTm} (k6 : k ≤ 6) (po : PolyS k R) : ∃ h', m__law_form_right [polyD R, .int (k : Nat)] h = .ok (.bl true) h' ∧ Ap h h' := by
  have sz : (2000 : Nat) < sizeLine := by decide
  have few := few_P k6 po
  suffices w : wE (m__law_form_right [polyD R, .int (k : Nat)] h) fun x h' => x = .bl true ∧ Ap h h' by
    obtain ⟨_, h', e, rfl, q⟩ := w.eq
    exact ⟨h', e, q⟩
  have erP : (polyD R).isErr = false := rfl
  unfold m__law_form_right
  refine wE_run rfl ?_
  unfold b__law_form_right
  have sqP : ∀ h : Hc, seqL (polyD R) h = some (R.map tmD, []) := fun h => seqL_t (ds := R.map tmD) (h := h)
  have isP : gIsi [polyD R, .ty "tuple"] h = some (.bl true, h) := isi_tup
  -- nothing odd
  have c1 := q_comp (vs := [3]) (ci := cItS (cVar 0)) (t := .nm 3) (tt := cOr (cB (c2 gNe (cC gLen (cCons (cVar 3) (cNil))) (cK (.int 3)))) (cB (c2 gEq (c2 gIx (cVar 3) (cK (.int 2))) (cK (.int 0))))) (e := cVar 3) (ρ := [some (polyD R), some (.int (k : Nat)), none, none, none]) (h := h) (h1 := h) (h2 := h) (l := R.map tmD) (xs := (R.filter fun _ => false).map tmD) (by
    have sq := sqP h
    generalize polyD R = PP at *
    simp [q_bok, q_bxn, q_ofok, q_ofxn, q_vo, q_var, q_k, q_c1, q_c2, q_nil, q_cons, q_c, q_call, q_callK, pick, q_b, q_tru, q_not, q_and, q_or, q_ifE, q_andV, q_orV, q_notV, q_chain, q_seq, q_tnx, q_trt, q_txn, q_tbk, q_tct, q_skip, q_drop, q_ret, q_retN, q_bk, q_ct, q_set, q_par, q_par3, q_if, q_raise, q_mt, q_mt0, q_end0, q_endr, q_endx, q_lt, q_le, q_gt, q_ge, q_sub, q_add, q_neg, q_inti, q_intb, q_max, q_min, q_lenT, q_lenF, q_truT, q_truF, q_truB, q_truI, q_ixT, q_ixF, at_0, at_1, er_int, er_bl, er_str, er_non, er_tup, er_flst, er_ref, er_obj, er_ty, er_gl, q_lst, q_tup, q_cutT, q_pn, q_ps, q_slT, q_itS, seqL_t, sz_0, sz_1, sz_2, sz_3, sz_4, sz_5, sz_6, sz_7, sz_8, sz_9, sz_10, sz_11, sz_12, sz_13, sz_14, erP, sq]) (by rw [List.length_map]; omega) (by
    refine comp_some tmD tmD (fun _ => false) R fun a ha => ⟨_, asg_nm, ?_⟩
    have nz := po.nz a ha
    have z : ¬ ((a.2 : Nat) : Int) = 0 := by omega
    have z' : ¬ a.2 = 0 := by omega
    have gl3 : ∀ x y z : D, gLen [.tup [x, y, z]] h = some (.int 3, h) := fun _ _ _ => id rfl
    have gi2 : L2.atI [D.int (a.1.1 : Nat), .int (a.1.2 : Nat), .int (a.2 : Nat)] 2 = some (.int (a.2 : Nat)) := rfl
    have erA : (D.tup [.int (a.1.1 : Nat), .int (a.1.2 : Nat), .int (a.2 : Nat)]).isErr = false := rfl
    unfold tmD
    generalize polyD R = PP at *
    constructor
    · simp [q_bok, q_bxn, q_ofok, q_ofxn, q_vo, q_var, q_k, q_c1, q_c2, q_nil, q_cons, q_c, q_call, q_callK, pick, q_b, q_tru, q_not, q_and, q_or, q_ifE, q_andV, q_orV, q_notV, q_chain, q_seq, q_tnx, q_trt, q_txn, q_tbk, q_tct, q_skip, q_drop, q_ret, q_retN, q_bk, q_ct, q_set, q_par, q_par3, q_if, q_raise, q_mt, q_mt0, q_end0, q_endr, q_endx, q_lt, q_le, q_gt, q_ge, q_sub, q_add, q_neg, q_inti, q_intb, q_max, q_min, q_lenT, q_lenF, q_truT, q_truF, q_truB, q_truI, q_ixT, q_ixF, at_0, at_1, er_int, er_bl, er_str, er_non, er_tup, er_flst, er_ref, er_obj, er_ty, er_gl, q_lst, q_tup, q_cutT, q_pn, q_ps, q_slT, q_itS, seqL_t, sz_0, sz_1, sz_2, sz_3, sz_4, sz_5, sz_6, sz_7, sz_8, sz_9, sz_10, sz_11, sz_12, sz_13, sz_14, wipeD, erA, gl3, gi2, q_neI, q_eqI, z, z']
    · simp [q_bok, q_bxn, q_ofok, q_ofxn, q_vo, q_var, q_k, q_c1, q_c2, q_nil, q_cons, q_c, q_call, q_callK, pick, q_b, q_tru, q_not, q_and, q_or, q_ifE, q_andV, q_orV, q_notV, q_chain, q_seq, q_tnx, q_trt, q_txn, q_tbk, q_tct, q_skip, q_drop, q_ret, q_retN, q_bk, q_ct, q_set, q_par, q_par3, q_if, q_raise, q_mt, q_mt0, q_end0, q_endr, q_endx, q_lt, q_le, q_gt, q_ge, q_sub, q_add, q_neg, q_inti, q_intb, q_max, q_min, q_lenT, q_lenF, q_truT, q_truF, q_truB, q_truI, q_ixT, q_ixF, at_0, at_1, er_int, er_bl, er_str, er_non, er_tup, er_flst, er_ref, er_obj, er_ty, er_gl, q_lst, q_tup, q_cutT, q_pn, q_ps, q_slT, q_itS, seqL_t, sz_0, sz_1, sz_2, sz_3, sz_4, sz_5, sz_6, sz_7, sz_8, sz_9, sz_10, sz_11, sz_12, sz_13, sz_14, wipeD, erA])
  have xe : (R.filter fun _ => false).map tmD = [] := by simp
  rw [xe] at c1
  have g1 := get_new (h := h) (p := (false, O.lst []))
  have ap1 : Ap h (h ++ [(false, O.lst [])]) := .new _
  generalize h.length = w at *
  generalize hh1 : h ++ [(false, O.lst [])] = h1 at *
  have gn : gLstD [] h1 = some (.ref h1.length, h1 ++ [(false, .lst [])]) := id rfl
  have g2 := get_new (h := h1) (p := (false, O.lst []))
  have ap2 : Ap h1 (h1 ++ [(false, O.lst [])]) := .new _
  have g12 := ap2.get g1
  have qn := q_neR (a := []) (b := []) g12 g2
  generalize h1.length = w1 at *
  generalize h1 ++ [(false, O.lst [])] = h2 at *
  refine wS_step (ρ' := [some (polyD R), some (.int (k : Nat)), none, none, none]) (h' := h2) (by
    have tt : cOr (cNot (cTru (cC gIsi (cCons (cVar 0) (cCons (cK (.ty "tuple")) (cNil)))))) (cB (c2 gNe (cComp [3] (cItS (cVar 0)) (.nm 3) (cOr (cB (c2 gNe (cC gLen (cCons (cVar 3) (cNil))) (cK (.int 3)))) (cB (c2 gEq (c2 gIx (cVar 3) (cK (.int 2))) (cK (.int 0))))) (cVar 3)) (cC gLstD (cNil)))) [some (polyD R), some (.int (k : Nat)), none, none, none] h = .ok false h2 := by
      rw [q_or4]
      have t3 : cNot (cTru (cC gIsi (cCons (cVar 0) (cCons (cK (.ty "tuple")) (cNil))))) [some (polyD R), some (.int (k : Nat)), none, none, none] h = .ok false h := by
        generalize polyD R = PP at *
        simp [q_bok, q_bxn, q_ofok, q_ofxn, q_vo, q_var, q_k, q_c1, q_c2, q_nil, q_cons, q_c, q_call, q_callK, pick, q_b, q_tru, q_not, q_and, q_or, q_ifE, q_andV, q_orV, q_notV, q_chain, q_seq, q_tnx, q_trt, q_txn, q_tbk, q_tct, q_skip, q_drop, q_ret, q_retN, q_bk, q_ct, q_set, q_par, q_par3, q_if, q_raise, q_mt, q_mt0, q_end0, q_endr, q_endx, q_lt, q_le, q_gt, q_ge, q_sub, q_add, q_neg, q_inti, q_intb, q_max, q_min, q_lenT, q_lenF, q_truT, q_truF, q_truB, q_truI, q_ixT, q_ixF, at_0, at_1, er_int, er_bl, er_str, er_non, er_tup, er_flst, er_ref, er_obj, er_ty, er_gl, q_lst, q_tup, q_cutT, q_pn, q_ps, q_slT, q_itS, seqL_t, sz_0, sz_1, sz_2, sz_3, sz_4, sz_5, sz_6, sz_7, sz_8, sz_9, sz_10, sz_11, sz_12, sz_13, sz_14, cTru, truD, erP, isP]
      rw [t3, q_bok]
      simp only []
      rw [q_cb4, q_c2, c1, q_bok]
      simp only [q_c, q_nil, q_bok, gn, q_vo, qn]
      simp
    show cIf _ _ _ [some (polyD R), some (.int (k : Nat)), none, none, none] h = _
    rw [q_if, tt, q_ofok]
    rfl) ?_
  -- the places
  have c2' := q_comp (vs := [3]) (ci := cItS (cVar 0)) (t := .nm 3) (tt := cYes) (e := cCut (cVar 3) none (some (cK (.int 2)))) (ρ := [some (polyD R), some (.int (k : Nat)), none, none, none]) (h := h2) (h1 := h2) (h2 := h2) (l := R.map tmD) (xs := R.map fun e => pkD e.1) (by
    have sq := sqP h2
    generalize polyD R = PP at *
    simp [q_bok, q_bxn, q_ofok, q_ofxn, q_vo, q_var, q_k, q_c1, q_c2, q_nil, q_cons, q_c, q_call, q_callK, pick, q_b, q_tru, q_not, q_and, q_or, q_ifE, q_andV, q_orV, q_notV, q_chain, q_seq, q_tnx, q_trt, q_txn, q_tbk, q_tct, q_skip, q_drop, q_ret, q_retN, q_bk, q_ct, q_set, q_par, q_par3, q_if, q_raise, q_mt, q_mt0, q_end0, q_endr, q_endx, q_lt, q_le, q_gt, q_ge, q_sub, q_add, q_neg, q_inti, q_intb, q_max, q_min, q_lenT, q_lenF, q_truT, q_truF, q_truB, q_truI, q_ixT, q_ixF, at_0, at_1, er_int, er_bl, er_str, er_non, er_tup, er_flst, er_ref, er_obj, er_ty, er_gl, q_lst, q_tup, q_cutT, q_pn, q_ps, q_slT, q_itS, seqL_t, sz_0, sz_1, sz_2, sz_3, sz_4, sz_5, sz_6, sz_7, sz_8, sz_9, sz_10, sz_11, sz_12, sz_13, sz_14, erP, sq]) (by rw [List.length_map]; omega) (by
    refine comp_all tmD (fun e => pkD e.1) R fun a ha => ⟨_, asg_nm, ?_⟩
    have cu : cutD [.int (a.1.1 : Nat), .int (a.1.2 : Nat), .int (a.2 : Nat)] none (some 2) = [.int (a.1.1 : Nat), .int (a.1.2 : Nat)] := id rfl
    have erA : (D.tup [.int (a.1.1 : Nat), .int (a.1.2 : Nat), .int (a.2 : Nat)]).isErr = false := rfl
    unfold tmD pkD
    generalize polyD R = PP at *
    simp [q_bok, q_bxn, q_ofok, q_ofxn, q_vo, q_var, q_k, q_c1, q_c2, q_nil, q_cons, q_c, q_call, q_callK, pick, q_b, q_tru, q_not, q_and, q_or, q_ifE, q_andV, q_orV, q_notV, q_chain, q_seq, q_tnx, q_trt, q_txn, q_tbk, q_tct, q_skip, q_drop, q_ret, q_retN, q_bk, q_ct, q_set, q_par, q_par3, q_if, q_raise, q_mt, q_mt0, q_end0, q_endr, q_endx, q_lt, q_le, q_gt, q_ge, q_sub, q_add, q_neg, q_inti, q_intb, q_max, q_min, q_lenT, q_lenF, q_truT, q_truF, q_truB, q_truI, q_ixT, q_ixF, at_0, at_1, er_int, er_bl, er_str, er_non, er_tup, er_flst, er_ref, er_obj, er_ty, er_gl, q_lst, q_tup, q_cutT, q_pn, q_ps, q_slT, q_itS, seqL_t, sz_0, sz_1, sz_2, sz_3, sz_4, sz_5, sz_6, sz_7, sz_8, sz_9, sz_10, sz_11, sz_12, sz_13, sz_14, wipeD, erA, q_cutT, cPart, q_slT, cu])
  let P := R.map fun e => e.1
  have eP : (R.map fun e => pkD e.1) = P.map pkD := by
    show _ = (R.map fun e => e.1).map pkD
    rw [List.map_map]; rfl
  have pP : P.Pairwise lxP := List.pairwise_map.mpr po.asc
  have sP : ∀ e ∈ P, e.2 ≤ e.1 ∧ e.1 ≤ k := fun e he => by
    obtain ⟨t, ht, rfl⟩ := List.mem_map.mp he
    exact ⟨po.jle t ht, (po.pow t ht).1⟩
  have lP : P.length < 64 := by show (R.map _).length < 64; rw [List.length_map]; exact few
  rw [eP] at c2'
  generalize hP : P = Q at *
  clear hP P
  have g3 := get_new (h := h2) (p := (false, O.lst (Q.map pkD)))
  have ap3 : Ap h2 (h2 ++ [(false, O.lst (Q.map pkD))]) := .new _
  generalize h2.length = w2 at *
  generalize h2 ++ [(false, O.lst (Q.map pkD))] = h3 at *
  refine wS_step (ρ' := [some (polyD R), some (.int (k : Nat)), some (.ref w2), none, none]) (h' := h3) (by
    rw [q_set, c2', q_ofok]; rfl) ?_
  -- ascending
  have rw' : rowsOf (Q.map pkD) = some (Q.map fun e => [((e.1 : Nat) : Int), ((e.2 : Nat) : Int)]) := rowsOf_p Q
  have qs : gSSP (.ref w2) h3 = some (.ref h3.length, h3 ++ [(false, .lst (Q.map pkD))]) := by
    unfold gSSP
    simp only [g3, rw']
    rw [if_pos]
    simp only [Bool.and_eq_true, Nat.blt_eq, List.length_map]
    refine ⟨⟨lP, ?_⟩, asc_P pP fun e he => by have := sP e he; omega⟩
    rw [List.all_eq_true]
    intro l hl
    obtain ⟨e, he, rfl⟩ := List.mem_map.mp hl
    have := sP e he
    unfold okPr
    simp only [Bool.and_eq_true, decide_eq_true_eq]
    omega
  have g4 := get_new (h := h3) (p := (false, O.lst (Q.map pkD)))
  have ap4 : Ap h3 (h3 ++ [(false, O.lst (Q.map pkD))]) := .new _
  have g34 := ap4.get g3
  have pr : (Q.map pkD).all (pu 8) = true := List.all_eq_true.mpr fun d hd => by
    obtain ⟨e, _, rfl⟩ := List.mem_map.mp hd
    exact pu_iT 7 [((e.1 : Nat) : Int), ((e.2 : Nat) : Int)]
  have qe := q_eqRS g34 g4 pr
  generalize h3.length = w3 at *
  generalize h3 ++ [(false, O.lst (Q.map pkD))] = h4 at *
  -- in range
  have lt4 := (List.getElem?_eq_some_iff.mp g34).1
  have c3 := q_compR (vs := [4]) (ci := cItS (cVar 2)) (t := .nm 4) (tt := cNot (cTst3 gLe gLe gLe (cK (.int 0)) (c2 gIx (cVar 4) (cK (.int 1))) (c2 gIx (cVar 4) (cK (.int 0))) (cVar 1))) (e := cVar 4) (ρ := [some (polyD R), some (.int (k : Nat)), some (.ref w2), none, none]) (h := h4) (l := Q.map pkD) (xs := (Q.filter fun _ => false).map pkD) g34 (by
    have sq := seqL_r g34
    generalize polyD R = PP at *
    generalize Q.map pkD = QQ at *
    simp [q_bok, q_bxn, q_ofok, q_ofxn, q_vo, q_var, q_k, q_c1, q_c2, q_nil, q_cons, q_c, q_call, q_callK, pick, q_b, q_tru, q_not, q_and, q_or, q_ifE, q_andV, q_orV, q_notV, q_chain, q_seq, q_tnx, q_trt, q_txn, q_tbk, q_tct, q_skip, q_drop, q_ret, q_retN, q_bk, q_ct, q_set, q_par, q_par3, q_if, q_raise, q_mt, q_mt0, q_end0, q_endr, q_endx, q_lt, q_le, q_gt, q_ge, q_sub, q_add, q_neg, q_inti, q_intb, q_max, q_min, q_lenT, q_lenF, q_truT, q_truF, q_truB, q_truI, q_ixT, q_ixF, at_0, at_1, er_int, er_bl, er_str, er_non, er_tup, er_flst, er_ref, er_obj, er_ty, er_gl, q_lst, q_tup, q_cutT, q_pn, q_ps, q_slT, q_itS, seqL_t, sz_0, sz_1, sz_2, sz_3, sz_4, sz_5, sz_6, sz_7, sz_8, sz_9, sz_10, sz_11, sz_12, sz_13, sz_14, sq]) (by rw [List.length_map]; omega) (by
    refine comp_some pkD pkD (fun _ => false) Q fun a ha => ⟨_, asg_nm, ?_⟩
    have s := sP a ha
    have i0 : L2.atI [D.int (a.1 : Nat), .int (a.2 : Nat)] 0 = some (.int (a.1 : Nat)) := rfl
    have i1 : L2.atI [D.int (a.1 : Nat), .int (a.2 : Nat)] 1 = some (.int (a.2 : Nat)) := rfl
    have erA : (D.tup [.int (a.1 : Nat), .int (a.2 : Nat)]).isErr = false := rfl
    have z1 : (0 : Int) ≤ ((a.2 : Nat) : Int) := by omega
    have z2 : ((a.2 : Nat) : Int) ≤ ((a.1 : Nat) : Int) := by omega
    have z3 : ((a.1 : Nat) : Int) ≤ ((k : Nat) : Int) := by omega
    unfold pkD
    generalize polyD R = PP at *
    generalize ((a.1 : Nat) : Int) = A1 at *
    generalize ((a.2 : Nat) : Int) = A2 at *
    generalize ((k : Nat) : Int) = KK at *
    constructor
    · simp [q_bok, q_bxn, q_ofok, q_ofxn, q_vo, q_var, q_k, q_c1, q_c2, q_nil, q_cons, q_c, q_call, q_callK, pick, q_b, q_tru, q_not, q_and, q_or, q_ifE, q_andV, q_orV, q_notV, q_chain, q_seq, q_tnx, q_trt, q_txn, q_tbk, q_tct, q_skip, q_drop, q_ret, q_retN, q_bk, q_ct, q_set, q_par, q_par3, q_if, q_raise, q_mt, q_mt0, q_end0, q_endr, q_endx, q_lt, q_le, q_gt, q_ge, q_sub, q_add, q_neg, q_inti, q_intb, q_max, q_min, q_lenT, q_lenF, q_truT, q_truF, q_truB, q_truI, q_ixT, q_ixF, at_0, at_1, er_int, er_bl, er_str, er_non, er_tup, er_flst, er_ref, er_obj, er_ty, er_gl, q_lst, q_tup, q_cutT, q_pn, q_ps, q_slT, q_itS, seqL_t, sz_0, sz_1, sz_2, sz_3, sz_4, sz_5, sz_6, sz_7, sz_8, sz_9, sz_10, sz_11, sz_12, sz_13, sz_14, wipeD, erA, cTst3, i0, i1, z1, z2, z3]
    · simp [q_bok, q_bxn, q_ofok, q_ofxn, q_vo, q_var, q_k, q_c1, q_c2, q_nil, q_cons, q_c, q_call, q_callK, pick, q_b, q_tru, q_not, q_and, q_or, q_ifE, q_andV, q_orV, q_notV, q_chain, q_seq, q_tnx, q_trt, q_txn, q_tbk, q_tct, q_skip, q_drop, q_ret, q_retN, q_bk, q_ct, q_set, q_par, q_par3, q_if, q_raise, q_mt, q_mt0, q_end0, q_endr, q_endx, q_lt, q_le, q_gt, q_ge, q_sub, q_add, q_neg, q_inti, q_intb, q_max, q_min, q_lenT, q_lenF, q_truT, q_truF, q_truB, q_truI, q_ixT, q_ixF, at_0, at_1, er_int, er_bl, er_str, er_non, er_tup, er_flst, er_ref, er_obj, er_ty, er_gl, q_lst, q_tup, q_cutT, q_pn, q_ps, q_slT, q_itS, seqL_t, sz_0, sz_1, sz_2, sz_3, sz_4, sz_5, sz_6, sz_7, sz_8, sz_9, sz_10, sz_11, sz_12, sz_13, sz_14, wipeD, erA])
  have xe3 : (Q.filter fun _ => false).map pkD = [] := by simp
  rw [xe3] at c3
  have g5 := get_new (h := h4) (p := (false, O.lst []))
  have ap5 : Ap h4 (h4 ++ [(false, O.lst [])]) := .new _
  generalize h4.length = w4 at *
  generalize h4 ++ [(false, O.lst [])] = h5 at *
  have gn5 : gLstD [] h5 = some (.ref h5.length, h5 ++ [(false, .lst [])]) := id rfl
  have g6 := get_new (h := h5) (p := (false, O.lst []))
  have ap6 : Ap h5 (h5 ++ [(false, O.lst [])]) := .new _
  have g56 := ap6.get g5
  have q5 := q_eqR (a := []) (b := []) g56 g6
  generalize h5.length = w5 at *
  generalize h5 ++ [(false, O.lst [])] = h6 at *
  refine wS_ret (d := .bl true) (h' := h6) (by
    unfold cAndV
    have t1 : c2 gEq (cVar 2) (Sx.c1 gSSP (cVar 2)) [some (polyD R), some (.int (k : Nat)), some (.ref w2), none, none] h3 = .ok (.bl true) h4 := by
      generalize polyD R = PP at *
      simp [q_bok, q_bxn, q_ofok, q_ofxn, q_vo, q_var, q_k, q_c1, q_c2, q_nil, q_cons, q_c, q_call, q_callK, pick, q_b, q_tru, q_not, q_and, q_or, q_ifE, q_andV, q_orV, q_notV, q_chain, q_seq, q_tnx, q_trt, q_txn, q_tbk, q_tct, q_skip, q_drop, q_ret, q_retN, q_bk, q_ct, q_set, q_par, q_par3, q_if, q_raise, q_mt, q_mt0, q_end0, q_endr, q_endx, q_lt, q_le, q_gt, q_ge, q_sub, q_add, q_neg, q_inti, q_intb, q_max, q_min, q_lenT, q_lenF, q_truT, q_truF, q_truB, q_truI, q_ixT, q_ixF, at_0, at_1, er_int, er_bl, er_str, er_non, er_tup, er_flst, er_ref, er_obj, er_ty, er_gl, q_lst, q_tup, q_cutT, q_pn, q_ps, q_slT, q_itS, seqL_t, sz_0, sz_1, sz_2, sz_3, sz_4, sz_5, sz_6, sz_7, sz_8, sz_9, sz_10, sz_11, sz_12, sz_13, sz_14, qs, qe]
    rw [t1, q_bok]
    simp only []
    rw [q_c2, c3, q_bok]
    simp only [q_c, q_nil, q_bok, gn5, q_vo, q5]
    rfl) ⟨rfl, ap1.trans (ap2.trans (ap3.trans (ap4.trans (ap5.trans ap6))))⟩
end

end Gk

set_option Elab.async false
set_option linter.all false
set_option maxRecDepth 100000
namespace Gk
open PySem Sx
def al4 (w : Bool) : Alw := if w = true then wh else fun _ _ => true
theorem al4_10 (w : Bool) : al4 w 1 0 = true := by cases w <;> rfl
theorem al4_11 (w : Bool) : al4 w 1 1 = true := by cases w <;> rfl
theorem td_any {T l : List Int} : tdB T l = l.any (inB T) := by
  unfold tdB
  rw [Bool.eq_iff_iff, decide_eq_true_eq, List.any_eq_true, ← List.length_pos_iff, List.length_filter_pos_iff]
theorem bh_many {k : Nat} {row : List (List Int)} {T : List Int} : ((bhL k row).filter (tdB T)).length = tcR (n4 k) row (inB T) := by
  unfold bhL tcR tcP
  rw [List.filter_append, List.length_append]
  congr 1
  · congr 1
    exact List.filter_congr fun g _ => td_any
  · rw [List.filter_map, List.length_map, List.filter_filter]
    congr 1
    refine List.filter_congr fun x _ => ?_
    rw [inR_flat]
    simp only [Function.comp]
    rw [td_any]
    simp
theorem bh_ok {w : Bool} {k : Nat} {row : List (List Int)} {T : List Int} : okW4 w T (bhL k row) = okR (al4 w) row (inB T) := by
  cases w with
  | false =>
    unfold okW4 al4 okR
    simp
  | true =>
    unfold okW4 al4 okR
    simp only [Bool.not_true, Bool.false_or, if_true]
    rw [Bool.eq_iff_iff, decide_eq_true_eq, List.all_eq_true, List.filter_filter, List.filter_eq_nil_iff]
    have key : ∀ g : List Int, (¬ (utB T g && tdB T g) = true) ↔ wh g.length (g.countP (inB T)) = true := fun g => by
      unfold wh
      rw [td_any, countP_pos_any]
      have e : utB T g = decide (g.countP (inB T) ≠ g.length) := by
        unfold utB
        rw [Bool.eq_iff_iff, decide_eq_true_eq, decide_eq_true_eq, ← List.length_pos_iff, List.length_filter_pos_iff]
        constructor
        · rintro ⟨x, hx, h⟩ z
          have := List.countP_eq_length.mp z x hx
          simp only [inB] at this
          rw [this] at h
          cases h
        · intro h
          apply Classical.byContradiction
          intro no
          refine h (List.countP_eq_length.mpr fun x hx => ?_)
          apply Classical.byContradiction
          intro z
          refine no ⟨x, hx, ?_⟩
          simp only [inB] at z ⊢
          simpa using z
      rw [e]
      simp only [Bool.and_eq_true, Bool.or_eq_true, decide_eq_true_eq]
      by_cases a : g.countP (inB T) = 0 <;> by_cases b : g.countP (inB T) = g.length <;> simp_all
    constructor
    · intro h g hg
      exact (key g).mp (h g (List.mem_append_left _ hg))
    · intro h g hg
      rcases List.mem_append.mp hg with q | q
      · exact (key g).mpr (h g q)
      · obtain ⟨x, _, rfl⟩ := List.mem_map.mp q
        refine (key [x]).mpr ?_
        unfold wh
        simp only [List.countP_cons, List.countP_nil, List.length_singleton]
        cases inB T x <;> simp
theorem bh_row {w : Bool} {k j : Nat} {row : List (List Int)} {T : List Int} : (okW4 w T (bhL k row) && decide (((bhL k row).filter (tdB T)).length = j)) = QN (al4 w) (n4 k) j (inB T) row := by
  unfold QN
  rw [bh_ok, bh_many]
def co4 (R : List PTm) (i j : Nat) : Nat := ((R.find? fun e => decide (e.1 = (i, j))).map (·.2)).getD 0
theorem co_mem {R : List PTm} (nd : (R.map (·.1)).Nodup) {e : PTm} (he : e ∈ R) : co4 R e.1.1 e.1.2 = e.2 := by
  induction R with
  | nil => cases he
  | cons a R ih =>
    rw [List.map_cons, List.nodup_cons] at nd
    unfold co4
    rw [List.find?_cons]
    by_cases c : a.1 = (e.1.1, e.1.2)
    · rw [decide_eq_true c]
      rcases List.mem_cons.mp he with z | z
      · subst z; rfl
      · exact absurd (List.mem_map.mpr ⟨e, z, c.symm⟩) nd.1
    · rw [decide_eq_false c]
      rcases List.mem_cons.mp he with z | z
      · subst z; exact absurd rfl c
      · exact ih nd.2 z
theorem co_off {R : List PTm} {i j : Nat} (h : (i, j) ∉ R.map (·.1)) : co4 R i j = 0 := by
  unfold co4
  have : (R.find? fun e => decide (e.1 = (i, j))) = none := List.find?_eq_none.mpr fun e he z => h (List.mem_map.mpr ⟨e, he, of_decide_eq_true z⟩)
  rw [this]; rfl
theorem co_pev {R : List PTm} (nd : (R.map (·.1)).Nodup) (i j : Nat) : pev (fun a b => if b = j then (if a = i then 1 else 0) else 0) R = ((co4 R i j : Nat) : Rat) := by
  induction R with
  | nil => simp [pev, co4, sR_nil]
  | cons a R ih =>
    rw [List.map_cons, List.nodup_cons] at nd
    have ih := ih nd.2
    unfold pev at ih ⊢
    rw [sR_cons, ih]
    show ((a.2 : Nat) : Rat) * (if a.1.2 = j then (if a.1.1 = i then 1 else 0) else 0) + _ = _
    by_cases c : a.1 = (i, j)
    · have c1 : a.1.1 = i := by rw [c]
      have c2 : a.1.2 = j := by rw [c]
      have z : co4 R i j = 0 := co_off (by rw [← c]; exact nd.1)
      rw [z, if_pos c2, if_pos c1]
      unfold co4
      rw [List.find?_cons, decide_eq_true c]
      simp [Rat.add_zero]
    · have e : co4 (a :: R) i j = co4 R i j := by
        unfold co4
        rw [List.find?_cons, decide_eq_false c]
      rw [e]
      by_cases c2 : a.1.2 = j
      · have c1 : ¬ a.1.1 = i := fun z => c (Prod.ext z c2)
        rw [if_pos c2, if_neg c1, Rat.mul_zero, Rat.zero_add]
      · rw [if_neg c2, Rat.mul_zero, Rat.zero_add]
theorem n4_len (k : Nat) : (n4 k).length = k := by simp [n4]
theorem n4_asc (k : Nat) : (n4 k).Pairwise (· < ·) := List.pairwise_map.mpr (List.pairwise_lt_range.imp fun h => by omega)
theorem sR_pick4 {f : Nat → Rat} {N i : Nat} (hi : i < N) : sR (List.range N) (fun k => (if k = i then f k else 0)) = f i := sR_pick hi
theorem law4_eq {w : Bool} {k i j : Nat} {p : List Int} {R : List PTm} {T : List Int} {L : List (List (List Int))} (fall : p.Pairwise (fun a b => b ≤ a)) (pos : ∀ s ∈ p, 1 ≤ s) (po : PolyS k R) (ev : ∀ φ, pev φ R = evG (al4 w) (szM k p) φ) (pm : L.Perm (groupsL (n4 k) p)) (hi : i ≤ k) (Tn : T.Nodup) (Ts : ∀ x ∈ T, x ∈ n4 k) (Tl : T.length = i) :
    co4 R i j * L.length = chN k i * cn4 w k T L j := by
  have asc := n4_asc k
  have nn : (n4 k).Nodup := asc.imp fun h => by omega
  have nd : (R.map (·.1)).Nodup := List.pairwise_map.mpr (po.asc.imp fun h e => by
    unfold lxP at h
    rw [e] at h
    omega)
  have m := chosen_main (n := n4 k) (p := p) (al := al4 w) asc fall pos (al4_10 w) (al4_11 w) (fun a => if a = i then 1 else 0) j
  have es : szs (n4 k) p = szM k p := by unfold szs; rw [n4_len]
  rw [es, ← ev, co_pev nd, n4_len] at m
  have e2 : (sR (List.range (k + 1)) fun a => ((chN k a : Nat) : Rat) * ((if a = i then 1 else 0) * ((fiN (al4 w) (n4 k) p j a : Nat) : Rat))) = sR (List.range (k + 1)) fun a => if a = i then ((chN k a : Nat) : Rat) * ((fiN (al4 w) (n4 k) p j a : Nat) : Rat) else 0 := sR_congr fun a _ => by
    by_cases c : a = i
    · rw [if_pos c, if_pos c, Rat.one_mul]
    · rw [if_neg c, if_neg c, Rat.zero_mul, Rat.mul_zero]
  rw [e2, sR_pick4 (f := fun a => ((chN k a : Nat) : Rat) * ((fiN (al4 w) (n4 k) p j a : Nat) : Rat)) (by omega)] at m
  have cT : (n4 k).countP (inB T) = i := by rw [← Tl]; exact sub_count nn Tn Ts
  have f := fi_of (al := al4 w) asc fall pos (j := j) (β := inB T)
  rw [cT] at f
  have ec : cn4 w k T L j = (groupsL (n4 k) p).countP (QN (al4 w) (n4 k) j (inB T)) := by
    unfold cn4
    rw [pm.countP_eq]
    exact List.countP_congr fun row _ => by rw [bh_row]
  rw [← f, ← ec, ← pm.length_eq, ← Rat.natCast_mul, ← Rat.natCast_mul] at m
  have := Rat.natCast_inj.mp m
  rw [← this, Nat.mul_comm]

end Gk

set_option Elab.async false
set_option linter.all false
set_option maxRecDepth 100000
namespace Gk
open PySem Sx
theorem erase_perm4 : ∀ (l : List Int) (i : Nat) (h : i < l.length), (l[i] :: l.eraseIdx i).Perm l
  | [], i, h => absurd h (by simp)
  | x :: l, 0, h => by simp
  | x :: l, i + 1, h => by
    have ih := erase_perm4 l i (by simpa using h)
    simp only [List.getElem_cons_succ, List.eraseIdx_cons_succ]
    exact (List.Perm.swap _ _ _).trans (ih.cons x)
theorem lrg4 {a : CE} {ρ : Rho} {h : Hc} {n : Nat} (e : a ρ h = .ok (.int (n : Nat)) h) (few : n ≤ 1000) : cLrg a ρ h = .ok (.ref h.length) (h ++ [(false, .lst (iL (n4 n)))]) := by
  unfold cLrg
  rw [e, q_bok]
  simp only
  have c1 : (decide (0 ≤ ((n : Nat) : Int)) && decide (((n : Nat) : Int) ≤ 1000000)) = true := by
    rw [Bool.and_eq_true, decide_eq_true_eq, decide_eq_true_eq]
    omega
  rw [if_pos c1]
  have : rgD (n : Nat) = iL (n4 n) := by
    unfold rgD iL n4
    rw [List.map_map]
    rfl
  rw [this]
theorem Go.ap4 {n : Nat} {h0 h1 h2 : Hc} (a : Go n h0 h1) (k : Ap h1 h2) : Go n h0 h2 := by
  obtain ⟨t, rfl⟩ := k
  exact a.app t
theorem ch4_le : ∀ k, k < 7 → ∀ i, i < 7 → chN k i ≤ 20 := by decide
structure Tld (k i : Nat) (T : List Int) : Prop where
  nd : T.Nodup
  sub : ∀ x ∈ T, x ∈ n4 k
  len : T.length = i
theorem tld_first {k i : Nat} (h : i ≤ k) : Tld k i (n4 i) := ⟨(n4_asc i).imp fun h => by omega, fun x hx => by
  obtain ⟨y, hy, rfl⟩ := List.mem_map.mp hx
  exact List.mem_map.mpr ⟨y, List.mem_range.mpr (by have := List.mem_range.mp hy; omega), rfl⟩, n4_len i⟩
theorem tld_drawn {k : Nat} {xs lf : List Int} (pm : (xs ++ lf).Perm (n4 k)) : Tld k xs.length xs := by
  have nd : (xs ++ lf).Nodup := pm.nodup_iff.mpr ((n4_asc k).imp fun h => by omega)
  exact ⟨(List.nodup_append.mp nd).1, fun x hx => pm.mem_iff.mp (List.mem_append_left _ hx), rfl⟩
section
variable {h : Hc}
noncomputable abbrev drw4 : CS := cIf (cB (c2 gEq (cCall m__law_take (cCons (cVar 0) (cCons (cK (.int 2)) (cNil)))) (cK (.int 0)))) (cSet 8 (cComp [12] (cItR1 (cVar 7)) (.nm 12) (cYes) (cMt isLst gPopAt (cVar 9) (cCons (cCall m__law_take (cCons (cVar 0) (cCons (cC gLen (cCons (cVar 9) (cNil))) (cNil)))) (cNil))))) (cSkip)
noncomputable abbrev cmp4 : CT := cB (c2 gNe (cComp [13] (cItR1 (c2 gAdd (cVar 1) (cK (.int 1)))) (.nm 13) (cYes) (c2 gMul (cGetD (cVar 6) (cC gTupD (cCons (cVar 7) (cCons (cVar 13) (cNil)))) (cK (.int 0))) (cC gLen (cCons (cVar 3) (cNil))))) (cComp [14] (cItS (cVar 10)) (.nm 14) (cYes) (c2 gMul (cCall m__law_choose (cCons (cVar 1) (cCons (cVar 7) (cNil)))) (cVar 14))))
noncomputable abbrev iB4 : CS := cSeq (cAsg (.tp [.nm 8, .nm 9]) (cC gTupD (cCons (cLrg (cVar 7)) (cCons (cLrg (cVar 1)) (cNil))))) (cSeq drw4 (cSeq (cSet 10 (cCall m__law_counts_of (cCons (cVar 1) (cCons (cVar 3) (cCons (cVar 8) (cCons (cVar 4) (cNil))))))) (cIf cmp4 (cRet (cK (.bl false))) (cSkip))))
theorem draw4_w {n k r m i a c : Nat} {wq : Bool} {x2 x5 x10 : Option D} (k6 : k ≤ 6) (hi : i ≤ k) (s : IsSrc h n) {h1 : Hc} (kp : Kp n h [(a, iL (n4 i)), (c, iL (n4 k))] h1) (hn : n < h.length) (ac : a ≠ c) :
    wS (drw4 [some (.ref n), some (.int (k : Nat)), x2, some (.ref r), some (.bl wq), x5, some (.ref m), some (.int (i : Nat)), some (.ref a), some (.ref c), x10, none, none, none, none] h1) fun f ρ h2 => f = .nx ∧ ∃ (a2 : Nat) (T : List Int), ρ = [some (.ref n), some (.int (k : Nat)), x2, some (.ref r), some (.bl wq), x5, some (.ref m), some (.int (i : Nat)), some (.ref a2), some (.ref c), x10, none, none, none, none] ∧ Tld k i T ∧ Kp n h [(a2, iL T)] h2 := by
  have sz : (2000 : Nat) < sizeLine := by decide
  obtain ⟨t, h2, e2, t0, t1, g2⟩ := take_go (top := 2) kp.go.src (by decide) (by decide)
  have kp2 := kp.step hn g2
  unfold drw4
  by_cases z : t = 0
  · have tt : cB (c2 gEq (cCall m__law_take (cCons (cVar 0) (cCons (cK (.int 2)) (cNil)))) (cK (.int 0))) [some (.ref n), some (.int (k : Nat)), x2, some (.ref r), some (.bl wq), x5, some (.ref m), some (.int (i : Nat)), some (.ref a), some (.ref c), x10, none, none, none, none] h1 = .ok true h2 := by
      subst z
      simp [q_bok, q_bxn, q_ofok, q_ofxn, q_vo, q_var, q_k, q_c1, q_c2, q_nil, q_cons, q_c, q_call, q_callK, pick, q_b, q_tru, q_not, q_and, q_or, q_ifE, q_andV, q_orV, q_notV, q_chain, q_seq, q_tnx, q_trt, q_txn, q_tbk, q_tct, q_skip, q_drop, q_ret, q_retN, q_bk, q_ct, q_set, q_par, q_par3, q_if, q_raise, q_mt, q_mt0, q_end0, q_endr, q_endx, q_lt, q_le, q_gt, q_ge, q_sub, q_add, q_neg, q_inti, q_intb, q_max, q_min, q_lenT, q_lenF, q_truT, q_truF, q_truB, q_truI, q_ixT, q_ixF, at_0, at_1, er_int, er_bl, er_str, er_non, er_tup, er_flst, er_ref, er_obj, er_ty, er_gl, q_lst, q_tup, q_cutT, q_pn, q_ps, q_slT, q_itS, seqL_t, sz_0, sz_1, sz_2, sz_3, sz_4, sz_5, sz_6, sz_7, sz_8, sz_9, sz_10, sz_11, sz_12, sz_13, sz_14, e2, q_eqI]
    rw [q_if, tt, q_ofok, if_pos rfl]
    have w := comp_inv (t := .nm 12) (e := cMt isLst gPopAt (cVar 9) (cCons (cCall m__law_take (cCons (cVar 0) (cCons (cC gLen (cCons (cVar 9) (cNil))) (cNil)))) (cNil))) (ρ := wipeD [some (.ref n), some (.int (k : Nat)), x2, some (.ref r), some (.bl wq), x5, some (.ref m), some (.int (i : Nat)), some (.ref a), some (.ref c), x10, none, none, none, none] [12])
      (fun l acc h5 => ∃ (j : Nat) (xs lf2 : List Int), l = ((List.range i).drop j).map (fun (i : Nat) => .int (i : Int)) ∧ j ≤ i ∧ acc = iL xs ∧ xs.length = j ∧ (xs ++ lf2).Perm (n4 k) ∧ Kp n h [(c, iL lf2)] h5) (by
        rintro dd rr acc h5 ⟨j, xs, lf2, e, hj, rfl, hx, pm2, kp5⟩
        have hj2 : j < i := by
          have := congrArg List.length e
          simp at this
          omega
        have ed : (List.range i).drop j = j :: (List.range i).drop (j + 1) := by
          rw [List.drop_eq_getElem_cons (by simpa using hj2)]
          simp
        rw [ed, List.map_cons] at e
        cases e
        have l2 := pm2.length_eq
        rw [List.length_append, n4_len] at l2
        have l0 : 0 < lf2.length := by omega
        have gL := kp5.at_ c (iL lf2) (by simp)
        have gll := q_lenR gL
        rw [List.length_map] at gll
        obtain ⟨t, h6, e6, t0, t1, g6⟩ := take_go (top := (lf2.length : Nat)) kp5.go.src (by omega) (by omega)
        obtain ⟨t, rfl⟩ := Int.eq_ofNat_of_zero_le t0
        have ht : t < lf2.length := by omega
        have kp6 := kp5.step hn g6
        have gL6 := kp6.at_ c (iL lf2) (by simp)
        have pp := q_popat (k := t) (d := .int lf2[t]) gL6 (by simp [ht]) (Nat.lt_of_lt_of_le (by omega : t < 2 ^ 5) (Nat.pow_le_pow_right (by omega) (by omega)))
        rw [erase_map] at pp
        have kp7 := kp6.put (c' := iL (lf2.eraseIdx t)) hn (by simp)
        have okl := ok_lst gL
        refine ⟨_, asg_nm, wE.of (a := .int lf2[t]) (h := h6.set c (false, .lst (iL (lf2.eraseIdx t)))) ?_ ⟨j + 1, xs ++ [lf2[t]], lf2.eraseIdx t, rfl, hj2, by simp [iL], by simp [hx], ?_, kp7⟩⟩
        · generalize h6.set c (false, O.lst (iL (lf2.eraseIdx t))) = h7 at pp
          simp [q_bok, q_bxn, q_ofok, q_ofxn, q_vo, q_var, q_k, q_c1, q_c2, q_nil, q_cons, q_c, q_call, q_callK, pick, q_b, q_tru, q_not, q_and, q_or, q_ifE, q_andV, q_orV, q_notV, q_chain, q_seq, q_tnx, q_trt, q_txn, q_tbk, q_tct, q_skip, q_drop, q_ret, q_retN, q_bk, q_ct, q_set, q_par, q_par3, q_if, q_raise, q_mt, q_mt0, q_end0, q_endr, q_endx, q_lt, q_le, q_gt, q_ge, q_sub, q_add, q_neg, q_inti, q_intb, q_max, q_min, q_lenT, q_lenF, q_truT, q_truF, q_truB, q_truI, q_ixT, q_ixF, at_0, at_1, er_int, er_bl, er_str, er_non, er_tup, er_flst, er_ref, er_obj, er_ty, er_gl, q_lst, q_tup, q_cutT, q_pn, q_ps, q_slT, q_itS, seqL_t, sz_0, sz_1, sz_2, sz_3, sz_4, sz_5, sz_6, sz_7, sz_8, sz_9, sz_10, sz_11, sz_12, sz_13, sz_14, wipeD, okl, gll, e6, pp]
        · refine List.Perm.trans ?_ pm2
          rw [List.append_assoc]
          exact List.Perm.append_left xs (erase_perm4 lf2 t ht))
    obtain ⟨ys, h5, c5, j, xs, lf2, e, hj, ea, hx, pm2, kp5⟩ := comp_w (ci := cItR1 (cVar 7)) (l := (List.range i).map fun (i : Nat) => .int (i : Int)) (h := h2) (h1 := h2) (ρ := [some (.ref n), some (.int (k : Nat)), x2, some (.ref r), some (.bl wq), x5, some (.ref m), some (.int (i : Nat)), some (.ref a), some (.ref c), x10, none, none, none, none]) (vs := [12]) (q_itR1 (by simp [q_bok, q_bxn, q_ofok, q_ofxn, q_vo, q_var, q_k, q_c1, q_c2, q_nil, q_cons, q_c, q_call, q_callK, pick, q_b, q_tru, q_not, q_and, q_or, q_ifE, q_andV, q_orV, q_notV, q_chain, q_seq, q_tnx, q_trt, q_txn, q_tbk, q_tct, q_skip, q_drop, q_ret, q_retN, q_bk, q_ct, q_set, q_par, q_par3, q_if, q_raise, q_mt, q_mt0, q_end0, q_endr, q_endx, q_lt, q_le, q_gt, q_ge, q_sub, q_add, q_neg, q_inti, q_intb, q_max, q_min, q_lenT, q_lenF, q_truT, q_truF, q_truB, q_truI, q_ixT, q_ixF, at_0, at_1, er_int, er_bl, er_str, er_non, er_tup, er_flst, er_ref, er_obj, er_ty, er_gl, q_lst, q_tup, q_cutT, q_pn, q_ps, q_slT, q_itS, seqL_t, sz_0, sz_1, sz_2, sz_3, sz_4, sz_5, sz_6, sz_7, sz_8, sz_9, sz_10, sz_11, sz_12, sz_13, sz_14]) (by omega)) (by simp; omega)
      (w ((List.range i).map fun (i : Nat) => .int (i : Int)) [] h2 ⟨0, [], n4 k, by simp, by omega, rfl, rfl, by simp, kp2.sub (by simp)⟩)
    rw [List.nil_append] at ea
    subst ea
    have ej : j = i := by
      have := congrArg List.length e
      simp at this
      omega
    have hx' : xs.length = i := by omega
    have kp6 := kp5.add (iL xs)
    refine wS.of (f := .nx) (ρ := [some (.ref n), some (.int (k : Nat)), x2, some (.ref r), some (.bl wq), x5, some (.ref m), some (.int (i : Nat)), some (.ref h5.length), some (.ref c), x10, none, none, none, none]) (h := h5 ++ [(false, .lst (iL xs))]) ?_ ⟨rfl, h5.length, xs, rfl, by rw [← hx']; exact tld_drawn pm2, kp6.sub (by simp)⟩
    rw [q_set, c5, q_ofok]
    rfl
  · have tt : cB (c2 gEq (cCall m__law_take (cCons (cVar 0) (cCons (cK (.int 2)) (cNil)))) (cK (.int 0))) [some (.ref n), some (.int (k : Nat)), x2, some (.ref r), some (.bl wq), x5, some (.ref m), some (.int (i : Nat)), some (.ref a), some (.ref c), x10, none, none, none, none] h1 = .ok false h2 := by
      simp [q_bok, q_bxn, q_ofok, q_ofxn, q_vo, q_var, q_k, q_c1, q_c2, q_nil, q_cons, q_c, q_call, q_callK, pick, q_b, q_tru, q_not, q_and, q_or, q_ifE, q_andV, q_orV, q_notV, q_chain, q_seq, q_tnx, q_trt, q_txn, q_tbk, q_tct, q_skip, q_drop, q_ret, q_retN, q_bk, q_ct, q_set, q_par, q_par3, q_if, q_raise, q_mt, q_mt0, q_end0, q_endr, q_endx, q_lt, q_le, q_gt, q_ge, q_sub, q_add, q_neg, q_inti, q_intb, q_max, q_min, q_lenT, q_lenF, q_truT, q_truF, q_truB, q_truI, q_ixT, q_ixF, at_0, at_1, er_int, er_bl, er_str, er_non, er_tup, er_flst, er_ref, er_obj, er_ty, er_gl, q_lst, q_tup, q_cutT, q_pn, q_ps, q_slT, q_itS, seqL_t, sz_0, sz_1, sz_2, sz_3, sz_4, sz_5, sz_6, sz_7, sz_8, sz_9, sz_10, sz_11, sz_12, sz_13, sz_14, e2, q_eqI, z]
    rw [q_if, tt, q_ofok, if_neg Bool.false_ne_true]
    exact wS.of (f := .nx) (ρ := [some (.ref n), some (.int (k : Nat)), x2, some (.ref r), some (.bl wq), x5, some (.ref m), some (.int (i : Nat)), some (.ref a), some (.ref c), x10, none, none, none, none]) (h := h2) rfl ⟨rfl, a, n4 i, rfl, tld_first hi, kp2.sub (by simp)⟩
theorem co_le {k : Nat} {R : List PTm} (po : PolyS k R) (i j : Nat) : co4 R i j ≤ 2 ^ k := by
  unfold co4
  cases c : R.find? fun e => decide (e.1 = (i, j)) with
  | none => simp
  | some e =>
    have := le_csum (List.mem_of_find?_eq_some c)
    exact Nat.le_trans this po.sum
theorem cmp4_w {n k r m i a c q : Nat} {wq : Bool} {x2 x5 : Option D} {R : List PTm} {L : List (List (List Int))} {T : List Int} {fl : Bool} (k6 : k ≤ 6) (hi : i ≤ k) (po : PolyS k R) (gr : h[r]? = some (fl, .lst (L.map rowD))) (LL : L.length ≤ 1000000) (gm : h[m]? = some (false, pO (R.map (·.1)) fun e => co4 R e.1 e.2)) (gq : h[q]? = some (false, .lst (iL (cnL wq k T L))))
    (eq : ∀ j, co4 R i j * L.length = chN k i * cn4 wq k T L j) :
    ∃ h', cmp4 [some (.ref n), some (.int (k : Nat)), x2, some (.ref r), some (.bl wq), x5, some (.ref m), some (.int (i : Nat)), some (.ref a), some (.ref c), some (.ref q), none, none, none, none] h = .ok false h' ∧ Ap h h' := by
  have sz : (2000 : Nat) < sizeLine := by decide
  have ql := q_lenR gr
  rw [List.length_map] at ql
  have nd : (R.map (·.1)).Nodup := List.pairwise_map.mpr (po.asc.imp fun h e => by
    unfold lxP at h
    rw [e] at h
    omega)
  have c1 := q_comp (vs := [13]) (ci := cItR1 (c2 gAdd (cVar 1) (cK (.int 1)))) (t := .nm 13) (tt := cYes) (e := c2 gMul (cGetD (cVar 6) (cC gTupD (cCons (cVar 7) (cCons (cVar 13) (cNil)))) (cK (.int 0))) (cC gLen (cCons (cVar 3) (cNil)))) (ρ := [some (.ref n), some (.int (k : Nat)), x2, some (.ref r), some (.bl wq), x5, some (.ref m), some (.int (i : Nat)), some (.ref a), some (.ref c), some (.ref q), none, none, none, none]) (h := h) (h1 := h) (h2 := h) (l := (List.range (k + 1)).map fun (j : Nat) => .int (j : Int)) (xs := (List.range (k + 1)).map fun (j : Nat) => .int ((co4 R i j * L.length : Nat) : Int)) (q_itR1 (n := k + 1) (by simp [q_bok, q_bxn, q_ofok, q_ofxn, q_vo, q_var, q_k, q_c1, q_c2, q_nil, q_cons, q_c, q_call, q_callK, pick, q_b, q_tru, q_not, q_and, q_or, q_ifE, q_andV, q_orV, q_notV, q_chain, q_seq, q_tnx, q_trt, q_txn, q_tbk, q_tct, q_skip, q_drop, q_ret, q_retN, q_bk, q_ct, q_set, q_par, q_par3, q_if, q_raise, q_mt, q_mt0, q_end0, q_endr, q_endx, q_lt, q_le, q_gt, q_ge, q_sub, q_add, q_neg, q_inti, q_intb, q_max, q_min, q_lenT, q_lenF, q_truT, q_truF, q_truB, q_truI, q_ixT, q_ixF, at_0, at_1, er_int, er_bl, er_str, er_non, er_tup, er_flst, er_ref, er_obj, er_ty, er_gl, q_lst, q_tup, q_cutT, q_pn, q_ps, q_slT, q_itS, seqL_t, sz_0, sz_1, sz_2, sz_3, sz_4, sz_5, sz_6, sz_7, sz_8, sz_9, sz_10, sz_11, sz_12, sz_13, sz_14]) (by omega)) (by rw [List.length_map, List.length_range]; omega) (by
    refine comp_all (fun (j : Nat) => D.int (j : Int)) (fun (j : Nat) => D.int ((co4 R i j * L.length : Nat) : Int)) (List.range (k + 1)) fun j _ => ⟨_, asg_nm, ?_⟩
    have dc := isDic_p gm
    have xg := xGet_p (e := (i, j)) gm
    have fk : (if (i, j) ∈ R.map (·.1) then some (D.int (co4 R i j : Nat)) else none).getD (.int 0) = D.int (co4 R i j : Nat) := by
      split
      · rfl
      · rename_i z
        rw [co_off z]; rfl
    have gg := q_getD (o := cVar 6) (e := cC gTupD (cCons (cVar 7) (cCons (cVar 13) (cNil)))) (f := cK (.int 0)) (ρ := [some (.ref n), some (.int (k : Nat)), x2, some (.ref r), some (.bl wq), x5, some (.ref m), some (.int (i : Nat)), some (.ref a), some (.ref c), some (.ref q), none, none, some (.int (j : Nat)), none]) (h := h) (h1 := h) (h2 := h) (h3 := h) (x := .ref m) (y := pkD (i, j)) (z := .int 0) rfl dc (by
      have gt2 : gTupD [.int (i : Nat), .int (j : Nat)] h = some (.tup [.int (i : Nat), .int (j : Nat)], h) := id rfl
      simp [q_bok, q_bxn, q_ofok, q_ofxn, q_vo, q_var, q_k, q_c1, q_c2, q_nil, q_cons, q_c, q_call, q_callK, pick, q_b, q_tru, q_not, q_and, q_or, q_ifE, q_andV, q_orV, q_notV, q_chain, q_seq, q_tnx, q_trt, q_txn, q_tbk, q_tct, q_skip, q_drop, q_ret, q_retN, q_bk, q_ct, q_set, q_par, q_par3, q_if, q_raise, q_mt, q_mt0, q_end0, q_endr, q_endx, q_lt, q_le, q_gt, q_ge, q_sub, q_add, q_neg, q_inti, q_intb, q_max, q_min, q_lenT, q_lenF, q_truT, q_truF, q_truB, q_truI, q_ixT, q_ixF, at_0, at_1, er_int, er_bl, er_str, er_non, er_tup, er_flst, er_ref, er_obj, er_ty, er_gl, q_tup, q_cutT, q_pn, q_ps, q_slT, q_itS, seqL_t, sz_0, sz_1, sz_2, sz_3, sz_4, sz_5, sz_6, sz_7, sz_8, sz_9, sz_10, sz_11, sz_12, sz_13, sz_14, gt2]) rfl xg
    rw [fk] at gg
    have cl := co_le po i j
    have c64 : co4 R i j ≤ 64 := Nat.le_trans cl (Nat.le_trans (Nat.pow_le_pow_right (by decide) k6) (by decide))
    have qm := q_mul (p := ((co4 R i j : Nat) : Int)) (q := ((L.length : Nat) : Int)) (h := h) (mulL (by
      unfold small64b
      simp only [Bool.and_eq_true, decide_eq_true_eq]
      omega))
    show c2 gMul _ _ [some (.ref n), some (.int (k : Nat)), x2, some (.ref r), some (.bl wq), x5, some (.ref m), some (.int (i : Nat)), some (.ref a), some (.ref c), some (.ref q), none, none, some (.int (j : Nat)), none] h = _
    rw [q_c2, gg, q_bok]
    have e3 : cC gLen (cCons (cVar 3) (cNil)) [some (.ref n), some (.int (k : Nat)), x2, some (.ref r), some (.bl wq), x5, some (.ref m), some (.int (i : Nat)), some (.ref a), some (.ref c), some (.ref q), none, none, some (.int (j : Nat)), none] h = .ok (.int (L.length : Nat)) h := by simp [q_bok, q_bxn, q_ofok, q_ofxn, q_vo, q_var, q_k, q_c1, q_c2, q_nil, q_cons, q_c, q_call, q_callK, pick, q_b, q_tru, q_not, q_and, q_or, q_ifE, q_andV, q_orV, q_notV, q_chain, q_seq, q_tnx, q_trt, q_txn, q_tbk, q_tct, q_skip, q_drop, q_ret, q_retN, q_bk, q_ct, q_set, q_par, q_par3, q_if, q_raise, q_mt, q_mt0, q_end0, q_endr, q_endx, q_lt, q_le, q_gt, q_ge, q_sub, q_add, q_neg, q_inti, q_intb, q_max, q_min, q_lenT, q_lenF, q_truT, q_truF, q_truB, q_truI, q_ixT, q_ixF, at_0, at_1, er_int, er_bl, er_str, er_non, er_tup, er_flst, er_ref, er_obj, er_ty, er_gl, q_tup, q_cutT, q_pn, q_ps, q_slT, q_itS, seqL_t, sz_0, sz_1, sz_2, sz_3, sz_4, sz_5, sz_6, sz_7, sz_8, sz_9, sz_10, sz_11, sz_12, sz_13, sz_14, ql]
    rw [e3, q_bok, qm]
    show Res.ok _ h = _
    rw [Int.natCast_mul])
  have g1 := get_new (h := h) (p := (false, O.lst ((List.range (k + 1)).map fun (j : Nat) => D.int ((co4 R i j * L.length : Nat) : Int))))
  have ap1 : Ap h (h ++ [(false, O.lst ((List.range (k + 1)).map fun (j : Nat) => D.int ((co4 R i j * L.length : Nat) : Int)))]) := .new _
  have eL : ((List.range (k + 1)).map fun (j : Nat) => D.int ((co4 R i j * L.length : Nat) : Int)) = iL ((List.range (k + 1)).map fun (j : Nat) => ((co4 R i j * L.length : Nat) : Int)) := by
    unfold iL
    rw [List.map_map]; rfl
  rw [eL] at c1 g1 ap1
  have gq1 := ap1.get gq
  generalize h.length = w1 at *
  generalize h ++ [(false, O.lst (iL ((List.range (k + 1)).map fun (j : Nat) => ((co4 R i j * L.length : Nat) : Int))))] = h1 at *
  have ch2 := q_compR (vs := [14]) (ci := cItS (cVar 10)) (t := .nm 14) (tt := cYes) (e := c2 gMul (cCall m__law_choose (cCons (cVar 1) (cCons (cVar 7) (cNil)))) (cVar 14)) (ρ := [some (.ref n), some (.int (k : Nat)), x2, some (.ref r), some (.bl wq), x5, some (.ref m), some (.int (i : Nat)), some (.ref a), some (.ref c), some (.ref q), none, none, none, none]) (h := h1) (l := (cnL wq k T L).map D.int) (xs := (cnL wq k T L).map fun x => D.int (((chN k i : Nat) : Int) * x)) gq1 (by
    have sq := seqL_r gq1
    generalize cnL wq k T L = CC at *
    simp [q_bok, q_bxn, q_ofok, q_ofxn, q_vo, q_var, q_k, q_c1, q_c2, q_nil, q_cons, q_c, q_call, q_callK, pick, q_b, q_tru, q_not, q_and, q_or, q_ifE, q_andV, q_orV, q_notV, q_chain, q_seq, q_tnx, q_trt, q_txn, q_tbk, q_tct, q_skip, q_drop, q_ret, q_retN, q_bk, q_ct, q_set, q_par, q_par3, q_if, q_raise, q_mt, q_mt0, q_end0, q_endr, q_endx, q_lt, q_le, q_gt, q_ge, q_sub, q_add, q_neg, q_inti, q_intb, q_max, q_min, q_lenT, q_lenF, q_truT, q_truF, q_truB, q_truI, q_ixT, q_ixF, at_0, at_1, er_int, er_bl, er_str, er_non, er_tup, er_flst, er_ref, er_obj, er_ty, er_gl, q_lst, q_tup, q_cutT, q_pn, q_ps, q_slT, q_itS, seqL_t, sz_0, sz_1, sz_2, sz_3, sz_4, sz_5, sz_6, sz_7, sz_8, sz_9, sz_10, sz_11, sz_12, sz_13, sz_14, sq]) (by unfold cnL; rw [List.length_map, List.length_map, List.length_range]; omega) (by
    refine comp_all D.int (fun x => D.int (((chN k i : Nat) : Int) * x)) (cnL wq k T L) fun x _ => ⟨_, asg_nm, ?_⟩
    have cw := choose4_w (h := lckL [q] h1) (s := k) (i := i) (by omega) hi
    have cl := ch4_le k (by omega) i (by omega)
    have qm := q_mul (p := ((chN k i : Nat) : Int)) (q := x) (h := lckL [q] h1) (mulL (by
      unfold small64b
      simp only [Bool.and_eq_true, decide_eq_true_eq]
      omega))
    generalize lckL [q] h1 = h2 at *
    generalize ((chN k i : Nat) : Int) = CH at *
    simp [q_bok, q_bxn, q_ofok, q_ofxn, q_vo, q_var, q_k, q_c1, q_c2, q_nil, q_cons, q_c, q_call, q_callK, pick, q_b, q_tru, q_not, q_and, q_or, q_ifE, q_andV, q_orV, q_notV, q_chain, q_seq, q_tnx, q_trt, q_txn, q_tbk, q_tct, q_skip, q_drop, q_ret, q_retN, q_bk, q_ct, q_set, q_par, q_par3, q_if, q_raise, q_mt, q_mt0, q_end0, q_endr, q_endx, q_lt, q_le, q_gt, q_ge, q_sub, q_add, q_neg, q_inti, q_intb, q_max, q_min, q_lenT, q_lenF, q_truT, q_truF, q_truB, q_truI, q_ixT, q_ixF, at_0, at_1, er_int, er_bl, er_str, er_non, er_tup, er_flst, er_ref, er_obj, er_ty, er_gl, q_lst, q_tup, q_cutT, q_pn, q_ps, q_slT, q_itS, seqL_t, sz_0, sz_1, sz_2, sz_3, sz_4, sz_5, sz_6, sz_7, sz_8, sz_9, sz_10, sz_11, sz_12, sz_13, sz_14, wipeD, cw, qm])
  have eM : ((cnL wq k T L).map fun x => D.int (((chN k i : Nat) : Int) * x)) = iL ((List.range (k + 1)).map fun (j : Nat) => ((co4 R i j * L.length : Nat) : Int)) := by
    unfold cnL iL
    rw [List.map_map, List.map_map]
    refine List.map_congr_left fun j _ => ?_
    show D.int (((chN k i : Nat) : Int) * ((cn4 wq k T L j : Nat) : Int)) = D.int ((co4 R i j * L.length : Nat) : Int)
    rw [eq j, Int.natCast_mul]
  rw [eM] at ch2
  have g2 := get_new (h := h1) (p := (false, O.lst (iL ((List.range (k + 1)).map fun (j : Nat) => ((co4 R i j * L.length : Nat) : Int)))))
  have ap2 : Ap h1 (h1 ++ [(false, O.lst (iL ((List.range (k + 1)).map fun (j : Nat) => ((co4 R i j * L.length : Nat) : Int))))]) := .new _
  have g12 := ap2.get g1
  have qe := q_neR g12 g2
  refine ⟨_, ?_, ap1.trans ap2⟩
  unfold cmp4
  rw [q_cb4, q_c2, c1, q_bok, ch2, q_bok, qe, decide_eq_true rfl]
  rfl
theorem iB4_w {n k r m i : Nat} {wq : Bool} {x2 x5 x8 x9 x10 : Option D} {R : List PTm} {L : List (List (List Int))} {p : List Int} (k6 : k ≤ 6) (hi : i ≤ k) (s : IsSrc h n) (nr : n ≠ r) (nm : n ≠ m) (po : PolyS k R) (ev : ∀ φ, pev φ R = evG (al4 wq) (szM k p) φ) (fall : p.Pairwise (fun a b => b ≤ a)) (pos : ∀ s ∈ p, 1 ≤ s) (pm : L.Perm (groupsL (n4 k) p)) (gr : h[r]? = some (false, .lst (L.map rowD))) (LL : L.length ≤ 1000000) (gm : h[m]? = some (false, pO (R.map (·.1)) fun e => co4 R e.1 e.2))
    (lt : ∀ row ∈ L, row.length ≤ 12 ∧ row.flatten.length ≤ 100 ∧ (∀ l ∈ bhL k row, l.length ≤ 100) ∧ (bhL k row).length < k + 1) :
    wS (iB4 [some (.ref n), some (.int (k : Nat)), x2, some (.ref r), some (.bl wq), x5, some (.ref m), some (.int (i : Nat)), x8, x9, x10, none, none, none, none] h) fun f ρ h' => f = .nx ∧ (∃ x8 x9 x10, ρ = [some (.ref n), some (.int (k : Nat)), x2, some (.ref r), some (.bl wq), x5, some (.ref m), some (.int (i : Nat)), x8, x9, x10, none, none, none, none]) ∧ Go n h h' := by
  have hn := s.lt
  have e8 := lrg4 (a := cVar 7) (ρ := [some (.ref n), some (.int (k : Nat)), x2, some (.ref r), some (.bl wq), x5, some (.ref m), some (.int (i : Nat)), x8, x9, x10, none, none, none, none]) (h := h) (n := i) (by simp [q_bok, q_bxn, q_ofok, q_ofxn, q_vo, q_var, q_k, q_c1, q_c2, q_nil, q_cons, q_c, q_call, q_callK, pick, q_b, q_tru, q_not, q_and, q_or, q_ifE, q_andV, q_orV, q_notV, q_chain, q_seq, q_tnx, q_trt, q_txn, q_tbk, q_tct, q_skip, q_drop, q_ret, q_retN, q_bk, q_ct, q_set, q_par, q_par3, q_if, q_raise, q_mt, q_mt0, q_end0, q_endr, q_endx, q_lt, q_le, q_gt, q_ge, q_sub, q_add, q_neg, q_inti, q_intb, q_max, q_min, q_lenT, q_lenF, q_truT, q_truF, q_truB, q_truI, q_ixT, q_ixF, at_0, at_1, er_int, er_bl, er_str, er_non, er_tup, er_flst, er_ref, er_obj, er_ty, er_gl, q_lst, q_tup, q_cutT, q_pn, q_ps, q_slT, q_itS, seqL_t, sz_0, sz_1, sz_2, sz_3, sz_4, sz_5, sz_6, sz_7, sz_8, sz_9, sz_10, sz_11, sz_12, sz_13, sz_14]) (by omega)
  have kp0 : Kp n h [] h := ⟨.refl s, by simp, by simp⟩
  have kp1 := kp0.add (iL (n4 i))
  have e9 := lrg4 (a := cVar 1) (ρ := [some (.ref n), some (.int (k : Nat)), x2, some (.ref r), some (.bl wq), x5, some (.ref m), some (.int (i : Nat)), x8, x9, x10, none, none, none, none]) (h := h ++ [(false, .lst (iL (n4 i)))]) (n := k) (by simp [q_bok, q_bxn, q_ofok, q_ofxn, q_vo, q_var, q_k, q_c1, q_c2, q_nil, q_cons, q_c, q_call, q_callK, pick, q_b, q_tru, q_not, q_and, q_or, q_ifE, q_andV, q_orV, q_notV, q_chain, q_seq, q_tnx, q_trt, q_txn, q_tbk, q_tct, q_skip, q_drop, q_ret, q_retN, q_bk, q_ct, q_set, q_par, q_par3, q_if, q_raise, q_mt, q_mt0, q_end0, q_endr, q_endx, q_lt, q_le, q_gt, q_ge, q_sub, q_add, q_neg, q_inti, q_intb, q_max, q_min, q_lenT, q_lenF, q_truT, q_truF, q_truB, q_truI, q_ixT, q_ixF, at_0, at_1, er_int, er_bl, er_str, er_non, er_tup, er_flst, er_ref, er_obj, er_ty, er_gl, q_lst, q_tup, q_cutT, q_pn, q_ps, q_slT, q_itS, seqL_t, sz_0, sz_1, sz_2, sz_3, sz_4, sz_5, sz_6, sz_7, sz_8, sz_9, sz_10, sz_11, sz_12, sz_13, sz_14]) (by omega)
  have kp2 := kp1.add (iL (n4 k))
  have ne : h.length ≠ (h ++ [(false, O.lst (iL (n4 i)))]).length := by simp
  generalize h ++ [(false, O.lst (iL (n4 i)))] = h1 at *
  generalize hl : h.length = a at *
  generalize h1.length = c at *
  generalize h1 ++ [(false, O.lst (iL (n4 k)))] = h2 at *
  unfold iB4
  refine wS_step (ρ' := [some (.ref n), some (.int (k : Nat)), x2, some (.ref r), some (.bl wq), x5, some (.ref m), some (.int (i : Nat)), some (.ref a), some (.ref c), x10, none, none, none, none]) (h' := h2) (by
    have t2 : gTupD [.ref a, .ref c] h2 = some (.tup [.ref a, .ref c], h2) := id rfl
    rw [q_asg]
    simp only [q_c, q_cons, q_nil, e8, e9, q_bok, t2, q_vo]
    rfl) ?_
  refine wS_bind2 (R := fun ρ h2 => ∃ (a2 : Nat) (T : List Int), ρ = [some (.ref n), some (.int (k : Nat)), x2, some (.ref r), some (.bl wq), x5, some (.ref m), some (.int (i : Nat)), some (.ref a2), some (.ref c), x10, none, none, none, none] ∧ Tld k i T ∧ Kp n h [(a2, iL T)] h2) ?_ ?_
  · refine (draw4_w (x10 := x10) (r := r) (m := m) (wq := wq) (x2 := x2) (x5 := x5) k6 hi s (kp2.sub (by simp)) (by omega) ne).mono fun f ρ h3 q => ?_
    obtain ⟨rfl, q⟩ := q
    exact q
  · rintro ρ h3 ⟨a2, T, rfl, tl, kp⟩
    have go := kp.go
    have gr3 := (go.keep r (List.getElem?_eq_some_iff.mp gr).1 (Ne.symm nr)).trans gr
    have gm3 := (go.keep m (List.getElem?_eq_some_iff.mp gm).1 (Ne.symm nm)).trans gm
    have gt3 := kp.at_ a2 (iL T) (by simp)
    have fa := kp.far a2 (iL T) (by simp)
    have rl := (List.getElem?_eq_some_iff.mp gr).1
    obtain ⟨h4, q, e4, ap4, lq, g4⟩ := counts4_w' (h := h3) (k := k) (r := r) (t := a2) (wq := wq) (R := L) (T := T) k6 gr3 gt3 (by omega) LL lt
    have go4 := go.ap4 ap4
    refine wS_step (ρ' := [some (.ref n), some (.int (k : Nat)), x2, some (.ref r), some (.bl wq), x5, some (.ref m), some (.int (i : Nat)), some (.ref a2), some (.ref c), some (.ref q), none, none, none, none]) (h' := h4) (by simp [q_bok, q_bxn, q_ofok, q_ofxn, q_vo, q_var, q_k, q_c1, q_c2, q_nil, q_cons, q_c, q_call, q_callK, pick, q_b, q_tru, q_not, q_and, q_or, q_ifE, q_andV, q_orV, q_notV, q_chain, q_seq, q_tnx, q_trt, q_txn, q_tbk, q_tct, q_skip, q_drop, q_ret, q_retN, q_bk, q_ct, q_set, q_par, q_par3, q_if, q_raise, q_mt, q_mt0, q_end0, q_endr, q_endx, q_lt, q_le, q_gt, q_ge, q_sub, q_add, q_neg, q_inti, q_intb, q_max, q_min, q_lenT, q_lenF, q_truT, q_truF, q_truB, q_truI, q_ixT, q_ixF, at_0, at_1, er_int, er_bl, er_str, er_non, er_tup, er_flst, er_ref, er_obj, er_ty, er_gl, q_lst, q_tup, q_cutT, q_pn, q_ps, q_slT, q_itS, seqL_t, sz_0, sz_1, sz_2, sz_3, sz_4, sz_5, sz_6, sz_7, sz_8, sz_9, sz_10, sz_11, sz_12, sz_13, sz_14, e4]) ?_
    have eq : ∀ j, co4 R i j * L.length = chN k i * cn4 wq k T L j := fun j => law4_eq fall pos po ev pm hi tl.nd tl.sub tl.len
    obtain ⟨h5, e5, ap5⟩ := cmp4_w (h := h4) (n := n) (m := m) (r := r) (i := i) (a := a2) (c := c) (q := q) (wq := wq) (x2 := x2) (x5 := x5) (T := T) k6 hi po (ap4.get gr3) LL (ap4.get gm3) g4 eq
    refine wS.of (f := .nx) (ρ := [some (.ref n), some (.int (k : Nat)), x2, some (.ref r), some (.bl wq), x5, some (.ref m), some (.int (i : Nat)), some (.ref a2), some (.ref c), some (.ref q), none, none, none, none]) (h := h5) ?_ ⟨rfl, ⟨_, _, _, rfl⟩, go4.ap4 ap5⟩
    rw [q_if, e5, q_ofok]
    rfl
end

end Gk

set_option Elab.async false
set_option linter.all false
set_option maxRecDepth 100000
namespace Gk
open PySem Sx
theorem PatV.nil : PatV [] := ⟨by simp, fun i h => by simp at h⟩
theorem PatV.snoc {p : List Int} {y : Int} (v : PatV p) (h2 : 2 ≤ y) (hl : ∀ x, p.getLast? = some x → y ≤ x) : PatV (p ++ [y]) := by
  refine ⟨fun x hx => ?_, fun i hi => ?_⟩
  · rcases List.mem_append.mp hx with z | z
    · exact v.two x z
    · rw [List.mem_singleton.mp z]; exact h2
  · have hi' : i + 1 < p.length + 1 := by simpa using hi
    by_cases c : i + 1 < p.length
    · rw [List.getElem_append_left c, List.getElem_append_left (Nat.lt_of_succ_lt c)]
      exact v.fall i c
    · have e : i + 1 = p.length := by omega
      have hi3 : i < p.length := by omega
      have z := hl p[i] (by rw [List.getLast?_eq_getElem?]; have : p.length - 1 = i := by omega
                            rw [this]; exact List.getElem?_eq_getElem hi3)
      rw [List.getElem_append_left hi3]
      simp only [e, List.getElem_concat_length]
      exact z
structure StP (n f : Nat) (h : Hc) (p : List Int) (h1 : Hc) : Prop where
  go : Go n h h1
  at_ : h1[f]? = some (false, .lst (iL p))
theorem StP.new {n f : Nat} {h h1 : Hc} {p : List Int} (s : StP n f h p h1) (l : Hc) : StP n f h p (h1 ++ l) :=
  ⟨s.go.app l, by rw [List.getElem?_append_left (List.getElem?_eq_some_iff.mp s.at_).1]; exact s.at_⟩
theorem StP.step {n f : Nat} {h h1 h2 : Hc} {p : List Int} (s : StP n f h p h1) (hf : f ≠ n) (g : Go n h1 h2) : StP n f h p h2 :=
  ⟨s.go.trans g, (g.keep f (List.getElem?_eq_some_iff.mp s.at_).1 hf).trans s.at_⟩
theorem StP.put {n f : Nat} {h h1 : Hc} {p q : List Int} (s : StP n f h p h1) (hf : h.length ≤ f) (hn : n < h.length) : StP n f h q (h1.set f (false, .lst (iL q))) :=
  ⟨s.go.put hf hn _, get_set s.at_⟩
def PatQ (n : Nat) (h : Hc) (k : Int) (r : D) (h' : Hc) : Prop := ∃ p, r = iT p ∧ PatV p ∧ p ≠ [] ∧ p.sum ≤ k ∧ p.length ≤ 100 ∧ Go n h h'
theorem pattern_ok {h : Hc} {n : Nat} {k : Int} (s : IsSrc h n) (k2 : 2 ≤ k) (k12 : k ≤ 100) : wE (m__law_pattern [.ref n, .int k] h) (PatQ n h k) := by
  have sz : (2000 : Nat) < sizeLine := by decide
  have hn := s.lt
  unfold m__law_pattern
  refine wE_run rfl ?_
  unfold b__law_pattern
  refine wS_step (ρ' := [some (.ref n), some (.int k), some (.ref h.length), some (.int k), none]) (h' := h ++ [(false, .lst [])]) (by simp [q_bok, q_bxn, q_ofok, q_ofxn, q_vo, q_var, q_k, q_c1, q_c2, q_nil, q_cons, q_c, q_call, q_callK, pick, q_b, q_tru, q_not, q_and, q_or, q_ifE, q_andV, q_orV, q_notV, q_chain, q_seq, q_tnx, q_trt, q_txn, q_tbk, q_tct, q_skip, q_drop, q_ret, q_retN, q_bk, q_ct, q_set, q_par, q_par3, q_if, q_raise, q_mt, q_mt0, q_end0, q_endr, q_endx, q_lt, q_le, q_gt, q_ge, q_sub, q_add, q_neg, q_inti, q_intb, q_max, q_min, q_lenT, q_lenF, q_truT, q_truF, q_truB, q_truI, q_ixT, q_ixF, at_0, at_1, er_int, er_bl, er_str, er_non, er_tup, er_flst, er_ref, er_obj, er_ty, er_gl, q_lst, q_tup, q_cutT, q_pn, q_ps, q_slT, q_itS, seqL_t, sz_0, sz_1, sz_2, sz_3, sz_4, sz_5, sz_6, sz_7, sz_8, sz_9, sz_10, sz_11, sz_12, sz_13, sz_14]) ?_
  refine wS_loop ?_
  refine while_inv (fun m ρ h1 => ∃ (p : List Int) (left : Int) (x : Option D), ρ = [some (.ref n), some (.int k), some (.ref h.length), some (.int left), x] ∧ StP n h.length h p h1 ∧ PatV p ∧ 0 ≤ left ∧ left + p.sum = k ∧ 2 * p.length + left ≤ k ∧ m = left.toNat) ?_ 1000 k.toNat _ _ (by omega)
    ⟨[], k, none, rfl, ⟨(Go.refl s).app _, get_new⟩, PatV.nil, by omega, by simp, by simp, rfl⟩
  rintro m ρ h1 ⟨p, left, x, rfl, st, v, l0, ls, ll, rfl⟩
  have hf : h.length ≠ n := by omega
  have nil2 : ∀ {h2 : Hc}, StP n h.length h p h2 → gEq (.ref h.length) (.ref h2.length) (h2 ++ [(false, .lst [])]) = some (.bl (decide (p = [])), h2 ++ [(false, .lst [])]) := fun {h2} st2 => q_eqR (a := p) (b := []) (st2.new _).at_ get_new
  have nil3 : ∀ {h2 : Hc}, StP n h.length h p h2 → gNe (.ref h.length) (.ref h2.length) (h2 ++ [(false, .lst [])]) = some (.bl (!decide (p = [])), h2 ++ [(false, .lst [])]) := fun {h2} st2 => q_neR (a := p) (b := []) (st2.new _).at_ get_new
  have out : ∀ {h2 : Hc}, StP n h.length h p h2 → p ≠ [] → wS (cRet (cC gTuple (cCons (cVar 2) cNil)) [some (.ref n), some (.int k), some (.ref h.length), some (.int left), x] h2) fun f _ h' => match f with
      | .nx => PatQ n h k .non h'
      | .ret d => PatQ n h k d h'
      | _ => False := fun {h2} st2 hp => wS_ret (d := iT p) (h' := h2) (by simp [q_bok, q_bxn, q_ofok, q_ofxn, q_vo, q_var, q_k, q_c1, q_c2, q_nil, q_cons, q_c, q_call, q_callK, pick, q_b, q_tru, q_not, q_and, q_or, q_ifE, q_andV, q_orV, q_notV, q_chain, q_seq, q_tnx, q_trt, q_txn, q_tbk, q_tct, q_skip, q_drop, q_ret, q_retN, q_bk, q_ct, q_set, q_par, q_par3, q_if, q_raise, q_mt, q_mt0, q_end0, q_endr, q_endx, q_lt, q_le, q_gt, q_ge, q_sub, q_add, q_neg, q_inti, q_intb, q_max, q_min, q_lenT, q_lenF, q_truT, q_truF, q_truB, q_truI, q_ixT, q_ixF, at_0, at_1, er_int, er_bl, er_str, er_non, er_tup, er_flst, er_ref, er_obj, er_ty, er_gl, q_lst, q_tup, q_cutT, q_pn, q_ps, q_slT, q_itS, seqL_t, sz_0, sz_1, sz_2, sz_3, sz_4, sz_5, sz_6, sz_7, sz_8, sz_9, sz_10, sz_11, sz_12, sz_13, sz_14, q_tupR st2.at_]) ⟨p, rfl, v, hp, by omega, by omega, st2.go⟩
  have most : ∀ {h2 : Hc}, StP n h.length h p h2 → 2 ≤ left → ∃ (M : Int) (h3 : Hc), cSet 4 (cIfE (cB (Sx.c2 gNe (cVar 2) (cC gLstD cNil))) (cC gMin (cCons (cVar 3) (cCons (Sx.c2 gIx (cVar 2) (c1 gNeg (cK (.int 1)))) cNil))) (cVar 3)) [some (.ref n), some (.int k), some (.ref h.length), some (.int left), x] h2 =
      .ok .nx [some (.ref n), some (.int k), some (.ref h.length), some (.int left), some (.int M)] h3 ∧ StP n h.length h p h3 ∧ 2 ≤ M ∧ M ≤ left ∧ ∀ y, p.getLast? = some y → M ≤ y := fun {h2} st2 l2 => by
    by_cases hp : p = []
    · subst hp
      exact ⟨left, h2 ++ [(false, .lst [])], by simp [q_bok, q_bxn, q_ofok, q_ofxn, q_vo, q_var, q_k, q_c1, q_c2, q_nil, q_cons, q_c, q_call, q_callK, pick, q_b, q_tru, q_not, q_and, q_or, q_ifE, q_andV, q_orV, q_notV, q_chain, q_seq, q_tnx, q_trt, q_txn, q_tbk, q_tct, q_skip, q_drop, q_ret, q_retN, q_bk, q_ct, q_set, q_par, q_par3, q_if, q_raise, q_mt, q_mt0, q_end0, q_endr, q_endx, q_lt, q_le, q_gt, q_ge, q_sub, q_add, q_neg, q_inti, q_intb, q_max, q_min, q_lenT, q_lenF, q_truT, q_truF, q_truB, q_truI, q_ixT, q_ixF, at_0, at_1, er_int, er_bl, er_str, er_non, er_tup, er_flst, er_ref, er_obj, er_ty, er_gl, q_lst, q_tup, q_cutT, q_pn, q_ps, q_slT, q_itS, seqL_t, sz_0, sz_1, sz_2, sz_3, sz_4, sz_5, sz_6, sz_7, sz_8, sz_9, sz_10, sz_11, sz_12, sz_13, sz_14, nil3 st2], st2.new _, l2, Int.le_refl _, by simp⟩
    · obtain ⟨y, hy⟩ : ∃ y, p.getLast? = some y := by
        cases q : p.getLast? with
        | none => exact absurd (List.getLast?_eq_none_iff.mp q) hp
        | some y => exact ⟨y, rfl⟩
      have y2 : 2 ≤ y := v.two y (List.mem_of_getLast? hy)
      have i : L2.atI (iL p) (-1) = some (.int y) := at_last (by rw [List.getLast?_map, hy]; rfl)
      refine ⟨if y < left then y else left, h2 ++ [(false, .lst [])], by simp [q_bok, q_bxn, q_ofok, q_ofxn, q_vo, q_var, q_k, q_c1, q_c2, q_nil, q_cons, q_c, q_call, q_callK, pick, q_b, q_tru, q_not, q_and, q_or, q_ifE, q_andV, q_orV, q_notV, q_chain, q_seq, q_tnx, q_trt, q_txn, q_tbk, q_tct, q_skip, q_drop, q_ret, q_retN, q_bk, q_ct, q_set, q_par, q_par3, q_if, q_raise, q_mt, q_mt0, q_end0, q_endr, q_endx, q_lt, q_le, q_gt, q_ge, q_sub, q_add, q_neg, q_inti, q_intb, q_max, q_min, q_lenT, q_lenF, q_truT, q_truF, q_truB, q_truI, q_ixT, q_ixF, at_0, at_1, er_int, er_bl, er_str, er_non, er_tup, er_flst, er_ref, er_obj, er_ty, er_gl, q_lst, q_tup, q_cutT, q_pn, q_ps, q_slT, q_itS, seqL_t, sz_0, sz_1, sz_2, sz_3, sz_4, sz_5, sz_6, sz_7, sz_8, sz_9, sz_10, sz_11, sz_12, sz_13, sz_14, nil3 st2, hp, q_ixR (st2.new _).at_, i], st2.new _, by split <;> omega, by split <;> omega, fun z hz => ?_⟩
      rw [hy] at hz; cases hz
      split <;> omega
  have body : ∀ {h2 : Hc}, StP n h.length h p h2 → 2 ≤ left → ∃ (y : Int) (z : Option D) (h3 : Hc), cSeq (cSet 4 (cIfE (cB (Sx.c2 gNe (cVar 2) (cC gLstD cNil))) (cC gMin (cCons (cVar 3) (cCons (Sx.c2 gIx (cVar 2) (c1 gNeg (cK (.int 1)))) cNil))) (cVar 3)))
      (cSeq (cDrop (cMt isLst gAppend (cVar 2) (cCons (cIfE (cB (Sx.c2 gEq (cCall m__law_take (cCons (cVar 0) (cCons (cK (.int 2)) cNil))) (cK (.int 0)))) (cK (.int 2)) (Sx.c2 gAdd (cK (.int 2)) (cCall m__law_take (cCons (cVar 0) (cCons (Sx.c2 gSub (cVar 4) (cK (.int 1))) cNil))))) cNil)))
        (cSet 3 (Sx.c2 gSub (cVar 3) (Sx.c2 gIx (cVar 2) (c1 gNeg (cK (.int 1))))))) [some (.ref n), some (.int k), some (.ref h.length), some (.int left), x] h2 =
      .ok .nx [some (.ref n), some (.int k), some (.ref h.length), some (.int (left - y)), z] h3 ∧ StP n h.length h (p ++ [y]) h3 ∧ 2 ≤ y ∧ y ≤ left ∧ PatV (p ++ [y]) := fun {h2} st2 l2 => by
    obtain ⟨M, h3, e1, st3, m2, ml, mp⟩ := most st2 l2
    obtain ⟨d1, h4, e2, _, _, g4⟩ := take_go (top := 2) st3.go.src (by decide) (by decide)
    have st4 := st3.step hf g4
    have lp : p.length < sizeLine := by omega
    by_cases c : d1 = 0
    · subst c
      have st5 := st4.put (q := p ++ [2]) (Nat.le_refl _) hn
      have i : L2.atI (iL (p ++ [2])) (-1) = some (.int 2) := at_last (by simp)
      refine ⟨2, some (.int M), h4.set h.length (false, .lst (iL (p ++ [2]))), ?_, st5, by omega, by omega, v.snoc (by omega) fun y hy => by have := mp y hy; omega⟩
      have ea : gAppend (.ref h.length) [.int 2] h4 = some (.non, h4.set h.length (false, .lst (iL (p ++ [2])))) := by rw [q_app st4.at_ (by simpa using lp)]; simp
      rw [q_seq, e1, q_tnx]
      simp [q_bok, q_bxn, q_ofok, q_ofxn, q_vo, q_var, q_k, q_c1, q_c2, q_nil, q_cons, q_c, q_call, q_callK, pick, q_b, q_tru, q_not, q_and, q_or, q_ifE, q_andV, q_orV, q_notV, q_chain, q_seq, q_tnx, q_trt, q_txn, q_tbk, q_tct, q_skip, q_drop, q_ret, q_retN, q_bk, q_ct, q_set, q_par, q_par3, q_if, q_raise, q_mt, q_mt0, q_end0, q_endr, q_endx, q_lt, q_le, q_gt, q_ge, q_sub, q_add, q_neg, q_inti, q_intb, q_max, q_min, q_lenT, q_lenF, q_truT, q_truF, q_truB, q_truI, q_ixT, q_ixF, at_0, at_1, er_int, er_bl, er_str, er_non, er_tup, er_flst, er_ref, er_obj, er_ty, er_gl, q_lst, q_tup, q_cutT, q_pn, q_ps, q_slT, q_itS, seqL_t, sz_0, sz_1, sz_2, sz_3, sz_4, sz_5, sz_6, sz_7, sz_8, sz_9, sz_10, sz_11, sz_12, sz_13, sz_14, ok_lst st3.at_, e2, q_eqI, ea, q_ixR st5.at_, i, -List.map_append]
    · obtain ⟨d2, h5, e3, z0, z1, g5⟩ := take_go (top := M - 1) g4.src (by omega) (by omega)
      have st5 := st4.step hf g5
      have st6 := st5.put (q := p ++ [2 + d2]) (Nat.le_refl _) hn
      have i : L2.atI (iL (p ++ [2 + d2])) (-1) = some (.int (2 + d2)) := at_last (by simp)
      refine ⟨2 + d2, some (.int M), h5.set h.length (false, .lst (iL (p ++ [2 + d2]))), ?_, st6, by omega, by omega, v.snoc (by omega) fun y hy => by have := mp y hy; omega⟩
      have ea : gAppend (.ref h.length) [.int (2 + d2)] h5 = some (.non, h5.set h.length (false, .lst (iL (p ++ [2 + d2])))) := by rw [q_app st5.at_ (by simpa using lp)]; simp
      rw [q_seq, e1, q_tnx]
      simp [q_bok, q_bxn, q_ofok, q_ofxn, q_vo, q_var, q_k, q_c1, q_c2, q_nil, q_cons, q_c, q_call, q_callK, pick, q_b, q_tru, q_not, q_and, q_or, q_ifE, q_andV, q_orV, q_notV, q_chain, q_seq, q_tnx, q_trt, q_txn, q_tbk, q_tct, q_skip, q_drop, q_ret, q_retN, q_bk, q_ct, q_set, q_par, q_par3, q_if, q_raise, q_mt, q_mt0, q_end0, q_endr, q_endx, q_lt, q_le, q_gt, q_ge, q_sub, q_add, q_neg, q_inti, q_intb, q_max, q_min, q_lenT, q_lenF, q_truT, q_truF, q_truB, q_truI, q_ixT, q_ixF, at_0, at_1, er_int, er_bl, er_str, er_non, er_tup, er_flst, er_ref, er_obj, er_ty, er_gl, q_lst, q_tup, q_cutT, q_pn, q_ps, q_slT, q_itS, seqL_t, sz_0, sz_1, sz_2, sz_3, sz_4, sz_5, sz_6, sz_7, sz_8, sz_9, sz_10, sz_11, sz_12, sz_13, sz_14, ok_lst st3.at_, e2, e3, c, q_eqI, ea, q_ixR st6.at_, i, -List.map_append]
  have go : ∀ {h2 : Hc}, StP n h.length h p h2 → 2 ≤ left → wS (cSeq (cSet 4 (cIfE (cB (Sx.c2 gNe (cVar 2) (cC gLstD cNil))) (cC gMin (cCons (cVar 3) (cCons (Sx.c2 gIx (cVar 2) (c1 gNeg (cK (.int 1)))) cNil))) (cVar 3)))
      (cSeq (cDrop (cMt isLst gAppend (cVar 2) (cCons (cIfE (cB (Sx.c2 gEq (cCall m__law_take (cCons (cVar 0) (cCons (cK (.int 2)) cNil))) (cK (.int 0)))) (cK (.int 2)) (Sx.c2 gAdd (cK (.int 2)) (cCall m__law_take (cCons (cVar 0) (cCons (Sx.c2 gSub (cVar 4) (cK (.int 1))) cNil))))) cNil)))
        (cSet 3 (Sx.c2 gSub (cVar 3) (Sx.c2 gIx (cVar 2) (c1 gNeg (cK (.int 1)))))))  [some (.ref n), some (.int k), some (.ref h.length), some (.int left), x] h2) fun f ρ2 h2 => match f with
      | .nx => ∃ j, j < left.toNat ∧ ∃ (p : List Int) (left : Int) (x : Option D), ρ2 = [some (.ref n), some (.int k), some (.ref h.length), some (.int left), x] ∧ StP n h.length h p h2 ∧ PatV p ∧ 0 ≤ left ∧ left + p.sum = k ∧ 2 * p.length + left ≤ k ∧ j = left.toNat
      | _ => False := fun {h2} st2 l2 => by
    obtain ⟨y, z, h3, e, st3, y2, yl, v3⟩ := body st2 l2
    refine wS.of e ⟨(left - y).toNat, by omega, p ++ [y], left - y, z, rfl, st3, v3, by omega, by simp; omega, by simp; omega, rfl⟩
  by_cases c : 2 ≤ left
  · by_cases hp : p = []
    · have e : cAnd (cB (Sx.c2 gGe (cVar 3) (cK (.int 2)))) (cOr (cB (Sx.c2 gEq (cVar 2) (cC gLstD cNil))) (cB (Sx.c2 gEq (cCall m__law_take (cCons (cVar 0) (cCons (cK (.int 3)) cNil))) (cK (.int 0))))) [some (.ref n), some (.int k), some (.ref h.length), some (.int left), x] h1 =
          .ok true (h1 ++ [(false, .lst [])]) := by simp [q_bok, q_bxn, q_ofok, q_ofxn, q_vo, q_var, q_k, q_c1, q_c2, q_nil, q_cons, q_c, q_call, q_callK, pick, q_b, q_tru, q_not, q_and, q_or, q_ifE, q_andV, q_orV, q_notV, q_chain, q_seq, q_tnx, q_trt, q_txn, q_tbk, q_tct, q_skip, q_drop, q_ret, q_retN, q_bk, q_ct, q_set, q_par, q_par3, q_if, q_raise, q_mt, q_mt0, q_end0, q_endr, q_endx, q_lt, q_le, q_gt, q_ge, q_sub, q_add, q_neg, q_inti, q_intb, q_max, q_min, q_lenT, q_lenF, q_truT, q_truF, q_truB, q_truI, q_ixT, q_ixF, at_0, at_1, er_int, er_bl, er_str, er_non, er_tup, er_flst, er_ref, er_obj, er_ty, er_gl, q_lst, q_tup, q_cutT, q_pn, q_ps, q_slT, q_itS, seqL_t, sz_0, sz_1, sz_2, sz_3, sz_4, sz_5, sz_6, sz_7, sz_8, sz_9, sz_10, sz_11, sz_12, sz_13, sz_14, c, nil2 st, hp]
      rw [e, wX_ok]
      refine (go (st.new _) c).mono fun f ρ2 h2 w => ?_
      cases f with
      | nx => exact w
      | _ => exact w.elim
    · obtain ⟨d1, h4, e2, d0, d3, g4⟩ := take_go (top := 3) (st.new [(false, .lst [])]).go.src (by decide) (by decide)
      have st4 := (st.new [(false, .lst [])]).step hf g4
      have e : cAnd (cB (Sx.c2 gGe (cVar 3) (cK (.int 2)))) (cOr (cB (Sx.c2 gEq (cVar 2) (cC gLstD cNil))) (cB (Sx.c2 gEq (cCall m__law_take (cCons (cVar 0) (cCons (cK (.int 3)) cNil))) (cK (.int 0))))) [some (.ref n), some (.int k), some (.ref h.length), some (.int left), x] h1 =
          .ok (decide (d1 = 0)) h4 := by simp [q_bok, q_bxn, q_ofok, q_ofxn, q_vo, q_var, q_k, q_c1, q_c2, q_nil, q_cons, q_c, q_call, q_callK, pick, q_b, q_tru, q_not, q_and, q_or, q_ifE, q_andV, q_orV, q_notV, q_chain, q_seq, q_tnx, q_trt, q_txn, q_tbk, q_tct, q_skip, q_drop, q_ret, q_retN, q_bk, q_ct, q_set, q_par, q_par3, q_if, q_raise, q_mt, q_mt0, q_end0, q_endr, q_endx, q_lt, q_le, q_gt, q_ge, q_sub, q_add, q_neg, q_inti, q_intb, q_max, q_min, q_lenT, q_lenF, q_truT, q_truF, q_truB, q_truI, q_ixT, q_ixF, at_0, at_1, er_int, er_bl, er_str, er_non, er_tup, er_flst, er_ref, er_obj, er_ty, er_gl, q_lst, q_tup, q_cutT, q_pn, q_ps, q_slT, q_itS, seqL_t, sz_0, sz_1, sz_2, sz_3, sz_4, sz_5, sz_6, sz_7, sz_8, sz_9, sz_10, sz_11, sz_12, sz_13, sz_14, c, nil2 st, hp, e2, q_eqI]
      rw [e, wX_ok]
      by_cases c2 : d1 = 0
      · rw [decide_eq_true c2]
        refine (go st4 c).mono fun f ρ2 h2 w => ?_
        cases f with
        | nx => exact w
        | _ => exact w.elim
      · rw [decide_eq_false c2]
        exact out st4 hp
  · have e : cAnd (cB (Sx.c2 gGe (cVar 3) (cK (.int 2)))) (cOr (cB (Sx.c2 gEq (cVar 2) (cC gLstD cNil))) (cB (Sx.c2 gEq (cCall m__law_take (cCons (cVar 0) (cCons (cK (.int 3)) cNil))) (cK (.int 0))))) [some (.ref n), some (.int k), some (.ref h.length), some (.int left), x] h1 =
        .ok false h1 := by simp [q_bok, q_bxn, q_ofok, q_ofxn, q_vo, q_var, q_k, q_c1, q_c2, q_nil, q_cons, q_c, q_call, q_callK, pick, q_b, q_tru, q_not, q_and, q_or, q_ifE, q_andV, q_orV, q_notV, q_chain, q_seq, q_tnx, q_trt, q_txn, q_tbk, q_tct, q_skip, q_drop, q_ret, q_retN, q_bk, q_ct, q_set, q_par, q_par3, q_if, q_raise, q_mt, q_mt0, q_end0, q_endr, q_endx, q_lt, q_le, q_gt, q_ge, q_sub, q_add, q_neg, q_inti, q_intb, q_max, q_min, q_lenT, q_lenF, q_truT, q_truF, q_truB, q_truI, q_ixT, q_ixF, at_0, at_1, er_int, er_bl, er_str, er_non, er_tup, er_flst, er_ref, er_obj, er_ty, er_gl, q_lst, q_tup, q_cutT, q_pn, q_ps, q_slT, q_itS, seqL_t, sz_0, sz_1, sz_2, sz_3, sz_4, sz_5, sz_6, sz_7, sz_8, sz_9, sz_10, sz_11, sz_12, sz_13, sz_14, c]
    rw [e, wX_ok]
    refine out st fun hp => ?_
    subst hp
    simp at ls
    omega

theorem poly_uniq {k : Nat} {R S : List PTm} (pr : PolyS k R) (ps : PolyS k S) (h : ∀ φ, pev φ R = pev φ S) : R = S := by
  have nd : ∀ {T : List PTm}, PolyS k T → (T.map (·.1)).Nodup := fun po => List.pairwise_map.mpr (po.asc.imp fun h e => by
    unfold lxP at h
    rw [e] at h
    omega)
  have co : ∀ i j, co4 R i j = co4 S i j := fun i j => by
    have := h fun a b => if b = j then (if a = i then 1 else 0) else 0
    rw [co_pev (nd pr), co_pev (nd ps)] at this
    exact Rat.natCast_inj.mp this
  have sub : ∀ {T U : List PTm}, PolyS k T → PolyS k U → (∀ i j, co4 T i j = co4 U i j) → ∀ e ∈ T.map (·.1), e ∈ U.map (·.1) := fun {T U} pt pu c e he => by
    obtain ⟨t, ht, rfl⟩ := List.mem_map.mp he
    have h1 := co_mem (nd pt) ht
    have h2 := pt.nz t ht
    apply Classical.byContradiction
    intro z
    have h3 := co_off (i := t.1.1) (j := t.1.2) z
    rw [← c, h1] at h3
    omega
  have keys : R.map (·.1) = S.map (·.1) := by
    refine ((List.perm_ext_iff_of_nodup (nd pr) (nd ps)).mpr fun e => ⟨sub pr ps co e, sub ps pr (fun i j => (co i j).symm) e⟩).eq_of_pairwise (le := lxP) (fun x y _ _ h1 h2 => ?_) (List.pairwise_map.mpr pr.asc) (List.pairwise_map.mpr ps.asc)
    exfalso
    unfold lxP at h1 h2
    omega
  have own : ∀ {T : List PTm}, PolyS k T → T = (T.map (·.1)).map fun e => (e, co4 T e.1 e.2) := fun {T} pt => by
    rw [List.map_map]
    conv => lhs; rw [← List.map_id T]
    refine List.map_congr_left fun t ht => ?_
    show t = (t.1, co4 T t.1.1 t.1.2)
    rw [co_mem (nd pt) ht]
  rw [own pr, own ps, keys]
  refine List.map_congr_left fun e _ => ?_
  rw [co]
theorem row_lt {k : Nat} {p : List Int} (k6 : k ≤ 6) (two : ∀ s ∈ p, 2 ≤ s) {row : List (List Int)} (r : RowP (n4 k) p row) : row.length ≤ 12 ∧ row.flatten.length ≤ 100 ∧ (∀ l ∈ bhL k row, l.length ≤ 100) ∧ (bhL k row).length < k + 1 := by
  have nn : (n4 k).Nodup := (n4_asc k).imp fun h => by omega
  have big : ∀ g ∈ row, 2 ≤ g.length := fun g hg => by
    have : (g.length : Int) ∈ p := (rev_perm r.pat).mem_iff.mpr (List.mem_map.mpr ⟨g, hg, rfl⟩)
    have := two _ this
    omega
  have ll := left_len nn r
  rw [n4_len] at ll
  have ff := flat_ge33 (T := row) fun l hl e => by have := big l hl; rw [e] at this; simp at this
  have lb : (bhL k row).length = row.length + (leftL (n4 k) row).length := by
    unfold bhL leftL
    rw [List.length_append, List.length_map]
    congr 2
    exact List.filter_congr fun x _ => by rw [inR_flat]
  refine ⟨by omega, by omega, fun l hl => ?_, by omega⟩
  unfold bhL at hl
  rcases List.mem_append.mp hl with q | q
  · have := (r.sub l q).length_le
    rw [n4_len] at this
    omega
  · obtain ⟨x, _, rfl⟩ := List.mem_map.mp q
    simp
section
variable {h : Hc}
theorem disp_pE {f : Nat × Nat → Nat} : ∀ {K : List (Nat × Nat)}, K.Nodup → dispT (pE K f) = pE K f := by
  intro K
  have gen : ∀ (K1 K2 : List (Nat × Nat)), (K1 ++ K2).Nodup → (pE K2 f).foldl (fun acc p => tPut acc p.1 p.2) (pE K1 f) = pE (K1 ++ K2) f := by
    intro K1 K2
    induction K2 generalizing K1 with
    | nil => intro _; simp [pE]
    | cons e K2 ih =>
      intro nd
      have ne : e ∉ K1 := fun z => (List.nodup_append.mp nd).2.2 e z e (by simp) rfl
      have st : tPut (pE K1 f) (pkD e) (.int (f e : Nat)) = pE (K1 ++ [e]) f := by
        rw [tPut_pk]
        unfold updK
        rw [if_neg ne]
        unfold pE
        refine List.map_congr_left fun x _ => ?_
        unfold updF
        by_cases c : x = e
        · subst c; simp
        · simp [c]
      show (pE K2 f).foldl _ (tPut (pE K1 f) (pkD e) (.int (f e : Nat))) = _
      rw [st, ih (K1 ++ [e]) (by simpa using nd)]
      simp
  intro nd
  exact gen [] K nd
theorem mapO_eq {α β : Type} {f : α → Option β} {g : α → β} : ∀ {l : List α}, (∀ a ∈ l, f a = some (g a)) → mapO f l = some (l.map g)
  | [], _ => rfl
  | a :: l, h => by
    rw [mapO, h a (by simp), mapO_eq fun x hx => h x (by simp [hx])]
    rfl
noncomputable abbrev dicE4 : CE := cC gDictX (cCons (cComp [11] (cItS (cVar 5)) (.nm 11) (cYes) (cC gTupD (cCons (cC gTupD (cCons (c2 gIx (cVar 11) (cK (.int 0))) (cCons (c2 gIx (cVar 11) (cK (.int 1))) (cNil)))) (cCons (c2 gIx (cVar 11) (cK (.int 2))) (cNil))))) (cNil))
theorem dic4_w {n k r : Nat} {p : List Int} {wq : Bool} {R : List PTm} {x6 x7 x8 x9 x10 : Option D} (k6 : k ≤ 6) (po : PolyS k R) :
    ∃ (h' : Hc) (m : Nat), dicE4 [some (.ref n), some (.int (k : Nat)), some (iT p), some (.ref r), some (.bl wq), some (polyD R), x6, x7, x8, x9, x10, none, none, none, none] h = .ok (.ref m) h' ∧ Ap h h' ∧ h.length ≤ m ∧ h'[m]? = some (false, pO (R.map (·.1)) fun e => co4 R e.1 e.2) := by
  have sz : (2000 : Nat) < sizeLine := by decide
  have few := few_P k6 po
  have nd : (R.map (·.1)).Nodup := List.pairwise_map.mpr (po.asc.imp fun h e => by
    unfold lxP at h
    rw [e] at h
    omega)
  have erP : (polyD R).isErr = false := rfl
  have cc := q_comp (vs := [11]) (ci := cItS (cVar 5)) (t := .nm 11) (tt := cYes) (e := cC gTupD (cCons (cC gTupD (cCons (c2 gIx (cVar 11) (cK (.int 0))) (cCons (c2 gIx (cVar 11) (cK (.int 1))) (cNil)))) (cCons (c2 gIx (cVar 11) (cK (.int 2))) (cNil)))) (ρ := [some (.ref n), some (.int (k : Nat)), some (iT p), some (.ref r), some (.bl wq), some (polyD R), x6, x7, x8, x9, x10, none, none, none, none]) (h := h) (h1 := h) (h2 := h) (l := R.map tmD) (xs := R.map fun e => .tup [pkD e.1, .int (e.2 : Nat)]) (by
    have sq : seqL (polyD R) h = some (R.map tmD, []) := seqL_t (ds := R.map tmD) (h := h)
    generalize polyD R = PP at *
    simp [q_bok, q_bxn, q_ofok, q_ofxn, q_vo, q_var, q_k, q_c1, q_c2, q_nil, q_cons, q_c, q_call, q_callK, pick, q_b, q_tru, q_not, q_and, q_or, q_ifE, q_andV, q_orV, q_notV, q_chain, q_seq, q_tnx, q_trt, q_txn, q_tbk, q_tct, q_skip, q_drop, q_ret, q_retN, q_bk, q_ct, q_set, q_par, q_par3, q_if, q_raise, q_mt, q_mt0, q_end0, q_endr, q_endx, q_lt, q_le, q_gt, q_ge, q_sub, q_add, q_neg, q_inti, q_intb, q_max, q_min, q_lenT, q_lenF, q_truT, q_truF, q_truB, q_truI, q_ixT, q_ixF, at_0, at_1, er_int, er_bl, er_str, er_non, er_tup, er_flst, er_ref, er_obj, er_ty, er_gl, q_lst, q_tup, q_cutT, q_pn, q_ps, q_slT, q_itS, seqL_t, sz_0, sz_1, sz_2, sz_3, sz_4, sz_5, sz_6, sz_7, sz_8, sz_9, sz_10, sz_11, sz_12, sz_13, sz_14, erP, sq]) (by rw [List.length_map]; omega) (by
    refine comp_all tmD (fun e => .tup [pkD e.1, .int (e.2 : Nat)]) R fun a _ => ⟨_, asg_nm, ?_⟩
    have gi0 : L2.atI [D.int (a.1.1 : Nat), .int (a.1.2 : Nat), .int (a.2 : Nat)] 0 = some (.int (a.1.1 : Nat)) := rfl
    have gi1 : L2.atI [D.int (a.1.1 : Nat), .int (a.1.2 : Nat), .int (a.2 : Nat)] 1 = some (.int (a.1.2 : Nat)) := rfl
    have gi2 : L2.atI [D.int (a.1.1 : Nat), .int (a.1.2 : Nat), .int (a.2 : Nat)] 2 = some (.int (a.2 : Nat)) := rfl
    have erA : (D.tup [.int (a.1.1 : Nat), .int (a.1.2 : Nat), .int (a.2 : Nat)]).isErr = false := rfl
    have t2 : ∀ x y : D, gTupD [x, y] h = some (.tup [x, y], h) := fun _ _ => id rfl
    unfold tmD pkD
    generalize polyD R = PP at *
    simp [q_bok, q_bxn, q_ofok, q_ofxn, q_vo, q_var, q_k, q_c1, q_c2, q_nil, q_cons, q_c, q_call, q_callK, pick, q_b, q_tru, q_not, q_and, q_or, q_ifE, q_andV, q_orV, q_notV, q_chain, q_seq, q_tnx, q_trt, q_txn, q_tbk, q_tct, q_skip, q_drop, q_ret, q_retN, q_bk, q_ct, q_set, q_par, q_par3, q_if, q_raise, q_mt, q_mt0, q_end0, q_endr, q_endx, q_lt, q_le, q_gt, q_ge, q_sub, q_add, q_neg, q_inti, q_intb, q_max, q_min, q_lenT, q_lenF, q_truT, q_truF, q_truB, q_truI, q_ixT, q_ixF, at_0, at_1, er_int, er_bl, er_str, er_non, er_tup, er_flst, er_ref, er_obj, er_ty, er_gl, q_lst, q_tup, q_cutT, q_pn, q_ps, q_slT, q_itS, seqL_t, sz_0, sz_1, sz_2, sz_3, sz_4, sz_5, sz_6, sz_7, sz_8, sz_9, sz_10, sz_11, sz_12, sz_13, sz_14, wipeD, erA, gi0, gi1, gi2, t2])
  have g1 := get_new (h := h) (p := (false, O.lst (R.map fun e => D.tup [pkD e.1, .int (e.2 : Nat)])))
  have ap1 : Ap h (h ++ [(false, O.lst (R.map fun e => D.tup [pkD e.1, .int (e.2 : Nat)]))]) := .new _
  have l1 : (h ++ [(false, O.lst (R.map fun e => D.tup [pkD e.1, .int (e.2 : Nat)]))]).length = h.length + 1 := by simp
  generalize hw : h.length = w at *
  generalize h ++ [(false, O.lst (R.map fun e => D.tup [pkD e.1, .int (e.2 : Nat)]))] = h1 at *
  have ne : R ≠ [] := pos_ne po.pos
  have d1 : mapO pairD (R.map fun e => D.tup [pkD e.1, .int (e.2 : Nat)]) = none := by
    cases R with
    | nil => exact absurd rfl ne
    | cons a R =>
      rw [List.map_cons, mapO]
      have : pairD (D.tup [pkD a.1, .int (a.2 : Nat)]) = none := rfl
      rw [this]
  have d2 : mapO pairT (R.map fun e => D.tup [pkD e.1, .int (e.2 : Nat)]) = some ((R.map fun e => D.tup [pkD e.1, .int (e.2 : Nat)]).map fun d => match d with | .tup [a, b] => (a, b) | d => (d, d)) := mapO_eq fun d hd => by
    obtain ⟨e, he, rfl⟩ := List.mem_map.mp hd
    obtain ⟨kt, hkt⟩ := keyT_pk e.1
    have : pairT (D.tup [pkD e.1, .int (e.2 : Nat)]) = some (pkD e.1, .int (e.2 : Nat)) := by
      unfold pairT
      simp only [hkt, Option.isSome_some, if_true]
    exact this
  have d3 : ((R.map fun e => D.tup [pkD e.1, .int (e.2 : Nat)]).map fun d => match d with | .tup [a, b] => (a, b) | d => (d, d)) = pE (R.map (·.1)) fun e => co4 R e.1 e.2 := by
    unfold pE
    rw [List.map_map, List.map_map]
    refine List.map_congr_left fun e he => ?_
    show (pkD e.1, D.int (e.2 : Nat)) = (pkD e.1, D.int (co4 R e.1.1 e.1.2 : Nat))
    rw [co_mem nd he]
  rw [d3] at d2
  have gd : gDictX [.ref w] h1 = some (.ref h1.length, h1 ++ [(false, .dcd (pE (R.map (·.1)) fun e => co4 R e.1 e.2))]) := by
    unfold gDictX
    simp only [g1, d1, d2, disp_pE nd]
  have eo : pO (R.map (·.1)) (fun e => co4 R e.1 e.2) = .dcd (pE (R.map (·.1)) fun e => co4 R e.1 e.2) := by
    unfold pO
    rw [if_neg fun z => ne (List.map_eq_nil_iff.mp z)]
  refine ⟨h1 ++ [(false, .dcd (pE (R.map (·.1)) fun e => co4 R e.1 e.2))], h1.length, ?_, ap1.app _, by omega, by rw [eo]; exact get_new⟩
  unfold dicE4
  rw [q_c, q_cons, cc, q_bok]
  simp only [q_nil, q_bok, gd]
  rfl
noncomputable abbrev wB4 : CS := cSeq (cSet 5 (cIfE (cTru (cVar 4)) (cCall m_whole (cCons (cVar 1) (cCons (cVar 2) (cNil)))) (cCallK m_touched [1, 0] (cCons (cVar 2) (cCons (cVar 1) (cNil)))))) (cSeq (cIf (cNot (cTru (cCall m__law_form_right (cCons (cVar 5) (cCons (cVar 1) (cNil)))))) (cRet (cK (.bl false))) (cSkip)) (cSeq (cSet 6 dicE4) (cFor (cItR1 (c2 gAdd (cVar 1) (cK (.int 1)))) (.nm 7) iB4)))
theorem wB4_w {n k r : Nat} {p : List Int} {wq : Bool} {L : List (List (List Int))} {x5 x6 x7 x8 x9 x10 : Option D} (k6 : k ≤ 6) (v : PatV p) (ps : p.sum ≤ k) (s : IsSrc h n) (nr : n ≠ r) (fall : p.Pairwise (fun a b => b ≤ a)) (pm : L.Perm (groupsL (n4 k) p)) (gr : h[r]? = some (false, .lst (L.map rowD))) (LL : L.length ≤ 1000000) :
    wS (wB4 [some (.ref n), some (.int (k : Nat)), some (iT p), some (.ref r), some (.bl wq), x5, x6, x7, x8, x9, x10, none, none, none, none] h) fun f ρ h' => f = .nx ∧ (∃ x5 x6 x7 x8 x9 x10, ρ = [some (.ref n), some (.int (k : Nat)), some (iT p), some (.ref r), some (.bl wq), x5, x6, x7, x8, x9, x10, none, none, none, none]) ∧ Go n h h' := by
  have sz : (2000 : Nat) < sizeLine := by decide
  have pos : ∀ s ∈ p, 1 ≤ s := fun s hs => by have := v.two s hs; omega
  have erT : (iT p).isErr = false := rfl
  obtain ⟨R, h1, e1, ap1, ev, po⟩ : ∃ R h1, cIfE (cTru (cVar 4)) (cCall m_whole (cCons (cVar 1) (cCons (cVar 2) (cNil)))) (cCallK m_touched [1, 0] (cCons (cVar 2) (cCons (cVar 1) (cNil)))) [some (.ref n), some (.int (k : Nat)), some (iT p), some (.ref r), some (.bl wq), x5, x6, x7, x8, x9, x10, none, none, none, none] h = .ok (polyD R) h1 ∧ Ap h h1 ∧ (∀ φ, pev φ R = evG (al4 wq) (szM k p) φ) ∧ PolyS k R := by
    cases wq with
    | true =>
      obtain ⟨R, h1, e1, ap1, ev, po⟩ := whole_w (h := h) (k := k) (p := p) (by omega) v ps
      refine ⟨R, h1, ?_, ap1, ev, po⟩
      have t1 : cTru (cVar 4) [some (.ref n), some (.int (k : Nat)), some (iT p), some (.ref r), some (.bl true), x5, x6, x7, x8, x9, x10, none, none, none, none] h = .ok true h := rfl
      unfold cIfE
      rw [t1, q_bok]
      generalize iT p = PP at *
      generalize polyD R = RR at *
      simp [q_bok, q_bxn, q_ofok, q_ofxn, q_vo, q_var, q_k, q_c1, q_c2, q_nil, q_cons, q_c, q_call, q_callK, pick, q_b, q_tru, q_not, q_and, q_or, q_ifE, q_andV, q_orV, q_notV, q_chain, q_seq, q_tnx, q_trt, q_txn, q_tbk, q_tct, q_skip, q_drop, q_ret, q_retN, q_bk, q_ct, q_set, q_par, q_par3, q_if, q_raise, q_mt, q_mt0, q_end0, q_endr, q_endx, q_lt, q_le, q_gt, q_ge, q_sub, q_add, q_neg, q_inti, q_intb, q_max, q_min, q_lenT, q_lenF, q_truT, q_truF, q_truB, q_truI, q_ixT, q_ixF, at_0, at_1, er_int, er_bl, er_str, er_non, er_tup, er_flst, er_ref, er_obj, er_ty, er_gl, q_tup, q_cutT, q_pn, q_ps, q_slT, q_itS, seqL_t, sz_0, sz_1, sz_2, sz_3, sz_4, sz_5, sz_6, sz_7, sz_8, sz_9, sz_10, sz_11, sz_12, sz_13, sz_14, erT, e1]
    | false =>
      obtain ⟨R, h1, e1, ap1, ev, po⟩ := touched_w (h := h) (k := k) (p := p) (by omega) v ps
      refine ⟨R, h1, ?_, ap1, ev, po⟩
      have t1 : cTru (cVar 4) [some (.ref n), some (.int (k : Nat)), some (iT p), some (.ref r), some (.bl false), x5, x6, x7, x8, x9, x10, none, none, none, none] h = .ok false h := rfl
      unfold cIfE
      rw [t1, q_bok]
      generalize iT p = PP at *
      generalize polyD R = RR at *
      simp only [q_callK, pick, q_cons, q_nil, q_var, q_k, List.getElem?_cons_succ, List.getElem?_cons_zero, er_int, erT, Bool.false_eq_true, if_false, q_bok, List.filterMap_cons, List.filterMap_nil, e1]
  unfold wB4
  refine wS_step (ρ' := [some (.ref n), some (.int (k : Nat)), some (iT p), some (.ref r), some (.bl wq), some (polyD R), x6, x7, x8, x9, x10, none, none, none, none]) (h' := h1) (by
    rw [q_set, e1, q_ofok]; rfl) ?_
  obtain ⟨h2, e2, ap2⟩ := form_w (h := h1) k6 po
  have erP : (polyD R).isErr = false := rfl
  refine wS_step (ρ' := [some (.ref n), some (.int (k : Nat)), some (iT p), some (.ref r), some (.bl wq), some (polyD R), x6, x7, x8, x9, x10, none, none, none, none]) (h' := h2) (by
    generalize polyD R = PP at *
    generalize iT p = TP at *
    simp [q_bok, q_bxn, q_ofok, q_ofxn, q_vo, q_var, q_k, q_c1, q_c2, q_nil, q_cons, q_c, q_call, q_callK, pick, q_b, q_tru, q_not, q_and, q_or, q_ifE, q_andV, q_orV, q_notV, q_chain, q_seq, q_tnx, q_trt, q_txn, q_tbk, q_tct, q_skip, q_drop, q_ret, q_retN, q_bk, q_ct, q_set, q_par, q_par3, q_if, q_raise, q_mt, q_mt0, q_end0, q_endr, q_endx, q_lt, q_le, q_gt, q_ge, q_sub, q_add, q_neg, q_inti, q_intb, q_max, q_min, q_lenT, q_lenF, q_truT, q_truF, q_truB, q_truI, q_ixT, q_ixF, at_0, at_1, er_int, er_bl, er_str, er_non, er_tup, er_flst, er_ref, er_obj, er_ty, er_gl, q_lst, q_tup, q_cutT, q_pn, q_ps, q_slT, q_itS, seqL_t, sz_0, sz_1, sz_2, sz_3, sz_4, sz_5, sz_6, sz_7, sz_8, sz_9, sz_10, sz_11, sz_12, sz_13, sz_14, erP, e2, cTru, truD]) ?_
  obtain ⟨h3, m, e3, ap3, lm, g3⟩ := dic4_w (h := h2) (n := n) (r := r) (p := p) (wq := wq) (x6 := x6) (x7 := x7) (x8 := x8) (x9 := x9) (x10 := x10) k6 po
  have lt : ∀ row ∈ L, row.length ≤ 12 ∧ row.flatten.length ≤ 100 ∧ (∀ l ∈ bhL k row, l.length ≤ 100) ∧ (bhL k row).length < k + 1 := fun row hr => row_lt k6 v.two ((groups_mem p (n4 k) (n4_asc k) fall pos row).mp (pm.mem_iff.mp hr))
  have ap13 := ap1.trans (ap2.trans ap3)
  have g0 : Go n h h3 := (Go.refl s).ap4 ap13
  have ln := s.lt
  have l12 := (ap1.trans ap2).len
  refine wS_step (ρ' := [some (.ref n), some (.int (k : Nat)), some (iT p), some (.ref r), some (.bl wq), some (polyD R), some (.ref m), x7, x8, x9, x10, none, none, none, none]) (h' := h3) (by
    rw [q_set, e3, q_ofok]; rfl) ?_
  have nm : n ≠ m := by omega
  have gr3 := ap13.get gr
  rw [q_for (l := (List.range (k + 1)).map fun (i : Nat) => .int (i : Int)) (h1 := h3) (q_itR1 (n := k + 1) (by
    generalize polyD R = PP at *
    generalize iT p = TP at *
    simp [q_bok, q_bxn, q_ofok, q_ofxn, q_vo, q_var, q_k, q_c1, q_c2, q_nil, q_cons, q_c, q_call, q_callK, pick, q_b, q_tru, q_not, q_and, q_or, q_ifE, q_andV, q_orV, q_notV, q_chain, q_seq, q_tnx, q_trt, q_txn, q_tbk, q_tct, q_skip, q_drop, q_ret, q_retN, q_bk, q_ct, q_set, q_par, q_par3, q_if, q_raise, q_mt, q_mt0, q_end0, q_endr, q_endx, q_lt, q_le, q_gt, q_ge, q_sub, q_add, q_neg, q_inti, q_intb, q_max, q_min, q_lenT, q_lenF, q_truT, q_truF, q_truB, q_truI, q_ixT, q_ixF, at_0, at_1, er_int, er_bl, er_str, er_non, er_tup, er_flst, er_ref, er_obj, er_ty, er_gl, q_lst, q_tup, q_cutT, q_pn, q_ps, q_slT, q_itS, seqL_t, sz_0, sz_1, sz_2, sz_3, sz_4, sz_5, sz_6, sz_7, sz_8, sz_9, sz_10, sz_11, sz_12, sz_13, sz_14]) (by omega))]
  refine for_ix (fun (i : Nat) => D.int (i : Int)) (List.range (k + 1)) (fun i ρ h' => (∃ x7 x8 x9 x10, ρ = [some (.ref n), some (.int (k : Nat)), some (iT p), some (.ref r), some (.bl wq), some (polyD R), some (.ref m), x7, x8, x9, x10, none, none, none, none]) ∧ Go n h3 h') ?_ ?_ ⟨⟨_, _, _, _, rfl⟩, .refl g0.src⟩
  · rintro i a ρ h4 hi ⟨⟨x7, x8, x9, x10, rfl⟩, g4⟩
    obtain ⟨rfl, ha⟩ := range_at hi
    refine ⟨_, asg_nm, ?_⟩
    have gr4 := (g4.keep r (List.getElem?_eq_some_iff.mp gr3).1 (Ne.symm nr)).trans gr3
    have gm4 := (g4.keep m (List.getElem?_eq_some_iff.mp g3).1 (Ne.symm nm)).trans g3
    refine (iB4_w (h := h4) (n := n) (k := k) (r := r) (m := m) (i := a) (wq := wq) (x2 := some (iT p)) (x5 := some (polyD R)) (x8 := x8) (x9 := x9) (x10 := x10) k6 (by omega) g4.src nr nm po ev fall pos pm gr4 LL gm4 lt).mono fun f ρ2 h5 q => ?_
    obtain ⟨rfl, ⟨y8, y9, y10, rfl⟩, g5⟩ := q
    exact ⟨⟨_, _, _, _, rfl⟩, g4.trans g5⟩
  · rintro ρ h4 ⟨⟨x7, x8, x9, x10, rfl⟩, g4⟩
    exact ⟨rfl, ⟨_, _, _, _, _, _, rfl⟩, g0.trans g4⟩
theorem pat4_w {n k : Nat} (k6 : k ≤ 6) (s : IsSrc h n) {x2 x3 x4 x5 x6 x7 x8 x9 x10 : Option D} : ∃ (p : List Int) (h' : Hc), cIfE (cAnd (cB (c2 gGt (cVar 1) (cK (.int 1)))) (cB (c2 gGt (cCall m__law_take (cCons (cVar 0) (cCons (cK (.int 8)) (cNil)))) (cK (.int 0))))) (cCall m__law_pattern (cCons (cVar 0) (cCons (cVar 1) (cNil)))) (cC gTupD (cNil)) [some (.ref n), some (.int (k : Nat)), x2, x3, x4, x5, x6, x7, x8, x9, x10, none, none, none, none] h = .ok (iT p) h' ∧ PatV p ∧ p.sum ≤ k ∧ Go n h h' := by
  by_cases c : 1 < k
  · obtain ⟨t, h2, e2, t0, t1, g2⟩ := take_go (top := 8) s (by decide) (by decide)
    have c' : (1 : Int) < ((k : Nat) : Int) := by omega
    by_cases z : 0 < t
    · obtain ⟨_, h3, e3, p, rfl, v, pn, ps, pl, g3⟩ := (pattern_ok (h := h2) (k := ((k : Nat) : Int)) g2.src (by omega) (by omega)).eq
      refine ⟨p, h3, ?_, v, ps, g2.trans g3⟩
      generalize ((k : Nat) : Int) = KK at *
      unfold cIfE cAnd
      simp [q_bok, q_bxn, q_ofok, q_ofxn, q_vo, q_var, q_k, q_c1, q_c2, q_nil, q_cons, q_c, q_call, q_callK, pick, q_b, q_tru, q_not, q_and, q_or, q_ifE, q_andV, q_orV, q_notV, q_chain, q_seq, q_tnx, q_trt, q_txn, q_tbk, q_tct, q_skip, q_drop, q_ret, q_retN, q_bk, q_ct, q_set, q_par, q_par3, q_if, q_raise, q_mt, q_mt0, q_end0, q_endr, q_endx, q_lt, q_le, q_gt, q_ge, q_sub, q_add, q_neg, q_inti, q_intb, q_max, q_min, q_lenT, q_lenF, q_truT, q_truF, q_truB, q_truI, q_ixT, q_ixF, at_0, at_1, er_int, er_bl, er_str, er_non, er_tup, er_flst, er_ref, er_obj, er_ty, er_gl, q_lst, q_tup, q_cutT, q_pn, q_ps, q_slT, q_itS, seqL_t, sz_0, sz_1, sz_2, sz_3, sz_4, sz_5, sz_6, sz_7, sz_8, sz_9, sz_10, sz_11, sz_12, sz_13, sz_14, c', e2, z, e3]
    · refine ⟨[], h2, ?_, ⟨by simp, fun i h => by simp at h⟩, by simp, g2⟩
      have t2 : gTupD [] h2 = some (iT [], h2) := id rfl
      generalize ((k : Nat) : Int) = KK at *
      unfold cIfE cAnd
      simp [q_bok, q_bxn, q_ofok, q_ofxn, q_vo, q_var, q_k, q_c1, q_c2, q_nil, q_cons, q_c, q_call, q_callK, pick, q_b, q_tru, q_not, q_and, q_or, q_ifE, q_andV, q_orV, q_notV, q_chain, q_seq, q_tnx, q_trt, q_txn, q_tbk, q_tct, q_skip, q_drop, q_ret, q_retN, q_bk, q_ct, q_set, q_par, q_par3, q_if, q_raise, q_mt, q_mt0, q_end0, q_endr, q_endx, q_lt, q_le, q_gt, q_ge, q_sub, q_add, q_neg, q_inti, q_intb, q_max, q_min, q_lenT, q_lenF, q_truT, q_truF, q_truB, q_truI, q_ixT, q_ixF, at_0, at_1, er_int, er_bl, er_str, er_non, er_tup, er_flst, er_ref, er_obj, er_ty, er_gl, q_lst, q_tup, q_cutT, q_pn, q_ps, q_slT, q_itS, seqL_t, sz_0, sz_1, sz_2, sz_3, sz_4, sz_5, sz_6, sz_7, sz_8, sz_9, sz_10, sz_11, sz_12, sz_13, sz_14, c', e2, z, t2]
  · refine ⟨[], h, ?_, ⟨by simp, fun i h => by simp at h⟩, by simp, .refl s⟩
    have c' : ¬ (1 : Int) < ((k : Nat) : Int) := by omega
    have t2 : gTupD [] h = some (iT [], h) := id rfl
    generalize ((k : Nat) : Int) = KK at *
    unfold cIfE cAnd
    simp [q_bok, q_bxn, q_ofok, q_ofxn, q_vo, q_var, q_k, q_c1, q_c2, q_nil, q_cons, q_c, q_call, q_callK, pick, q_b, q_tru, q_not, q_and, q_or, q_ifE, q_andV, q_orV, q_notV, q_chain, q_seq, q_tnx, q_trt, q_txn, q_tbk, q_tct, q_skip, q_drop, q_ret, q_retN, q_bk, q_ct, q_set, q_par, q_par3, q_if, q_raise, q_mt, q_mt0, q_end0, q_endr, q_endx, q_lt, q_le, q_gt, q_ge, q_sub, q_add, q_neg, q_inti, q_intb, q_max, q_min, q_lenT, q_lenF, q_truT, q_truF, q_truB, q_truI, q_ixT, q_ixF, at_0, at_1, er_int, er_bl, er_str, er_non, er_tup, er_flst, er_ref, er_obj, er_ty, er_gl, q_lst, q_tup, q_cutT, q_pn, q_ps, q_slT, q_itS, seqL_t, sz_0, sz_1, sz_2, sz_3, sz_4, sz_5, sz_6, sz_7, sz_8, sz_9, sz_10, sz_11, sz_12, sz_13, sz_14, c', t2]
theorem right4_w {n : Nat} (s : IsSrc h n) : wE (m__law_right [.ref n] h) fun r _ => r = .bl true := by
  have sz : (2000 : Nat) < sizeLine := by decide
  have hn := s.lt
  unfold m__law_right
  refine wE_run rfl ?_
  unfold b__law_right
  -- how many lines
  have ga : Go n h (h ++ [(false, .lst (iL [4, 5, 3, 6, 2, 1, 0]))]) := (Go.refl s).app _
  obtain ⟨d, h1, e1, q, g1⟩ := one_go (x := .ref h.length) (ds := iL [4, 5, 3, 6, 2, 1, 0]) ga.src (by simp only [asSeq, get_new]) (by simp; omega) rfl (by simp) (by simp)
  obtain ⟨k, rfl, k6⟩ : ∃ k : Nat, d = .int (k : Nat) ∧ k ≤ 6 := by
    obtain ⟨z, hz, rfl⟩ := List.mem_map.mp q
    simp only [List.mem_cons, List.not_mem_nil, or_false] at hz
    exact ⟨z.toNat, by congr 1; omega, by omega⟩
  have el : gLstD [.int 4, .int 5, .int 3, .int 6, .int 2, .int 1, .int 0] h = some (.ref h.length, h ++ [(false, .lst (iL [4, 5, 3, 6, 2, 1, 0]))]) := q_lst (by simp only [List.length_cons, List.length_nil]; omega)
  have go1 := ga.trans g1
  clear q
  generalize h ++ [(false, O.lst (iL [4, 5, 3, 6, 2, 1, 0]))] = h0 at *
  refine wS_step (ρ' := [some (.ref n), some (.int (k : Nat)), none, none, none, none, none, none, none, none, none, none, none, none, none]) (h' := h1) (by simp [q_bok, q_bxn, q_ofok, q_ofxn, q_vo, q_var, q_k, q_c1, q_c2, q_nil, q_cons, q_c, q_call, q_callK, pick, q_b, q_tru, q_not, q_and, q_or, q_ifE, q_andV, q_orV, q_notV, q_chain, q_seq, q_tnx, q_trt, q_txn, q_tbk, q_tct, q_skip, q_drop, q_ret, q_retN, q_bk, q_ct, q_set, q_par, q_par3, q_if, q_raise, q_mt, q_mt0, q_end0, q_endr, q_endx, q_lt, q_le, q_gt, q_ge, q_sub, q_add, q_neg, q_inti, q_intb, q_max, q_min, q_lenT, q_lenF, q_truT, q_truF, q_truB, q_truI, q_ixT, q_ixF, at_0, at_1, er_int, er_bl, er_str, er_non, er_tup, er_flst, er_ref, er_obj, er_ty, er_gl, q_tup, q_cutT, q_pn, q_ps, q_slT, q_itS, seqL_t, sz_0, sz_1, sz_2, sz_3, sz_4, sz_5, sz_6, sz_7, sz_8, sz_9, sz_10, sz_11, sz_12, sz_13, sz_14, el, e1]) ?_
  obtain ⟨p, h2, e2, v, ps, g2⟩ := pat4_w (h := h1) (x2 := none) (x3 := none) (x4 := none) (x5 := none) (x6 := none) (x7 := none) (x8 := none) (x9 := none) (x10 := none) k6 go1.src
  refine wS_step (ρ' := [some (.ref n), some (.int (k : Nat)), some (iT p), none, none, none, none, none, none, none, none, none, none, none, none]) (h' := h2) (by
    rw [q_set, e2, q_ofok]; rfl) ?_
  have go2 := go1.trans g2
  have fall := v.pw
  -- all rows
  have e3 := lrg4 (a := cVar 1) (ρ := [some (.ref n), some (.int (k : Nat)), some (iT p), none, none, none, none, none, none, none, none, none, none, none, none]) (h := h2) (n := k) (by generalize iT p = PP at *; simp [q_bok, q_bxn, q_ofok, q_ofxn, q_vo, q_var, q_k, q_c1, q_c2, q_nil, q_cons, q_c, q_call, q_callK, pick, q_b, q_tru, q_not, q_and, q_or, q_ifE, q_andV, q_orV, q_notV, q_chain, q_seq, q_tnx, q_trt, q_txn, q_tbk, q_tct, q_skip, q_drop, q_ret, q_retN, q_bk, q_ct, q_set, q_par, q_par3, q_if, q_raise, q_mt, q_mt0, q_end0, q_endr, q_endx, q_lt, q_le, q_gt, q_ge, q_sub, q_add, q_neg, q_inti, q_intb, q_max, q_min, q_lenT, q_lenF, q_truT, q_truF, q_truB, q_truI, q_ixT, q_ixF, at_0, at_1, er_int, er_bl, er_str, er_non, er_tup, er_flst, er_ref, er_obj, er_ty, er_gl, q_lst, q_tup, q_cutT, q_pn, q_ps, q_slT, q_itS, seqL_t, sz_0, sz_1, sz_2, sz_3, sz_4, sz_5, sz_6, sz_7, sz_8, sz_9, sz_10, sz_11, sz_12, sz_13, sz_14]) (by omega)
  have gN := get_new (h := h2) (p := (false, O.lst (iL (n4 k))))
  have ap3 : Ap h2 (h2 ++ [(false, O.lst (iL (n4 k)))]) := .new _
  have l3 := go2.len
  generalize hw : h2.length = w at *
  generalize h2 ++ [(false, O.lst (iL (n4 k)))] = h3 at *
  obtain ⟨L, h4, r, e4, ap4, lr, gr, pm⟩ := rows2r_w (h := h3) (n := n4 k) (p := p) gN (n4_asc k) (by rw [n4_len]; exact k6) fall v.two (by rw [n4_len]; exact ps)
  have erT : (iT p).isErr = false := rfl
  refine wS_step (ρ' := [some (.ref n), some (.int (k : Nat)), some (iT p), some (.ref r), none, none, none, none, none, none, none, none, none, none, none]) (h' := h4) (by
    rw [q_set, q_call, q_cons, e3, q_bok]
    generalize iT p = PP at *
    simp [q_bok, q_bxn, q_ofok, q_ofxn, q_vo, q_var, q_k, q_c1, q_c2, q_nil, q_cons, q_c, q_call, q_callK, pick, q_b, q_tru, q_not, q_and, q_or, q_ifE, q_andV, q_orV, q_notV, q_chain, q_seq, q_tnx, q_trt, q_txn, q_tbk, q_tct, q_skip, q_drop, q_ret, q_retN, q_bk, q_ct, q_set, q_par, q_par3, q_if, q_raise, q_mt, q_mt0, q_end0, q_endr, q_endx, q_lt, q_le, q_gt, q_ge, q_sub, q_add, q_neg, q_inti, q_intb, q_max, q_min, q_lenT, q_lenF, q_truT, q_truF, q_truB, q_truI, q_ixT, q_ixF, at_0, at_1, er_int, er_bl, er_str, er_non, er_tup, er_flst, er_ref, er_obj, er_ty, er_gl, q_tup, q_cutT, q_pn, q_ps, q_slT, q_itS, seqL_t, sz_0, sz_1, sz_2, sz_3, sz_4, sz_5, sz_6, sz_7, sz_8, sz_9, sz_10, sz_11, sz_12, sz_13, sz_14, erT, e4]) ?_
  have go4 : Go n h h4 := go2.ap4 (ap3.trans ap4)
  have wl := (List.getElem?_eq_some_iff.mp gN).1
  have nr : n ≠ r := by omega
  have LL : L.length ≤ 1000000 := by
    have := keys_few (n4_asc k) (by rw [n4_len]; exact k6) fall v.two (by rw [n4_len]; exact ps)
    have q := (keysK_perm (n4_asc k) fall fun s hs => by have := v.two s hs; omega).length_eq
    rw [pm.length_eq, ← q]
    omega
  -- both polynomials
  have eb : gLstD [.bl false, .bl true] h4 = some (.ref h4.length, h4 ++ [(false, .lst [.bl false, .bl true])]) := q_lst (by simp only [List.length_cons, List.length_nil]; omega)
  have gb := get_new (h := h4) (p := (false, O.lst [D.bl false, .bl true]))
  have ap5 : Ap h4 (h4 ++ [(false, O.lst [D.bl false, .bl true])]) := .new _
  have gr5 := ap5.get gr
  have go5 := go4.ap4 ap5
  have l4 := go4.len
  have lr4 := (List.getElem?_eq_some_iff.mp gr).1
  generalize hw5 : h4.length = w5 at *
  generalize h4 ++ [(false, O.lst [D.bl false, .bl true])] = h5 at *
  refine wS_bind2 (R := fun ρ h' => (∃ x4 x5 x6 x7 x8 x9 x10, ρ = [some (.ref n), some (.int (k : Nat)), some (iT p), some (.ref r), x4, x5, x6, x7, x8, x9, x10, none, none, none, none])) ?_ ?_
  · refine wS_forR (l := [.bl false, .bl true]) (w := w5) (h1 := h5) (p := (false, .lst [.bl false, .bl true])) (by
      have sq := seqL_r gb
      generalize iT p = PP at *
      simp [q_bok, q_bxn, q_ofok, q_ofxn, q_vo, q_var, q_k, q_c1, q_c2, q_nil, q_cons, q_c, q_call, q_callK, pick, q_b, q_tru, q_not, q_and, q_or, q_ifE, q_andV, q_orV, q_notV, q_chain, q_seq, q_tnx, q_trt, q_txn, q_tbk, q_tct, q_skip, q_drop, q_ret, q_retN, q_bk, q_ct, q_set, q_par, q_par3, q_if, q_raise, q_mt, q_mt0, q_end0, q_endr, q_endx, q_lt, q_le, q_gt, q_ge, q_sub, q_add, q_neg, q_inti, q_intb, q_max, q_min, q_lenT, q_lenF, q_truT, q_truF, q_truB, q_truI, q_ixT, q_ixF, at_0, at_1, er_int, er_bl, er_str, er_non, er_tup, er_flst, er_ref, er_obj, er_ty, er_gl, q_tup, q_cutT, q_pn, q_ps, q_slT, q_itS, seqL_t, sz_0, sz_1, sz_2, sz_3, sz_4, sz_5, sz_6, sz_7, sz_8, sz_9, sz_10, sz_11, sz_12, sz_13, sz_14, eb, sq]) gb ?_
    have sL : IsSrc (lckL [w5] h5) n := by
      obtain ⟨b, m, e, q⟩ := go5.src
      exact ⟨b, m, by rw [lck1_ne gb (by omega)]; exact e, q⟩
    have grL : (lckL [w5] h5)[r]? = some (false, .lst (L.map rowD)) := by rw [lck1_ne gb (by omega)]; exact gr5
    generalize lckL [w5] h5 = h6 at *
    refine for_ix D.bl [false, true] (fun i ρ h' => (∃ x4 x5 x6 x7 x8 x9 x10, ρ = [some (.ref n), some (.int (k : Nat)), some (iT p), some (.ref r), x4, x5, x6, x7, x8, x9, x10, none, none, none, none]) ∧ Go n h6 h') ?_ ?_ ⟨⟨_, _, _, _, _, _, _, rfl⟩, .refl sL⟩
    · rintro i wq ρ h7 hi ⟨⟨x4, x5, x6, x7, x8, x9, x10, rfl⟩, g7⟩
      refine ⟨_, asg_nm, ?_⟩
      have gr7 := (g7.keep r (List.getElem?_eq_some_iff.mp grL).1 (Ne.symm nr)).trans grL
      refine (wB4_w (h := h7) (n := n) (k := k) (r := r) (p := p) (wq := wq) (L := L) (x5 := x5) (x6 := x6) (x7 := x7) (x8 := x8) (x9 := x9) (x10 := x10) k6 v ps g7.src nr fall pm gr7 LL).mono fun f ρ2 h8 q => ?_
      obtain ⟨rfl, ⟨y5, y6, y7, y8, y9, y10, rfl⟩, g8⟩ := q
      exact ⟨⟨_, _, _, _, _, _, _, rfl⟩, g7.trans g8⟩
    · rintro ρ h7 ⟨q, _⟩
      exact q
  · rintro ρ h7 ⟨x4, x5, x6, x7, x8, x9, x10, rfl⟩
    obtain ⟨R1, h8, e8, ap8, ev1, po1⟩ := whole_w (h := h7) (k := k) (p := p) (by omega) v ps
    obtain ⟨R2, h9, e9, ap9, ev2, po2⟩ := whole_w (h := h8) (k := k) (p := p) (by omega) v ps
    have same : R1 = R2 := poly_uniq po1 po2 fun φ => by rw [ev1, ev2]
    subst same
    have erP : (polyD R1).isErr = false := rfl
    have pp : pu 9 (polyD R1) = true := by
      show (R1.map tmD).all (pu 8) = true
      refine List.all_eq_true.mpr fun d hd => ?_
      obtain ⟨e, _, rfl⟩ := List.mem_map.mp hd
      exact pu_iT 7 [((e.1.1 : Nat) : Int), ((e.1.2 : Nat) : Int), ((e.2 : Nat) : Int)]
    have qe := q_eqS (h := h9) pp
    refine wS_ret (d := .bl true) (h' := h9) (by
      generalize polyD R1 = PP at *
      generalize iT p = TP at *
      simp only [q_c2, q_call, q_callK, pick, q_cons, q_nil, q_var, q_k, List.getElem?_cons_succ, List.getElem?_cons_zero, er_int, erT, Bool.false_eq_true, if_false, q_bok, List.filterMap_cons, List.filterMap_nil, e8, e9, qe, q_vo]) rfl
end
theorem law_true : ∀ ns : List Int, ns.length ≤ 63 → ∃ h', m_law [.flst (ns.map Sx.D.int)] [] = .ok (.bl true) h' := by
  intro ns hl
  suffices w : wE (m_law [.flst (ns.map Sx.D.int)] []) fun r _ => r = .bl true by
    obtain ⟨_, h', e, rfl⟩ := w.eq
    exact ⟨h', e⟩
  unfold m_law
  refine wE_run rfl ?_
  unfold b_law
  obtain ⟨k, hk, ek⟩ : ∃ k : Nat, k ≤ 2 ∧ cC gMax (cCons (cK (.int 1)) (cCons (cC gMin (cCons (cC gLen (cCons (cVar 0) cNil)) (cCons (cK (.int 2)) cNil))) cNil)) [some (.flst (ns.map Sx.D.int)), none] [] = .ok (.int (k : Nat)) [] := by
    refine ⟨max 1 (min ns.length 2), by omega, ?_⟩
    simp [q_bok, q_bxn, q_ofok, q_ofxn, q_vo, q_var, q_k, q_c1, q_c2, q_nil, q_cons, q_c, q_call, q_callK, pick, q_b, q_tru, q_not, q_and, q_or, q_ifE, q_andV, q_orV, q_notV, q_chain, q_seq, q_tnx, q_trt, q_txn, q_tbk, q_tct, q_skip, q_drop, q_ret, q_retN, q_bk, q_ct, q_set, q_par, q_par3, q_if, q_raise, q_mt, q_mt0, q_end0, q_endr, q_endx, q_lt, q_le, q_gt, q_ge, q_sub, q_add, q_neg, q_inti, q_intb, q_max, q_min, q_lenT, q_lenF, q_truT, q_truF, q_truB, q_truI, q_ixT, q_ixF, at_0, at_1, er_int, er_bl, er_str, er_non, er_tup, er_flst, er_ref, er_obj, er_ty, er_gl, q_lst, q_tup, q_cutT, q_pn, q_ps, q_slT, q_itS, seqL_t, sz_0, sz_1, sz_2, sz_3, sz_4, sz_5, sz_6, sz_7, sz_8, sz_9, sz_10, sz_11, sz_12, sz_13, sz_14]
    split <;> split <;> omega
  refine wS_loop ?_
  rw [q_for (l := (List.range k).map fun (i : Nat) => .int (i : Int)) (h1 := []) (q_itR1 (ρ := List.map some [D.flst (List.map D.int ns)] ++ List.replicate (2 - 1) none) (n := k) ek (by omega))]
  refine for_ix (fun (i : Nat) => D.int (i : Int)) (List.range k) (fun i ρ h => ∃ x1, ρ = [some (.flst (ns.map Sx.D.int)), x1]) ?_ ?_ ⟨_, rfl⟩
  · rintro i d ρ h hi ⟨x1, rfl⟩
    obtain ⟨rfl, hd⟩ := range_at hi
    refine ⟨_, asg_nm, ?_⟩
    obtain ⟨b0, m0, e0, p0, p1⟩ := pool_new (ns := ns) (k := d) (h := h) (by omega)
    obtain ⟨_, h2, e2, rfl⟩ := (right4_w (h := h ++ [(false, .lst [.int b0, .int m0])]) (n := h.length) ⟨b0, m0, get_new, p0, p1⟩).eq
    refine wS.of (f := .nx) (ρ := [some (.flst (ns.map Sx.D.int)), some (.int (d : Nat))]) (h := h2) ?_ ⟨_, rfl⟩
    show cIf _ _ _ [some (.flst (ns.map Sx.D.int)), some (.int (d : Nat))] h = _
    simp [q_bok, q_bxn, q_ofok, q_ofxn, q_vo, q_var, q_k, q_c1, q_c2, q_nil, q_cons, q_c, q_call, q_callK, pick, q_b, q_tru, q_not, q_and, q_or, q_ifE, q_andV, q_orV, q_notV, q_chain, q_seq, q_tnx, q_trt, q_txn, q_tbk, q_tct, q_skip, q_drop, q_ret, q_retN, q_bk, q_ct, q_set, q_par, q_par3, q_if, q_raise, q_mt, q_mt0, q_end0, q_endr, q_endx, q_lt, q_le, q_gt, q_ge, q_sub, q_add, q_neg, q_inti, q_intb, q_max, q_min, q_lenT, q_lenF, q_truT, q_truF, q_truB, q_truI, q_ixT, q_ixF, at_0, at_1, er_int, er_bl, er_str, er_non, er_tup, er_flst, er_ref, er_obj, er_ty, er_gl, q_lst, q_tup, q_cutT, q_pn, q_ps, q_slT, q_itS, seqL_t, sz_0, sz_1, sz_2, sz_3, sz_4, sz_5, sz_6, sz_7, sz_8, sz_9, sz_10, sz_11, sz_12, sz_13, sz_14, e0, e2, cTru, truD]
  · rintro ρ h ⟨x1, rfl⟩
    exact wS_ret (d := .bl true) (h' := h) (by simp [q_bok, q_bxn, q_ofok, q_ofxn, q_vo, q_var, q_k, q_c1, q_c2, q_nil, q_cons, q_c, q_call, q_callK, pick, q_b, q_tru, q_not, q_and, q_or, q_ifE, q_andV, q_orV, q_notV, q_chain, q_seq, q_tnx, q_trt, q_txn, q_tbk, q_tct, q_skip, q_drop, q_ret, q_retN, q_bk, q_ct, q_set, q_par, q_par3, q_if, q_raise, q_mt, q_mt0, q_end0, q_endr, q_endx, q_lt, q_le, q_gt, q_ge, q_sub, q_add, q_neg, q_inti, q_intb, q_max, q_min, q_lenT, q_lenF, q_truT, q_truF, q_truB, q_truI, q_ixT, q_ixF, at_0, at_1, er_int, er_bl, er_str, er_non, er_tup, er_flst, er_ref, er_obj, er_ty, er_gl, q_lst, q_tup, q_cutT, q_pn, q_ps, q_slT, q_itS, seqL_t, sz_0, sz_1, sz_2, sz_3, sz_4, sz_5, sz_6, sz_7, sz_8, sz_9, sz_10, sz_11, sz_12, sz_13, sz_14]) rfl

end Gk

open PySem PySem.W PyProof.Rows in
set_option maxRecDepth 100000 in
set_option maxHeartbeats 0 in
theorem PySem.Challenge.cw_datedlines_k04_told_lines_listed_holds : PySem.Challenge.rw_datedlines_k04_told_lines_listed.Holds := by
  w_on; o_law; k_head; (case hw => w_witness2)
  k_fill
  refine Sx.walkW (l := PySem.Challenge.rw_datedlines_k04_told_lines_listed) (n := 63) (k := 44) (x := "_law_script") (m := Gk.m_law) rfl (by decide) rfl ⟨rfl, by decide, by decide⟩ ?hm ?F
  case F =>
    intro w mg fa h Y G hmg
    have KX := PySem.W.kIn_of Y
    refine' Gk.tx_fin KX G hmg (Sx.ft_mk KX G ?f0a ?f0l ?f0c ?f0k (fun _ _ _ _ _ _ us hl => match us, hl with | [_, _], _ => rfl))
      (Sx.ft_mk KX G ?f1a ?f1l ?f1c ?f1k (fun _ _ _ _ _ _ us hl => match us, hl with | [_, _], _ => rfl))
      (Sx.ft_mk KX G ?f2a ?f2l ?f2c ?f2k (fun _ _ _ _ _ _ us hl => match us, hl with | [_, _], _ => rfl))
      (Sx.ft_mk KX G ?f3a ?f3l ?f3c ?f3k (fun _ _ _ _ _ _ us hl => match us, hl with | [_, _], _ => rfl))
      (Sx.ft_mk KX G ?f4a ?f4l ?f4c ?f4k (fun _ _ _ _ _ _ us hl => match us, hl with | [_, _], _ => rfl))
      (Sx.ft_mk KX G ?f5a ?f5l ?f5c ?f5k (fun _ _ _ _ _ _ us hl => match us, hl with | [_], _ => rfl))
      (Sx.ft_mk KX G ?f6a ?f6l ?f6c ?f6k (fun _ _ _ _ _ _ us hl => match us, hl with | [_], _ => rfl))
      (Sx.ft_mk KX G ?f7a ?f7l ?f7c ?f7k (fun _ _ _ _ _ _ us hl => match us, hl with | [_], _ => rfl))
      (Sx.ft_mk KX G ?f8a ?f8l ?f8c ?f8k (fun _ _ _ _ _ _ us hl => match us, hl with | [_], _ => rfl))
      (Sx.ft_mk KX G ?f9a ?f9l ?f9c ?f9k (fun _ _ _ _ _ _ us hl => match us, hl with | [_, _], _ => rfl))
      (Sx.ft_mk KX G ?f10a ?f10l ?f10c ?f10k (fun _ _ _ _ _ _ us hl => match us, hl with | [_], _ => rfl))
      (Sx.ft_mk KX G ?f11a ?f11l ?f11c ?f11k (fun _ _ _ _ _ _ us hl => match us, hl with | [_, _], _ => rfl))
      (Sx.ft_mk KX G ?f12a ?f12l ?f12c ?f12k (fun _ _ _ _ _ _ us hl => match us, hl with | [_], _ => rfl))
      (Sx.ft_mk KX G ?f13a ?f13l ?f13c ?f13k (fun _ _ _ _ _ _ us hl => match us, hl with | [_], _ => rfl))
      (Sx.ft_mk KX G ?f14a ?f14l ?f14c ?f14k (fun _ _ _ _ _ _ us hl => match us, hl with | [_, _], _ => rfl))
      (Sx.ft_mk KX G ?f15a ?f15l ?f15c ?f15k (fun _ _ _ _ _ _ us hl => match us, hl with | [_, _], _ => rfl))
      (Sx.ft_mk KX G ?f16a ?f16l ?f16c ?f16k (fun _ _ _ _ _ _ us hl => match us, hl with | [_, _], _ => rfl))
      (Sx.ft_mk KX G ?f17a ?f17l ?f17c ?f17k (fun _ _ _ _ _ _ us hl => match us, hl with | [_, _], _ => rfl))
      (Sx.ft_mk KX G ?f18a ?f18l ?f18c ?f18k (fun _ _ _ _ _ _ us hl => match us, hl with | [_, _], _ => rfl))
      (Sx.ft_mk KX G ?f19a ?f19l ?f19c ?f19k (fun _ _ _ _ _ _ us hl => match us, hl with | [_, _, _], _ => rfl))
      (Sx.ft_mk KX G ?f20a ?f20l ?f20c ?f20k (fun _ _ _ _ _ _ us hl => match us, hl with | [_, _, _, _], _ => rfl))
      (Sx.ft_mk KX G ?f21a ?f21l ?f21c ?f21k (fun _ _ _ _ _ _ us hl => match us, hl with | [_, _], _ => rfl))
      (Sx.ft_mk KX G ?f22a ?f22l ?f22c ?f22k (fun _ _ _ _ _ _ us hl => match us, hl with | [_], _ => rfl))
      (Sx.ft_mk KX G ?f23a ?f23l ?f23c ?f23k (fun _ _ _ _ _ _ us hl => match us, hl with | [_, _], _ => rfl))
      (Sx.ft_mk KX G ?f24a ?f24l ?f24c ?f24k (fun _ _ _ _ _ _ us hl => match us, hl with | [_], _ => rfl))
      (PySem.W.mg_none_of KX G ?n0a)
      (PySem.W.mg_none_of KX G ?n1a)
      (PySem.W.mg_none_of KX G ?n2a)
      (PySem.W.mg_none_of KX G ?n3a)
      (PySem.W.mg_none_of KX G ?n4a)
      (PySem.W.mg_none_of KX G ?n5a)
      (PySem.W.mg_none_of KX G ?n6a)
      (PySem.W.mg_none_of KX G ?n7a)
      (PySem.W.mg_none_of KX G ?n8a)
      (PySem.W.mg_none_of KX G ?n9a)
      (PySem.W.mg_none_of KX G ?n10a)
      (PySem.W.mg_none_of KX G ?n11a)
      (PySem.W.mg_none_of KX G ?n12a)
      (PySem.W.mg_none_of KX G ?n13a)
      (Sx.con_mk KX G ?c0a)
      (Sx.con_mk KX G ?c1a)
      (PySem.W.mg_of KX G ?m0a)
      (Gk.er_fin KX G (Sx.refk_mk ⟨⟨5, 17, 5, 21⟩, ⟨5, 23, 5, 27⟩, ⟨6, 8, 6, 13⟩, ⟨6, 8, 6, 15⟩, ⟨6, 8, 6, 24⟩, ⟨6, 25, 6, 34⟩, ⟨6, 8, 6, 35⟩, ⟨6, 8, 6, 35⟩, ⟨7, 8, 7, 12⟩, ⟨7, 8, 7, 17⟩, ⟨7, 20, 7, 24⟩, ⟨7, 8, 7, 24⟩, 0, rfl⟩ ?r_a ?r_c ?r_i ?r_l ?r_co ?r_lc ?r_v ?r_fl ?r_ce ?r_s ?r_top ?r_op ?r_tf ?r_be ?r_hd ?r_ty) (Sx.errk_mk ?e0_a ?e0_cls ?e0_sa ?e0_ga ?e0_gg ?e0_noN ?e0_iC ?e0_kC ?e0_tyC) (Sx.errk_mk ?e1_a ?e1_cls ?e1_sa ?e1_ga ?e1_gg ?e1_noN ?e1_iC ?e1_kC ?e1_tyC) (Sx.errk_mk ?e2_a ?e2_cls ?e2_sa ?e2_ga ?e2_gg ?e2_noN ?e2_iC ?e2_kC ?e2_tyC) ?nd )
    (case f0a => k_is)
    (case f0l => k_is)
    (case f0c => k_is)
    (case f0k => k_is)
    (case f1a => k_is)
    (case f1l => k_is)
    (case f1c => k_is)
    (case f1k => k_is)
    (case f2a => k_is)
    (case f2l => k_is)
    (case f2c => k_is)
    (case f2k => k_is)
    (case f3a => k_is)
    (case f3l => k_is)
    (case f3c => k_is)
    (case f3k => k_is)
    (case f4a => k_is)
    (case f4l => k_is)
    (case f4c => k_is)
    (case f4k => k_is)
    (case f5a => k_is)
    (case f5l => k_is)
    (case f5c => k_is)
    (case f5k => k_is)
    (case f6a => k_is)
    (case f6l => k_is)
    (case f6c => k_is)
    (case f6k => k_is)
    (case f7a => k_is)
    (case f7l => k_is)
    (case f7c => k_is)
    (case f7k => k_is)
    (case f8a => k_is)
    (case f8l => k_is)
    (case f8c => k_is)
    (case f8k => k_is)
    (case f9a => k_is)
    (case f9l => k_is)
    (case f9c => k_is)
    (case f9k => k_is)
    (case f10a => k_is)
    (case f10l => k_is)
    (case f10c => k_is)
    (case f10k => k_is)
    (case f11a => k_is)
    (case f11l => k_is)
    (case f11c => k_is)
    (case f11k => k_is)
    (case f12a => k_is)
    (case f12l => k_is)
    (case f12c => k_is)
    (case f12k => k_is)
    (case f13a => k_is)
    (case f13l => k_is)
    (case f13c => k_is)
    (case f13k => k_is)
    (case f14a => k_is)
    (case f14l => k_is)
    (case f14c => k_is)
    (case f14k => k_is)
    (case f15a => k_is)
    (case f15l => k_is)
    (case f15c => k_is)
    (case f15k => k_is)
    (case f16a => k_is)
    (case f16l => k_is)
    (case f16c => k_is)
    (case f16k => k_is)
    (case f17a => k_is)
    (case f17l => k_is)
    (case f17c => k_is)
    (case f17k => k_is)
    (case f18a => k_is)
    (case f18l => k_is)
    (case f18c => k_is)
    (case f18k => k_is)
    (case f19a => k_is)
    (case f19l => k_is)
    (case f19c => k_is)
    (case f19k => k_is)
    (case f20a => k_is)
    (case f20l => k_is)
    (case f20c => k_is)
    (case f20k => k_is)
    (case f21a => k_is)
    (case f21l => k_is)
    (case f21c => k_is)
    (case f21k => k_is)
    (case f22a => k_is)
    (case f22l => k_is)
    (case f22c => k_is)
    (case f22k => k_is)
    (case f23a => k_is)
    (case f23l => k_is)
    (case f23c => k_is)
    (case f23k => k_is)
    (case f24a => k_is)
    (case f24l => k_is)
    (case f24c => k_is)
    (case f24k => k_is)
    (case n0a => k_is)
    (case n1a => k_is)
    (case n2a => k_is)
    (case n3a => k_is)
    (case n4a => k_is)
    (case n5a => k_is)
    (case n6a => k_is)
    (case n7a => k_is)
    (case n8a => k_is)
    (case n9a => k_is)
    (case n10a => k_is)
    (case n11a => k_is)
    (case n12a => k_is)
    (case n13a => k_is)
    (case c0a => k_is)
    (case c1a => k_is)
    (case m0a => k_is)
    (case r_a => k_is)
    (case r_c => k_is)
    (case r_i => k_is)
    (case r_l => k_is)
    (case r_co => k_is)
    (case r_lc => k_is)
    (case r_v => rfl)
    (case r_fl => first | rfl | decide)
    (case r_ce => k_is)
    (case r_s => k_is)
    (case r_top => first | rfl | decide)
    (case r_op => k_is)
    (case r_tf => k_is)
    (case r_be => k_is)
    (case r_hd => k_is)
    (case r_ty => k_is)
    (case e0_a => k_is)
    (case e0_cls => k_is)
    (case e0_sa => k_is)
    (case e0_ga => k_is)
    (case e0_gg => k_is)
    (case e0_noN => k_is)
    (case e0_iC => k_is)
    (case e0_kC => k_is)
    (case e0_tyC => k_is)
    (case e1_a => k_is)
    (case e1_cls => k_is)
    (case e1_sa => k_is)
    (case e1_ga => k_is)
    (case e1_gg => k_is)
    (case e1_noN => k_is)
    (case e1_iC => k_is)
    (case e1_kC => k_is)
    (case e1_tyC => k_is)
    (case e2_a => k_is)
    (case e2_cls => k_is)
    (case e2_sa => k_is)
    (case e2_ga => k_is)
    (case e2_gg => k_is)
    (case e2_noN => k_is)
    (case e2_iC => k_is)
    (case e2_kC => k_is)
    (case e2_tyC => k_is)
    (case nd => decide)
  case hm => exact Gk.law_true

