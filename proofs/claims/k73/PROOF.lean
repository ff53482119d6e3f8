import PyProof.Rows.All
import Wide.All
import OpenK.AllK
import Wide.FinOn
import HandS.ForMost
import HandS.Exc
import HandS.WordsExc
import HandS.CallLocal
import HandS.CallSlots
import HandS.Flow
import HandS.Wide
import HandS.SortInts
import HandS.IsInst
import HandS.Deep
import HandS.Conv
import HandS.Flt
import PyProof.TupleKey
import HandS.Defaults
import KE.KStateDown
import Lean
import HandS.Base
import HandS.Call
import HandS.Ends
import HandS.More
import HandS.Words
import HandS.Head0
import HandS.Head1
import HandS.Head2
import HandS.HeadEnd
import HandS.HeadHook1
import HandS.HeadHook2
import PySem.Challenge.RW_cleanhands_k73_whole_the_built_opener_na
set_option Elab.async false
set_option linter.all false
set_option maxRecDepth 100000
set_option maxHeartbeats 1000000
/-! PD: pure data over the hand layer. Values as trees, one meaning function a construct, its tie to the readings. -/
namespace PD
open PySem PySem.Spec PyProof.Rows L2

/-- a value as data; ref: a def or a class; o k: the k-th object of the store -/
inductive D where
  | non | bl (b : Bool) | int (i : Int) | str (x : Str) | lst (xs : List D) | tup (xs : List D) | ref (a : Addr) | o (k : Nat)
/-- a slot: nothing known, a value, a list that nobody else has -/
inductive SV where
  | un | d (x : D) | own (xs : List D)
/-- a key (tuple of ints, int) -/
abbrev NK := List Int × Int
/-- an object of the store -/
inductive O where
  | gone | lst (xs : List D) | dk (kvs : List (Key × D)) | dt (kvs : List (List Key × D)) | ins (C : Addr) (fs : List (Str × D)) | dn (kvs : List (NK × D))
def nestHash0 (k : NK) : Int := reduceHash (Builtin.Tuple.tupleHashOf [reduceHash (Builtin.Tuple.tupleHashOf (k.1.map hashInt)), hashInt k.2])
def entN (x : NK × Addr × Value) : DictEntry := ⟨nestHash0 x.1, .ref x.2.1, x.2.2⟩
/-- a dict with such keys; bs: where the keys stand -/
def DnO (a : Addr) (us : List (NK × V)) (bs : List Addr) : HO := .ext fun h => us.length ≤ sizeLine ∧ (a == sysModules) = false ∧ ∃ xs : List (NK × Addr × Value), xs.map (·.2.1) = bs ∧ Paired (fun (p : NK × V) (q : NK × Addr × Value) => p.1 = q.1 ∧ RelV p.2 q.2.2) us xs ∧ (xs.map (·.1)).Nodup ∧
  ∃ o es ep, h.get? a = some o ∧ o.ExactDict ∧ o.data = .dict es ep ∧ es.toList = xs.map entN
def KeyN (H : Hp) (k : NK) (b : Addr) : Prop := ∃ c, H b = some (.tup [.ref c, .int k.2]) ∧ H c = some (.tup (k.1.map V.int))
abbrev KeysN (H : Hp) : List (NK × V) → List Addr → Prop := Paired fun (p : NK × V) (b : Addr) => KeyN H p.1 b
theorem KeyN.mono {H H' : Hp} {k : NK} {b : Addr} (h : Same H H') : KeyN H k b → KeyN H' k b := fun ⟨c, h1, h2⟩ => ⟨c, h _ _ h1, h _ _ h2⟩
theorem KeysN.mono {H H' : Hp} {us : List (NK × V)} {bs : List Addr} (h : Same H H') (x : KeysN H us bs) : KeysN H' us bs := Paired.mapP x fun _ _ q => q.mono h
structure Wd where
  env : List SV
  sto : List O
structure Xc where
  cls : Addr
  fs : List (Str × D)
inductive Res (α : Type) where
  | ok (a : α) (w : Wd) | ex (x : Xc) (w : Wd)
abbrev M (α : Type) := Wd → Option (Res α)
def mpure {α : Type} (a : α) : M α := fun w => some (.ok a w)
def bnd {α β : Type} (m : M α) (f : α → M β) : M β := fun w => match m w with
  | none => none
  | some (.ex x w') => some (.ex x w')
  | some (.ok a w') => f a w'
def wpM {α : Type} (r : Option (Res α)) (Q : α → Wd → Prop) (E : Xc → Wd → Prop) : Prop := match r with
  | none => False
  | some (.ok a w) => Q a w
  | some (.ex x w) => E x w
theorem wpM_bnd {α β : Type} {m : M α} {f : α → M β} {w : Wd} {Q : β → Wd → Prop} {E : Xc → Wd → Prop} : wpM (bnd m f w) Q E ↔ wpM (m w) (fun a w' => wpM (f a w') Q E) E := by
  unfold bnd
  cases h : m w with
  | none => exact Iff.rfl
  | some r => cases r <;> exact Iff.rfl
theorem wpM_mono {α : Type} {r : Option (Res α)} {Q Q' : α → Wd → Prop} {E E' : Xc → Wd → Prop} (h : wpM r Q E) (hq : ∀ a w, Q a w → Q' a w) (he : ∀ x w, E x w → E' x w) : wpM r Q' E' := by
  cases r with
  | none => exact h
  | some r => cases r with
    | ok a w => exact hq a w h
    | ex x w => exact he x w h

/-! ### values in a region of the heap -/
mutual
inductive RD (R : Hp) (as : List Addr) : V → D → Prop where
  | non : RD R as .non .non
  | bl (b : Bool) : RD R as (.bl b) (.bl b)
  | int (i : Int) : RD R as (.int i) (.int i)
  | str (x : Str) : RD R as (.str x) (.str x)
  | ref (a : Addr) : RD R as (.ref a) (.ref a)
  | o {a : Addr} {k : Nat} : as[k]? = some a → RD R as (.ref a) (.o k)
  | lst {a : Addr} {vs : List V} {ds : List D} : R a = some (.lst vs) → RDs R as vs ds → RD R as (.ref a) (.lst ds)
  | tup {a : Addr} {vs : List V} {ds : List D} : R a = some (.tup vs) → RDs R as vs ds → RD R as (.ref a) (.tup ds)
inductive RDs (R : Hp) (as : List Addr) : List V → List D → Prop where
  | nil : RDs R as [] []
  | cons {v : V} {vs : List V} {d : D} {ds : List D} : RD R as v d → RDs R as vs ds → RDs R as (v :: vs) (d :: ds)
end
/-- pairs with keys -/
abbrev RKs {κ : Type} (R : Hp) (as : List Addr) : List (κ × V) → List (κ × D) → Prop := Paired fun (p : κ × V) (q : κ × D) => p.1 = q.1 ∧ RD R as p.2 q.2

/-- the store's list of addresses has grown -/
def Pre (as as' : List Addr) : Prop := ∀ (k : Nat) (a : Addr), as[k]? = some a → as'[k]? = some a
theorem Pre.refl (as : List Addr) : Pre as as := fun _ _ h => h
theorem Pre.trans {a b c : List Addr} (h : Pre a b) (h' : Pre b c) : Pre a c := fun k x q => h' k x (h k x q)
theorem Pre.mem {a b : List Addr} (h : Pre a b) {x : Addr} (hx : x ∈ a) : x ∈ b := by
  obtain ⟨k, hk⟩ := List.mem_iff_getElem?.mp hx
  exact List.mem_of_getElem? (h k x hk)
theorem Pre.app (as : List Addr) (l : List Addr) : Pre as (as ++ l) := fun k a h => by
  rw [List.getElem?_append_left (List.getElem?_eq_some_iff.mp h).1]
  exact h
mutual
theorem RD.mono {R R' : Hp} {as as' : List Addr} (hR : Same R R') (ha : Pre as as') : ∀ {v : V} {d : D}, RD R as v d → RD R' as' v d
  | _, _, .non => .non
  | _, _, .bl b => .bl b
  | _, _, .int i => .int i
  | _, _, .str x => .str x
  | _, _, .ref a => .ref a
  | _, _, .o h => .o (ha _ _ h)
  | _, _, .lst h r => .lst (hR _ _ h) (RDs.mono hR ha r)
  | _, _, .tup h r => .tup (hR _ _ h) (RDs.mono hR ha r)
theorem RDs.mono {R R' : Hp} {as as' : List Addr} (hR : Same R R') (ha : Pre as as') : ∀ {vs : List V} {ds : List D}, RDs R as vs ds → RDs R' as' vs ds
  | _, _, .nil => .nil
  | _, _, .cons h r => .cons (RD.mono hR ha h) (RDs.mono hR ha r)
end
theorem RKs.mono {κ : Type} {R R' : Hp} {as as' : List Addr} (hR : Same R R') (ha : Pre as as') : ∀ {vs : List (κ × V)} {ds : List (κ × D)}, RKs R as vs ds → RKs R' as' vs ds
  | _, _, .nil => .nil
  | _, _, .cons h r => .cons ⟨h.1, h.2.mono hR ha⟩ (RKs.mono hR ha r)
section
variable {R : Hp} {as : List Addr}
theorem RDs.length : ∀ {vs : List V} {ds : List D}, RDs R as vs ds → vs.length = ds.length
  | _, _, .nil => rfl
  | _, _, .cons _ r => by rw [List.length_cons, List.length_cons, RDs.length r]
theorem RDs.get : ∀ {vs : List V} {ds : List D} {i : Nat} {d : D}, RDs R as vs ds → ds[i]? = some d → ∃ v, vs[i]? = some v ∧ RD R as v d
  | _, _, _, _, .nil, e => by simp at e
  | _, _, 0, _, .cons h _, e => by
    simp at e
    subst e
    exact ⟨_, rfl, h⟩
  | _, _, i + 1, d, .cons _ r, e => by
    obtain ⟨v, h1, h2⟩ := RDs.get (i := i) (d := d) r (by simpa using e)
    exact ⟨v, by simpa using h1, h2⟩
theorem RDs.getV : ∀ {vs : List V} {ds : List D} {i : Nat} {v : V}, RDs R as vs ds → vs[i]? = some v → ∃ d, ds[i]? = some d ∧ RD R as v d
  | _, _, _, _, .nil, e => by simp at e
  | _, _, 0, _, .cons h _, e => by
    simp at e
    subst e
    exact ⟨_, rfl, h⟩
  | _, _, i + 1, d, .cons _ r, e => by
    obtain ⟨v, h1, h2⟩ := RDs.getV (i := i) (v := d) r (by simpa using e)
    exact ⟨v, by simpa using h1, h2⟩
theorem RDs.app : ∀ {vs us : List V} {ds es : List D}, RDs R as vs ds → RDs R as us es → RDs R as (vs ++ us) (ds ++ es)
  | _, _, _, _, .nil, s => s
  | _, _, _, _, .cons h r, s => .cons h (RDs.app r s)
theorem RDs.one {v : V} {d : D} (h : RD R as v d) : RDs R as [v] [d] := .cons h .nil
theorem RDs.take : ∀ {vs : List V} {ds : List D} (n : Nat), RDs R as vs ds → RDs R as (vs.take n) (ds.take n)
  | _, _, 0, _ => .nil
  | _, _, _ + 1, .nil => .nil
  | _, _, n + 1, .cons h r => .cons h (RDs.take n r)
theorem RDs.drop : ∀ {vs : List V} {ds : List D} (n : Nat), RDs R as vs ds → RDs R as (vs.drop n) (ds.drop n)
  | _, _, 0, r => r
  | _, _, _ + 1, .nil => .nil
  | _, _, n + 1, .cons _ r => RDs.drop n r
theorem RDs.set : ∀ {vs : List V} {ds : List D} (i : Nat) {v : V} {d : D}, RD R as v d → RDs R as vs ds → RDs R as (vs.set i v) (ds.set i d)
  | _, _, _, _, _, _, .nil => .nil
  | _, _, 0, _, _, q, .cons h r => .cons q r
  | _, _, i + 1, _, _, q, .cons h r => .cons h (RDs.set i q r)
theorem RDs.eraseIdx : ∀ {vs : List V} {ds : List D} (i : Nat), RDs R as vs ds → RDs R as (vs.eraseIdx i) (ds.eraseIdx i)
  | _, _, _, .nil => .nil
  | _, _, 0, .cons h r => r
  | _, _, i + 1, .cons h r => .cons h (RDs.eraseIdx i r)
theorem RDs.rev {vs : List V} {ds : List D} (h : RDs R as vs ds) : RDs R as vs.reverse ds.reverse := by
  induction vs generalizing ds with
  | nil => cases h; exact .nil
  | cons v vs ih =>
    cases h with
    | cons h r =>
      rw [List.reverse_cons, List.reverse_cons]
      exact (ih r).app (.one h)
theorem RDs.dropLast {vs : List V} {ds : List D} (h : RDs R as vs ds) : RDs R as vs.dropLast ds.dropLast := by
  rw [List.dropLast_eq_take, List.dropLast_eq_take, h.length]
  exact h.take _
theorem RDs.ints : ∀ {vs : List V} {ns : List Int}, RDs R as vs (ns.map D.int) → vs = ns.map V.int
  | _, [], .nil => rfl
  | _, n :: ns, .cons h r => by
    cases h
    rw [List.map_cons, RDs.ints r]
theorem RDs.bls : ∀ {vs : List V} {ns : List Bool}, RDs R as vs (ns.map D.bl) → vs = ns.map V.bl
  | _, [], .nil => rfl
  | _, n :: ns, .cons h r => by
    cases h
    rw [List.map_cons, RDs.bls r]
end

/-! ### the state: a region of values that stand still, the store's objects, the slots -/
structure CS where
  R : Hp
  as : List Addr
  w : Wd
  σ : L2.St
  H : Hp
/-- an object of the store as it stands -/
def OR (R : Hp) (as : List Addr) (H : Hp) (a : Addr) : O → Prop
  | .gone => True
  | .lst ds => R a = none ∧ ∃ vs, H a = some (.lst vs) ∧ RDs R as vs ds
  | .dk kvs => R a = none ∧ ∃ us, H a = some (.dK us) ∧ RKs R as us kvs
  | .dt kvs => R a = none ∧ ∃ us, H a = some (.dT us) ∧ RKs R as us kvs
  | .ins C fs => R a = none ∧ ∃ dx us, H a = some (.ins C dx us) ∧ RKs R as us fs
  | .dn kvs => R a = none ∧ ∃ us bs, H a = some (DnO a us bs) ∧ RKs R as us kvs ∧ KeysN R us bs
theorem OR.mono {R R' : Hp} {as as' : List Addr} {H H' : Hp} {a : Addr} (hR : Same R R') (ha : Pre as as') (hn : R a = none → R' a = none) (hH : H' a = H a) : ∀ {x : O}, OR R as H a x → OR R' as' H' a x
  | .gone, _ => trivial
  | .lst _, ⟨n, vs, h, r⟩ => ⟨hn n, vs, hH.trans h, r.mono hR ha⟩
  | .dk _, ⟨n, vs, h, r⟩ => ⟨hn n, vs, hH.trans h, r.mono hR ha⟩
  | .dt _, ⟨n, vs, h, r⟩ => ⟨hn n, vs, hH.trans h, r.mono hR ha⟩
  | .ins _ _, ⟨n, dx, vs, h, r⟩ => ⟨hn n, dx, vs, hH.trans h, r.mono hR ha⟩
  | .dn _, ⟨n, us, bs, h, r, k⟩ => ⟨hn n, us, bs, hH.trans h, r.mono hR ha, k.mono hR⟩
/-- a slot's own list -/
def OwnAt (R : Hp) (as : List Addr) (H : Hp) (l : Addr) (ds : List D) : Prop := R l = none ∧ l ∉ as ∧ ∃ vs, H l = some (.lst vs) ∧ RDs R as vs ds
theorem OwnAt.mono {R R' : Hp} {as as' : List Addr} {H H' : Hp} {l : Addr} {ds : List D} (hR : Same R R') (ha : Pre as as') (hn : R' l = none) (hl : l ∉ as') (hH : H' l = H l) : OwnAt R as H l ds → OwnAt R' as' H' l ds
  | ⟨_, _, vs, h, r⟩ => ⟨hn, hl, vs, hH.trans h, r.mono hR ha⟩
structure Sta (B : Hp) (s : CS) : Prop where
  base : Same B s.R
  reg : Same s.R s.H
  len : s.as.length = s.w.sto.length
  nd : s.as.Nodup
  there : ∀ a, a ∈ s.as → s.H a ≠ none
  sto : ∀ (k : Nat) (a : Addr) (x : O), s.as[k]? = some a → s.w.sto[k]? = some x → OR s.R s.as s.H a x
  slen : s.w.env.length = s.σ.length
  imm : ∀ (i : Nat) (x : D), s.w.env[i]? = some (.d x) → ∃ v, s.σ[i]? = some (some v) ∧ RD s.R s.as v x
  own : ∀ (i : Nat) (ds : List D), s.w.env[i]? = some (.own ds) → ∃ l, s.σ[i]? = some (some (.ref l)) ∧ OwnAt s.R s.as s.H l ds
  dis : ∀ (i j : Nat) (ds es : List D) (l : Addr), s.w.env[i]? = some (.own ds) → s.w.env[j]? = some (.own es) → s.σ[i]? = some (some (.ref l)) → s.σ[j]? = some (some (.ref l)) → i = j
/-- a slot owns the list at a -/
def Ow (s : CS) (a : Addr) : Prop := ∃ (i : Nat) (ds : List D), s.w.env[i]? = some (.own ds) ∧ s.σ[i]? = some (some (.ref a))
/-- from one state to a later one: what is not owned, not the store's, stands; what is new is new in the heap -/
structure Tr (s s' : CS) : Prop where
  reg : Same s.R s'.R
  pre : Pre s.as s'.as
  frame : ∀ a o, s.H a = some o → a ∉ s.as → ¬ Ow s a → s'.H a = some o
  rfr : ∀ a, s.R a = none → s'.R a ≠ none → s.H a = none ∨ a ∈ s.as ∨ Ow s a
  afr : ∀ a, a ∈ s'.as → a ∈ s.as ∨ s.H a = none
  ofr : ∀ a, Ow s' a → Ow s a ∨ s.H a = none
  dom : ∀ a, s'.H a = none → s.H a = none
theorem Tr.refl (s : CS) : Tr s s := ⟨Same.refl _, Pre.refl _, fun _ _ h _ _ => h, fun _ h h' => absurd h h', fun _ h => .inl h, fun _ h => .inl h, fun _ h => h⟩
theorem Tr.trans {a b c : CS} (h : Tr a b) (h' : Tr b c) : Tr a c where
  reg := h.reg.trans h'.reg
  pre := h.pre.trans h'.pre
  frame := fun x o e n1 n2 => by
    refine h'.frame x o (h.frame x o e n1 n2) (fun m => ?_) (fun m => ?_)
    · rcases h.afr x m with q | q
      · exact n1 q
      · rw [q] at e; cases e
    · rcases h.ofr x m with q | q
      · exact n2 q
      · rw [q] at e; cases e
  rfr := fun x n1 n2 => by
    by_cases q : b.R x = none
    · rcases h'.rfr x q n2 with z | z | z
      · exact .inl (h.dom x z)
      · rcases h.afr x z with y | y
        · exact .inr (.inl y)
        · exact .inl y
      · rcases h.ofr x z with y | y
        · exact .inr (.inr y)
        · exact .inl y
    · exact h.rfr x n1 q
  afr := fun x m => by
    rcases h'.afr x m with z | z
    · exact h.afr x z
    · exact .inr (h.dom x z)
  ofr := fun x m => by
    rcases h'.ofr x m with z | z
    · exact h.ofr x z
    · exact .inr (h.dom x z)
  dom := fun x n => h.dom x (h'.dom x n)
/-- an address that stands, no object of the store, not owned, out of the region, stays so -/
theorem Tr.hid {s s' : CS} (h : Tr s s') {l : Addr} {o : HO} (e : s.H l = some o) (n1 : l ∉ s.as) (n2 : ¬ Ow s l) : s'.H l = some o ∧ l ∉ s'.as ∧ ¬ Ow s' l ∧ (s.R l = none → s'.R l = none) := by
  refine ⟨h.frame l o e n1 n2, fun m => ?_, fun m => ?_, fun r => ?_⟩
  · rcases h.afr l m with q | q
    · exact n1 q
    · rw [q] at e; cases e
  · rcases h.ofr l m with q | q
    · exact n2 q
    · rw [q] at e; cases e
  · cases q : s'.R l with
    | none => rfl
    | some u =>
      rcases h.rfr l r (by rw [q]; exact fun z => by cases z) with z | z | z
      · rw [z] at e; cases e
      · exact (n1 z).elim
      · exact (n2 z).elim

/-! ### what is wanted of an exception; a reading and its meaning -/
def XP (B : Hp) (W : WX) (s : CS) (x : Xc) (w' : Wd) : Prop := ∀ s', Sta B s' → Tr s s' → s'.w = w' → ∀ dx fs', s'.H dx = some (.xd fs') → RKs s'.R s'.as fs' x.fs → W (.ref x.cls) (some dx) s'.σ s'.H
theorem XP.tr {B : Hp} {W : WX} {s s1 : CS} (h : Tr s s1) {x : Xc} {w' : Wd} (q : XP B W s x w') : XP B W s1 x w' := fun s' a b c => q s' a (h.trans b) c
/-- t does what m says, up to rel -/
def Sp1 {α β : Type} (B : Hp) (W : WX) (rel : CS → CS → β → α → Prop) (t : L2.St → Hp → (β → Hp → Prop) → Prop) (m : M α) : Prop :=
  ∀ (s : CS) (Q : β → Hp → Prop), Sta B s → wpM (m s.w) (fun a w' => ∀ s', Sta B s' → Tr s s' → s'.w = w' → s'.σ = s.σ → ∀ b, rel s s' b a → Q b s'.H) (XP B W s) → t s.σ s.H Q
def relE (_ s' : CS) (v : V) (d : D) : Prop := RD s'.R s'.as v d
def relA (_ s' : CS) (vs : List V) (ds : List D) : Prop := RDs s'.R s'.as vs ds
def relB (_ _ : CS) (b c : Bool) : Prop := b = c
/-- an operand: a value, or a name that is looked up when it is wanted -/
inductive Op where
  | v (d : D) | s (i : Nat)
def relP (_ s' : CS) (v : V) : Op → Prop
  | .v d => RD s'.R s'.as v d
  | .s i => s'.σ[i]? = some (some v)
/-- a list that is new and nobody's -/
def NewL (s s' : CS) (v : V) (ds : List D) : Prop := ∃ l, v = .ref l ∧ s.H l = none ∧ ¬ Ow s' l ∧ OwnAt s'.R s'.as s'.H l ds
/-- a value, or a new list -/
inductive RV where
  | d (x : D) | l (xs : List D)
def relF (s s' : CS) (v : V) : RV → Prop
  | .d x => RD s'.R s'.as v x
  | .l ds => NewL s s' v ds
structure GE (B : Hp) (W : WX) (X : Cx) (e : Expr) (t : TE) (m : M D) : Prop where
  pe : PE X e t
  sp : Sp1 B W relE t m
structure GF (B : Hp) (W : WX) (X : Cx) (e : Expr) (t : TE) (m : M RV) : Prop where
  pe : PE X e t
  sp : Sp1 B W relF t m
structure GP (B : Hp) (W : WX) (X : Cx) (e : Expr) (t : TE) (m : M Op) : Prop where
  pe : PE X e t
  sp : Sp1 B W relP t m
structure GT (B : Hp) (W : WX) (X : Cx) (e : Expr) (t : TT) (m : M Bool) : Prop where
  pt : PT X e t
  sp : Sp1 B W relB t m
structure GA (B : Hp) (W : WX) (X : Cx) (es : List Expr) (t : TA) (m : M (List D)) : Prop where
  pa : PA X es t
  sp : Sp1 B W relA t m
end PD

set_option maxHeartbeats 1000000
namespace PD
open PySem PySem.Spec PyProof.Rows L2

/-! ### states, step by step -/
section
variable {B : Hp} {s s0 s1 : CS} {i k : Nat} {l p a : Addr} {v : V} {vs us : List V} {x : D} {ds es : List D} {o : HO} {y z : O}
theorem same_upd {R : Hp} (h : R p = none) : Same R (upd R p o) := fun b u e => by
  rw [upd_ne (ne_of_none e h)]
  exact e
theorem Sta.inH (st : Sta B s) (h : s.R a = some o) : s.H a = some o := st.reg a o h
theorem Sta.freshR (st : Sta B s) (h : s.H p = none) : s.R p = none := st.reg.free h
theorem Sta.freshA (st : Sta B s) (h : s.H p = none) : p ∉ s.as := fun m => st.there p m h
theorem Sta.freshO (st : Sta B s) (h : s.H p = none) : ¬ Ow s p := fun ⟨i, ds, e1, e2⟩ => by
  obtain ⟨l, e3, _, _, vs, e4, _⟩ := st.own i ds e1
  rw [e2] at e3
  cases e3
  rw [h] at e4
  cases e4
theorem Sta.ownEx (st : Sta B s) (e : s.w.env[i]? = some (.own ds)) : ∃ l, s.σ[i]? = some (some (.ref l)) ∧ OwnAt s.R s.as s.H l ds ∧ Ow s l := by
  obtain ⟨l, h1, h2⟩ := st.own i ds e
  exact ⟨l, h1, h2, i, ds, e, h1⟩
/-- an object is added to the region -/
theorem Sta.addR (st : Sta B s) (hl : s.H l = some o) (hR : s.R l = none) (ha : l ∉ s.as) (ho : ¬ Ow s l) : Sta B { s with R := upd s.R l o } where
  base := st.base.trans (same_upd hR)
  reg := fun b u (e : upd s.R l o b = some u) => by
    show s.H b = some u
    by_cases q : b = l
    · subst q
      rw [upd_same] at e
      cases e
      exact hl
    · rw [upd_ne q] at e
      exact st.reg b u e
  len := st.len
  nd := st.nd
  there := st.there
  sto := fun k a x (e1 : s.as[k]? = some a) e2 => (st.sto k a x e1 e2).mono (same_upd hR) (Pre.refl _) (fun n => by
    show upd s.R l o a = none
    rw [upd_ne (fun z => ha (by rw [← z]; exact List.mem_of_getElem? e1))]
    exact n) rfl
  slen := st.slen
  imm := fun i x e => by
    obtain ⟨v, h1, h2⟩ := st.imm i x e
    exact ⟨v, h1, h2.mono (same_upd hR) (Pre.refl _)⟩
  own := fun i ds e => by
    obtain ⟨m, h1, h2⟩ := st.own i ds e
    refine ⟨m, h1, h2.mono (same_upd hR) (Pre.refl _) ?_ h2.2.1 rfl⟩
    show upd s.R l o m = none
    rw [upd_ne (fun z => ho ⟨i, ds, e, by rw [← z]; exact h1⟩)]
    exact h2.1
  dis := st.dis
theorem Tr.addR (t : Tr s0 s) (h0 : s0.H l = none ∨ l ∈ s0.as ∨ Ow s0 l) (hR : s.R l = none) : Tr s0 { s with R := upd s.R l o } :=
  ⟨t.reg.trans (same_upd hR), t.pre, t.frame, fun a n (n' : upd s.R l o a ≠ none) => by
    by_cases q : a = l
    · subst q
      exact h0
    · rw [upd_ne q] at n'
      exact t.rfr a n n', t.afr, t.ofr, t.dom⟩
/-- the heap grows by an object -/
theorem Sta.addH (st : Sta B s) (hp : s.H p = none) : Sta B { s with H := upd s.H p o } where
  base := st.base
  reg := st.reg.trans (same_upd hp)
  len := st.len
  nd := st.nd
  there := fun a m => by
    show upd s.H p o a ≠ none
    rw [upd_ne (fun z => st.there a m (by rw [z]; exact hp))]
    exact st.there a m
  sto := fun k a x (e1 : s.as[k]? = some a) e2 => (st.sto k a x e1 e2).mono (Same.refl _) (Pre.refl _) id (upd_ne fun z => st.there a (List.mem_of_getElem? e1) (by rw [z]; exact hp))
  slen := st.slen
  imm := st.imm
  own := fun i ds e => by
    obtain ⟨m, h1, h2⟩ := st.own i ds e
    refine ⟨m, h1, h2.mono (Same.refl _) (Pre.refl _) h2.1 h2.2.1 (upd_ne fun z => ?_)⟩
    obtain ⟨_, _, vs, h3, _⟩ := h2
    rw [z, hp] at h3
    cases h3
  dis := st.dis
theorem Tr.addH (t : Tr s0 s) (hp : s.H p = none) : Tr s0 { s with H := upd s.H p o } :=
  ⟨t.reg, t.pre, fun a u e n1 n2 => by
    have q := t.frame a u e n1 n2
    show upd s.H p o a = some u
    rw [upd_ne (ne_of_none q hp)]
    exact q, t.rfr, t.afr, t.ofr, fun a (n : upd s.H p o a = none) => by
    by_cases q : a = p
    · subst q
      rw [upd_same] at n
      cases n
    · rw [upd_ne q] at n
      exact t.dom a n⟩
theorem Ow.addH {b : Addr} : Ow { s with H := upd s.H p o } b ↔ Ow s b := Iff.rfl
/-- a slot is forgotten or given a value -/
def setW (w : Wd) (i : Nat) (z : SV) : Wd := ⟨w.env.set i z, w.sto⟩
theorem get_set_own {env : List SV} {i j : Nat} {z : SV} {ds : List D} (hz : ∀ ds, z ≠ .own ds) (h : (env.set i z)[j]? = some (.own ds)) : j ≠ i ∧ env[j]? = some (.own ds) := by
  rw [List.getElem?_set] at h
  by_cases q : i = j
  · rw [if_pos q] at h
    split at h
    · cases h
      exact (hz _ rfl).elim
    · cases h
  · rw [if_neg q] at h
    exact ⟨fun e => q e.symm, h⟩
theorem Sta.put (st : Sta B s) (r : RD s.R s.as v x) : Sta B { s with w := setW s.w i (.d x), σ := s.σ.set i (some v) } where
  base := st.base
  reg := st.reg
  len := st.len
  nd := st.nd
  there := st.there
  sto := st.sto
  slen := by show (s.w.env.set i _).length = (s.σ.set i _).length; rw [List.length_set, List.length_set, st.slen]
  imm := fun j y (e : (s.w.env.set i (.d x))[j]? = some (.d y)) => by
    show ∃ v', (s.σ.set i (some v))[j]? = some (some v') ∧ RD s.R s.as v' y
    by_cases q : i = j
    · subst q
      rw [List.getElem?_set] at e
      rw [if_pos rfl] at e
      split at e
      · rename_i hi
        cases e
        exact ⟨v, by rw [List.getElem?_set_self (by rw [← st.slen]; exact hi)], r⟩
      · cases e
    · rw [List.getElem?_set_ne q] at e
      obtain ⟨v', h1, h2⟩ := st.imm j y e
      exact ⟨v', by rw [List.getElem?_set_ne q]; exact h1, h2⟩
  own := fun j ds (e : (s.w.env.set i (.d x))[j]? = some (.own ds)) => by
    obtain ⟨q, e'⟩ := get_set_own (fun _ z => by cases z) e
    obtain ⟨m, h1, h2⟩ := st.own j ds e'
    exact ⟨m, by show (s.σ.set i (some v))[j]? = _; rw [List.getElem?_set_ne (fun z => q z.symm)]; exact h1, h2⟩
  dis := fun j k ds es l (e1 : (s.w.env.set i (.d x))[j]? = some (.own ds)) (e2 : (s.w.env.set i (.d x))[k]? = some (.own es)) (e3 : (s.σ.set i (some v))[j]? = _) (e4 : (s.σ.set i (some v))[k]? = _) => by
    obtain ⟨q1, e1'⟩ := get_set_own (fun _ z => by cases z) e1
    obtain ⟨q2, e2'⟩ := get_set_own (fun _ z => by cases z) e2
    rw [List.getElem?_set_ne (fun z => q1 z.symm)] at e3
    rw [List.getElem?_set_ne (fun z => q2 z.symm)] at e4
    exact st.dis j k ds es l e1' e2' e3 e4
theorem Ow.put {b : Addr} (h : Ow { s with w := setW s.w i (.d x), σ := s.σ.set i (some v) } b) : Ow s b := by
  obtain ⟨j, ds, (e1 : (s.w.env.set i (.d x))[j]? = some (.own ds)), (e2 : (s.σ.set i (some v))[j]? = _)⟩ := h
  obtain ⟨q, e'⟩ := get_set_own (fun _ z => by cases z) e1
  rw [List.getElem?_set_ne (fun z => q z.symm)] at e2
  exact ⟨j, ds, e', e2⟩
theorem Tr.put (t : Tr s0 s) : Tr s0 { s with w := setW s.w i (.d x), σ := s.σ.set i (some v) } :=
  ⟨t.reg, t.pre, t.frame, t.rfr, t.afr, fun a h => t.ofr a h.put, t.dom⟩
/-- a slot gets a list of its own -/
theorem get_set_self {α : Type} {l : List α} {i j : Nat} {x y : α} (h : (l.set i x)[j]? = some y) : (i = j ∧ i < l.length ∧ y = x) ∨ (i ≠ j ∧ l[j]? = some y) := by
  rw [List.getElem?_set] at h
  by_cases q : i = j
  · rw [if_pos q] at h
    split at h
    · rename_i hi
      cases h
      exact .inl ⟨q, hi, rfl⟩
    · cases h
  · rw [if_neg q] at h
    exact .inr ⟨q, h⟩
theorem Sta.putOwn (st : Sta B s) (r : OwnAt s.R s.as s.H l ds) (ho : ¬ Ow s l) : Sta B { s with w := setW s.w i (.own ds), σ := s.σ.set i (some (.ref l)) } where
  base := st.base
  reg := st.reg
  len := st.len
  nd := st.nd
  there := st.there
  sto := st.sto
  slen := by show (s.w.env.set i _).length = (s.σ.set i _).length; rw [List.length_set, List.length_set, st.slen]
  imm := fun j y (e : (s.w.env.set i (.own ds))[j]? = some (.d y)) => by
    show ∃ v', (s.σ.set i (some (.ref l)))[j]? = some (some v') ∧ RD s.R s.as v' y
    rcases get_set_self e with ⟨_, _, z⟩ | ⟨q, e'⟩
    · cases z
    · obtain ⟨v', h1, h2⟩ := st.imm j y e'
      exact ⟨v', by rw [List.getElem?_set_ne q]; exact h1, h2⟩
  own := fun j es (e : (s.w.env.set i (.own ds))[j]? = some (.own es)) => by
    show ∃ m, (s.σ.set i (some (.ref l)))[j]? = some (some (.ref m)) ∧ OwnAt s.R s.as s.H m es
    rcases get_set_self e with ⟨q, hi, z⟩ | ⟨q, e'⟩
    · cases z
      subst q
      exact ⟨l, by rw [List.getElem?_set_self (by rw [← st.slen]; exact hi)], r⟩
    · obtain ⟨m, h1, h2⟩ := st.own j es e'
      exact ⟨m, by rw [List.getElem?_set_ne q]; exact h1, h2⟩
  dis := fun j k as bs m (e1 : (s.w.env.set i (.own ds))[j]? = some (.own as)) (e2 : (s.w.env.set i (.own ds))[k]? = some (.own bs)) (e3 : (s.σ.set i (some (.ref l)))[j]? = _) (e4 : (s.σ.set i (some (.ref l)))[k]? = _) => by
    rcases get_set_self e1 with ⟨q1, h1, _⟩ | ⟨q1, e1'⟩
    · rcases get_set_self e2 with ⟨q2, _, _⟩ | ⟨q2, e2'⟩
      · exact q1.symm.trans q2
      · subst q1
        rw [List.getElem?_set_self (by rw [← st.slen]; exact h1)] at e3
        cases e3
        rw [List.getElem?_set_ne q2] at e4
        exact (ho ⟨k, _, e2', e4⟩).elim
    · rw [List.getElem?_set_ne q1] at e3
      rcases get_set_self e2 with ⟨q2, h2, _⟩ | ⟨q2, e2'⟩
      · subst q2
        rw [List.getElem?_set_self (by rw [← st.slen]; exact h2)] at e4
        cases e4
        exact (ho ⟨j, _, e1', e3⟩).elim
      · rw [List.getElem?_set_ne q2] at e4
        exact st.dis j k _ _ m e1' e2' e3 e4
theorem Ow.putOwn {b : Addr} (h : Ow { s with w := setW s.w i (.own ds), σ := s.σ.set i (some (.ref l)) } b) : b = l ∨ Ow s b := by
  obtain ⟨j, es, (e1 : (s.w.env.set i (.own ds))[j]? = some (.own es)), (e2 : (s.σ.set i (some (.ref l)))[j]? = _)⟩ := h
  rcases get_set_self e1 with ⟨q, hi, z⟩ | ⟨q, e'⟩
  · subst q
    rcases get_set_self e2 with ⟨_, _, z⟩ | ⟨q, _⟩
    · cases z
      exact .inl rfl
    · exact (q rfl).elim
  · rw [List.getElem?_set_ne q] at e2
    exact .inr ⟨j, es, e', e2⟩
theorem Tr.putOwn (t : Tr s0 s) (h0 : s0.H l = none) : Tr s0 { s with w := setW s.w i (.own ds), σ := s.σ.set i (some (.ref l)) } :=
  ⟨t.reg, t.pre, t.frame, t.rfr, t.afr, fun a h => by
    rcases h.putOwn with q | q
    · rw [q]
      exact .inr h0
    · exact t.ofr a q, t.dom⟩
/-- a slot's own list stands still from now on -/
theorem Sta.frz (st : Sta B s) (e : s.w.env[i]? = some (.own ds)) : ∃ l vs, s.σ[i]? = some (some (.ref l)) ∧ s.H l = some (.lst vs) ∧ RDs s.R s.as vs ds ∧
    Sta B { s with R := upd s.R l (.lst vs), w := setW s.w i (.d (.lst ds)) } ∧ (∀ s0, Tr s0 s → Tr s0 { s with R := upd s.R l (.lst vs), w := setW s.w i (.d (.lst ds)) }) ∧ RD (upd s.R l (.lst vs)) s.as (.ref l) (.lst ds) := by
  obtain ⟨l, h1, ⟨hR, ha, vs, hl, r⟩, ow⟩ := st.ownEx e
  have hi : i < s.σ.length := (List.getElem?_eq_some_iff.mp h1).1
  have rl : RD (upd s.R l (.lst vs)) s.as (.ref l) (.lst ds) := .lst upd_same (r.mono (same_upd hR) (Pre.refl _))
  have sub : ∀ b, Ow { s with R := upd s.R l (.lst vs), w := setW s.w i (.d (.lst ds)) } b → Ow s b ∧ b ≠ l := fun b ⟨j, es, e1, e2⟩ => by
    obtain ⟨q, e'⟩ := get_set_own (fun _ z => by cases z) e1
    refine ⟨⟨j, es, e', e2⟩, fun z => ?_⟩
    subst z
    exact q (st.dis j i es ds b e' e e2 h1)
  refine ⟨l, vs, h1, hl, r, ⟨st.base.trans (same_upd hR), fun b u (q : upd s.R l (.lst vs) b = some u) => ?_, st.len, st.nd, st.there, fun k a x (e1 : s.as[k]? = some a) e2 => (st.sto k a x e1 e2).mono (same_upd hR) (Pre.refl _) (fun n => ?_) rfl, ?_, fun j y (q : (s.w.env.set i _)[j]? = _) => ?_, fun j es (q : (s.w.env.set i _)[j]? = _) => ?_, fun j k as bs m (e1 : (s.w.env.set i _)[j]? = _) (e2 : (s.w.env.set i _)[k]? = _) e3 e4 => ?_⟩,
    fun s0 t => ⟨t.reg.trans (same_upd hR), t.pre, t.frame, fun a n n' => ?_, t.afr, fun a h => t.ofr a (sub a h).1, t.dom⟩, rl⟩
  · show s.H b = some u
    by_cases z : b = l
    · subst z
      rw [upd_same] at q
      cases q
      exact hl
    · rw [upd_ne z] at q
      exact st.reg b u q
  · show upd s.R l _ a = none
    rw [upd_ne (fun z => ha (by rw [← z]; exact List.mem_of_getElem? e1))]
    exact n
  · show (s.w.env.set i _).length = _
    rw [List.length_set]
    exact st.slen
  · rcases get_set_self q with ⟨q1, _, z⟩ | ⟨q1, e'⟩
    · cases z
      subst q1
      exact ⟨.ref l, h1, rl⟩
    · obtain ⟨v, h2, h3⟩ := st.imm j y e'
      exact ⟨v, h2, h3.mono (same_upd hR) (Pre.refl _)⟩
  · obtain ⟨q1, e'⟩ := get_set_own (fun _ z => by cases z) q
    obtain ⟨m, h2, h3⟩ := st.own j es e'
    refine ⟨m, h2, h3.mono (same_upd hR) (Pre.refl _) ?_ h3.2.1 rfl⟩
    show upd s.R l _ m = none
    rw [upd_ne (fun z => q1 (st.dis j i es ds l e' e (by rw [← z]; exact h2) h1))]
    exact h3.1
  · obtain ⟨_, e1'⟩ := get_set_own (fun _ z => by cases z) e1
    obtain ⟨_, e2'⟩ := get_set_own (fun _ z => by cases z) e2
    exact st.dis j k as bs m e1' e2' e3 e4
  · by_cases z : a = l
    · subst z
      by_cases q : s.H a = none
      · rw [hl] at q
        cases q
      · rcases t.ofr a ow with y | y
        · exact .inr (.inr y)
        · exact .inl y
    · have n'' : upd s.R l (.lst vs) a ≠ none := n'
      rw [upd_ne z] at n''
      exact t.rfr a n n''
/-- a slot's own list is changed -/
theorem Sta.ownUpd (st : Sta B s) (e : s.w.env[i]? = some (.own ds)) (hl : s.σ[i]? = some (some (.ref l))) (r : RDs s.R s.as us es) : Sta B { s with H := upd s.H l (.lst us), w := setW s.w i (.own es) } := by
  obtain ⟨l', h1, ⟨hR, ha, vs, hl', _⟩, ow⟩ := st.ownEx e
  rw [hl] at h1
  cases h1
  have hi : i < s.w.env.length := (List.getElem?_eq_some_iff.mp e).1
  refine ⟨st.base, fun b u q => ?_, st.len, st.nd, fun a m => ?_, fun k a x (e1 : s.as[k]? = some a) e2 => (st.sto k a x e1 e2).mono (Same.refl _) (Pre.refl _) id (upd_ne fun z => ha (by rw [← z]; exact List.mem_of_getElem? e1)), ?_, fun j y (q : (s.w.env.set i _)[j]? = _) => ?_, fun j es' (q : (s.w.env.set i _)[j]? = _) => ?_, fun j k as bs m (e1 : (s.w.env.set i _)[j]? = _) (e2 : (s.w.env.set i _)[k]? = _) e3 e4 => ?_⟩
  · show upd s.H l _ b = some u
    rw [upd_ne (fun z => by rw [z, hR] at q; cases q)]
    exact st.reg b u q
  · show upd s.H l _ a ≠ none
    rw [upd_ne (fun z => ha (by rw [← z]; exact m))]
    exact st.there a m
  · show (s.w.env.set i _).length = _
    rw [List.length_set]
    exact st.slen
  · rcases get_set_self q with ⟨q1, _, z⟩ | ⟨q1, e'⟩
    · cases z
    · exact st.imm j y e'
  · rcases get_set_self q with ⟨q1, _, z⟩ | ⟨q1, e'⟩
    · cases z
      subst q1
      exact ⟨l, hl, hR, ha, us, upd_same, r⟩
    · obtain ⟨m, h2, h3⟩ := st.own j es' e'
      exact ⟨m, h2, h3.mono (Same.refl _) (Pre.refl _) h3.1 h3.2.1 (upd_ne fun z => q1 (st.dis i j ds es' l e e' hl (by rw [← z]; exact h2)))⟩
  · rcases get_set_self e1 with ⟨q1, _, _⟩ | ⟨q1, e1'⟩
    · rcases get_set_self e2 with ⟨q2, _, _⟩ | ⟨q2, e2'⟩
      · exact q1.symm.trans q2
      · subst q1
        exact st.dis i k ds bs m e e2' e3 e4
    · rcases get_set_self e2 with ⟨q2, _, _⟩ | ⟨q2, e2'⟩
      · subst q2
        exact st.dis j i as ds m e1' e e3 e4
      · exact st.dis j k as bs m e1' e2' e3 e4
theorem Tr.ownUpd (st : Sta B s) (t : Tr s0 s) (e : s.w.env[i]? = some (.own ds)) (hl : s.σ[i]? = some (some (.ref l))) : Tr s0 { s with H := upd s.H l (.lst us), w := setW s.w i (.own es) } := by
  have ow : Ow s l := ⟨i, ds, e, hl⟩
  refine ⟨t.reg, t.pre, fun a u q n1 n2 => ?_, t.rfr, t.afr, fun a h => ?_, fun a n => ?_⟩
  · show upd s.H l _ a = some u
    rw [upd_ne ?_]
    · exact t.frame a u q n1 n2
    · rintro rfl
      rcases t.ofr a ow with y | y
      · exact n2 y
      · rw [y] at q
        cases q
  · obtain ⟨j, fs, (e1 : (s.w.env.set i _)[j]? = _), e2⟩ := h
    refine t.ofr a ?_
    rcases get_set_self e1 with ⟨q1, _, _⟩ | ⟨q1, e1'⟩
    · subst q1
      exact ⟨i, ds, e, e2⟩
    · exact ⟨j, fs, e1', e2⟩
  · have n' : upd s.H l (.lst us) a = none := n
    by_cases z : a = l
    · subst z
      rw [upd_same] at n'
      cases n'
    · rw [upd_ne z] at n'
      exact t.dom a n'
theorem nodup_ixA {N : List Addr} (hN : N.Nodup) {i j : Nat} {x : Addr} (a : N[i]? = some x) (b : N[j]? = some x) : i = j := by
  obtain ⟨h1, e1⟩ := List.getElem?_eq_some_iff.mp a
  obtain ⟨h2, e2⟩ := List.getElem?_eq_some_iff.mp b
  exact (List.getElem_inj hN).mp (e1.trans e2.symm)
/-- an object of the store is changed (or goes into the region: gone) -/
theorem Sta.stoUpd (st : Sta B s) (e : s.as[k]? = some a) (hR : s.R a = none) (r : OR s.R s.as (upd s.H a o) a z) : Sta B { s with H := upd s.H a o, w := ⟨s.w.env, s.w.sto.set k z⟩ } := by
  have ow : ¬ Ow s a := fun ⟨i, ds, e1, e2⟩ => by
    obtain ⟨l, e3, _, n, _⟩ := st.own i ds e1
    rw [e2] at e3
    cases e3
    exact n (List.mem_of_getElem? e)
  refine ⟨st.base, fun b u q => ?_, ?_, st.nd, fun b m => ?_, fun j b x e1 (e2 : (s.w.sto.set k z)[j]? = some x) => ?_, st.slen, st.imm, fun j ds q => ?_, st.dis⟩
  · show upd s.H a o b = some u
    rw [upd_ne (fun z => by rw [z, hR] at q; cases q)]
    exact st.reg b u q
  · show _ = (s.w.sto.set k z).length
    rw [List.length_set]
    exact st.len
  · show upd s.H a o b ≠ none
    by_cases q : b = a
    · rw [q, upd_same]
      exact fun z => by cases z
    · rw [upd_ne q]
      exact st.there b m
  · show OR s.R s.as (upd s.H a o) b x
    rcases get_set_self e2 with ⟨q1, _, y⟩ | ⟨q1, e2'⟩
    · subst q1
      subst y
      have e1' : s.as[k]? = some b := e1
      rw [e] at e1'
      cases e1'
      exact r
    · refine (st.sto j b x e1 e2').mono (Same.refl _) (Pre.refl _) id (upd_ne fun z => ?_)
      subst z
      exact q1 (nodup_ixA st.nd e e1)
  · obtain ⟨m, h2, h3⟩ := st.own j ds q
    exact ⟨m, h2, h3.mono (Same.refl _) (Pre.refl _) h3.1 h3.2.1 (upd_ne fun z => ow ⟨j, ds, q, by rw [← z]; exact h2⟩)⟩
theorem Tr.stoUpd (t : Tr s0 s) (e : s.as[k]? = some a) : Tr s0 { s with H := upd s.H a o, w := ⟨s.w.env, s.w.sto.set k z⟩ } := by
  refine ⟨t.reg, t.pre, fun b u q n1 n2 => ?_, t.rfr, t.afr, t.ofr, fun b n => ?_⟩
  · show upd s.H a o b = some u
    rw [upd_ne ?_]
    · exact t.frame b u q n1 n2
    · rintro rfl
      rcases t.afr b (List.mem_of_getElem? e) with y | y
      · exact n1 y
      · rw [y] at q
        cases q
  · have n' : upd s.H a o b = none := n
    by_cases q : b = a
    · rw [q, upd_same] at n'
      cases n'
    · rw [upd_ne q] at n'
      exact t.dom b n'
/-- a new object of the store -/
theorem Sta.stoNew (st : Sta B s) (hR : s.R p = none) (ha : p ∉ s.as) (ho : ¬ Ow s p) (hp : s.H p ≠ none) (r : OR s.R (s.as ++ [p]) s.H p z) : Sta B { s with as := s.as ++ [p], w := ⟨s.w.env, s.w.sto ++ [z]⟩ } := by
  refine ⟨st.base, st.reg, ?_, ?_, fun b m => ?_, fun j b x e1 e2 => ?_, st.slen, fun j x q => ?_, fun j ds q => ?_, st.dis⟩
  · show (s.as ++ [p]).length = (s.w.sto ++ [z]).length
    rw [List.length_append, List.length_append, st.len]
    rfl
  · exact List.nodup_append.mpr ⟨st.nd, by simp, fun a h b h' q => by simp at h'; subst h'; subst q; exact ha h⟩
  · rcases List.mem_append.mp m with q | q
    · exact st.there b q
    · simp at q
      subst q
      exact hp
  · have e1' : (s.as ++ [p])[j]? = some b := e1
    have e2' : (s.w.sto ++ [z])[j]? = some x := e2
    by_cases q : j < s.as.length
    · rw [List.getElem?_append_left q] at e1'
      rw [List.getElem?_append_left (by rw [← st.len]; exact q)] at e2'
      exact (st.sto j b x e1' e2').mono (Same.refl _) (Pre.app _ _) id rfl
    · rw [List.getElem?_append_right (by omega)] at e1'
      rw [List.getElem?_append_right (by rw [← st.len]; omega)] at e2'
      have hj : j - s.as.length = 0 := by
        have := (List.getElem?_eq_some_iff.mp e1').1
        simp at this
        omega
      rw [← st.len, hj] at e2'
      rw [hj] at e1'
      simp at e1' e2'
      subst e1'
      subst e2'
      exact r
  · obtain ⟨v, h1, h2⟩ := st.imm j x q
    exact ⟨v, h1, h2.mono (Same.refl _) (Pre.app _ _)⟩
  · obtain ⟨m, h2, h3⟩ := st.own j ds q
    refine ⟨m, h2, h3.mono (Same.refl _) (Pre.app _ _) h3.1 (fun z => ?_) rfl⟩
    rcases List.mem_append.mp z with y | y
    · exact h3.2.1 y
    · simp at y
      subst y
      exact ho ⟨j, ds, q, h2⟩
theorem Tr.stoNew (t : Tr s0 s) (h0 : s0.H p = none) : Tr s0 { s with as := s.as ++ [p], w := ⟨s.w.env, s.w.sto ++ [z]⟩ } :=
  ⟨t.reg, t.pre.trans (Pre.app _ _), t.frame, t.rfr, fun a m => by
    rcases List.mem_append.mp m with y | y
    · exact t.afr a y
    · simp at y
      subst y
      exact .inr h0, t.ofr, t.dom⟩
end
end PD

set_option maxHeartbeats 1000000
namespace PD
open PySem PySem.Spec PyProof.Rows L2

/-! ### names, constants, operands -/
def mVar (i : Nat) : M D := fun w => match w.env[i]? with
  | some (.d x) => some (.ok x w)
  | some (.own xs) => some (.ok (.lst xs) (setW w i (.d (.lst xs))))
  | _ => none
def oVar (i : Nat) : M Op := fun w => match w.env[i]? with
  | some (.d _) => some (.ok (.s i) w)
  | some (.own _) => some (.ok (.s i) w)
  | _ => none
def oE (m : M D) : M Op := bnd m fun d => mpure (.v d)
def RV.toD : RV → D
  | .d x => x
  | .l xs => .lst xs
def mFrz (m : M RV) : M D := bnd m fun r => mpure r.toD
def mRV (m : M D) : M RV := bnd m fun d => mpure (.d d)
/-- a list of the store is seen as its items -/
def rs (sto : List O) (d : D) : D := match d with
  | .o k => (match sto[k]? with
    | some (.lst xs) => .lst xs
    | _ => .o k)
  | d => d
def Op.get (o : Op) (w : Wd) : Option D := match o with
  | .v d => some (rs w.sto d)
  | .s i => (match w.env[i]? with
    | some (.d x) => some (rs w.sto x)
    | some (.own xs) => some (.lst xs)
    | _ => none)
inductive PR (s : CS) : V → D → Prop where
  | rd {v : V} {d : D} : RD s.R s.as v d → PR s v d
  | li {a : Addr} {vs : List V} {ds : List D} : s.H a = some (.lst vs) → RDs s.R s.as vs ds → PR s (.ref a) (.lst ds)
inductive PRs (s : CS) : List V → List D → Prop where
  | nil : PRs s [] []
  | cons {v : V} {vs : List V} {d : D} {ds : List D} : PR s v d → PRs s vs ds → PRs s (v :: vs) (d :: ds)
section
variable {B : Hp} {W : WX} {X : Cx} {s s0 s1 s2 : CS} {v : V} {d x : D} {oo : Op} {ds : List D} {e a b : Expr} {ta tb te : TE} {pos : Pos} {z : RV}
theorem PR.lst (st : Sta B s) (h : PR s v (.lst ds)) : ∃ a vs, v = .ref a ∧ s.H a = some (.lst vs) ∧ RDs s.R s.as vs ds := by
  cases h with
  | rd h => cases h with
    | lst h1 h2 => exact ⟨_, _, rfl, st.reg _ _ h1, h2⟩
  | li h1 h2 => exact ⟨_, _, rfl, h1, h2⟩
theorem PR.tup (st : Sta B s) (h : PR s v (.tup ds)) : ∃ a vs, v = .ref a ∧ s.H a = some (.tup vs) ∧ RDs s.R s.as vs ds := by
  cases h with
  | rd h => cases h with
    | tup h1 h2 => exact ⟨_, _, rfl, st.reg _ _ h1, h2⟩
theorem PR.int {i : Int} (h : PR s v (.int i)) : v = .int i := by
  cases h with
  | rd h => cases h; rfl
theorem PR.bl {i : Bool} (h : PR s v (.bl i)) : v = .bl i := by
  cases h with
  | rd h => cases h; rfl
theorem PR.str {i : Str} (h : PR s v (.str i)) : v = .str i := by
  cases h with
  | rd h => cases h; rfl
theorem PR.non (h : PR s v .non) : v = .non := by
  cases h with
  | rd h => cases h; rfl
theorem PR.ref {a : Addr} (h : PR s v (.ref a)) : v = .ref a := by
  cases h with
  | rd h => cases h; rfl
theorem PR.o {k : Nat} (h : PR s v (.o k)) : ∃ a, v = .ref a ∧ s.as[k]? = some a := by
  cases h with
  | rd h => cases h with
    | o h => exact ⟨_, rfl, h⟩
theorem rs_ok (st : Sta B s) (h : RD s.R s.as v d) : PR s v (rs s.w.sto d) := by
  cases h with
  | @o a k h =>
    show PR s (.ref a) (match s.w.sto[k]? with | some (.lst xs) => .lst xs | _ => .o k)
    split
    · rename_i xs e
      obtain ⟨_, vs, h1, h2⟩ := st.sto k a _ h e
      exact .li h1 h2
    · exact .rd (.o h)
  | non => exact .rd .non
  | bl b => exact .rd (.bl b)
  | int b => exact .rd (.int b)
  | str b => exact .rd (.str b)
  | ref b => exact .rd (.ref b)
  | lst h r => exact .rd (.lst h r)
  | tup h r => exact .rd (.tup h r)
theorem get_ok (st : Sta B s) (h : relP s0 s v oo) (e : oo.get s.w = some d) : PR s v d := by
  cases oo with
  | v y =>
    have e' : some (rs s.w.sto y) = some d := e
    cases e'
    exact rs_ok st h
  | s i =>
    have h' : s.σ[i]? = some (some v) := h
    have e' : (match s.w.env[i]? with | some (.d x) => some (rs s.w.sto x) | some (.own xs) => some (.lst xs) | _ => none) = some d := e
    split at e'
    · rename_i x q
      cases e'
      obtain ⟨v', h1, h2⟩ := st.imm i x q
      rw [h'] at h1
      cases h1
      exact rs_ok st h2
    · rename_i xs q
      cases e'
      obtain ⟨l, h1, _, _, vs, h2, h3⟩ := st.own i xs q
      rw [h'] at h1
      cases h1
      exact .li h2 h3
    · cases e'
theorem relP.tr (h : relP s0 s1 v oo) (t : Tr s1 s2) (e : s2.σ = s1.σ) : relP s0 s2 v oo := by
  cases oo with
  | v y => exact RD.mono t.reg t.pre h
  | s i =>
    show s2.σ[i]? = some (some v)
    rw [e]
    exact h
theorem relF.tr (t : Tr s0 s1) (h : relF s1 s2 v z) : relF s0 s2 v z := by
  cases z with
  | d y => exact h
  | l ds =>
    obtain ⟨l, h1, h2, h3, h4⟩ := h
    exact ⟨l, h1, t.dom l h2, h3, h4⟩
/-- a reading run: from its meaning's end -/
theorem Sp1.run {α β : Type} {rel : CS → CS → β → α → Prop} {t : L2.St → Hp → (β → Hp → Prop) → Prop} {m : M α} (h : Sp1 B W rel t m) (st : Sta B s) (t0 : Tr s0 s) {Q : β → Hp → Prop} {P : α → Wd → Prop} (hw : wpM (m s.w) P (XP B W s0))
    (hq : ∀ a s', Sta B s' → Tr s s' → s'.σ = s.σ → P a s'.w → ∀ b, rel s s' b a → Q b s'.H) : t s.σ s.H Q :=
  h s Q st (wpM_mono hw (fun a w' p s' st' t' ew es b r => hq a s' st' t' es (by rw [ew]; exact p) b r) fun x w' q => q.tr t0)
theorem ge_c {v : V} (h : PE X e (tC v)) (r : ∀ R as, RD R as v d) : GE B W X e (tC v) (mpure d) := ⟨h, fun s Q st q => q s st (Tr.refl s) rfl rfl v (r _ _)⟩
theorem ge_int {i j} : GE B W X (.Constant (.int i) j pos) (tC (.int i)) (mpure (.int i)) := ge_c pe_int fun _ _ => .int i
theorem ge_bl {i j} : GE B W X (.Constant (.bool i) j pos) (tC (.bl i)) (mpure (.bl i)) := ge_c pe_bl fun _ _ => .bl i
theorem ge_str {i j} : GE B W X (.Constant (.str i) j pos) (tC (.str i)) (mpure (.str i)) := ge_c pe_str fun _ _ => .str i
theorem ge_non {j} : GE B W X (.Constant .none j pos) (tC .non) (mpure .non) := ge_c pe_non fun _ _ => .non
theorem ge_glob {y : Str} {f : Addr} (hg : Gl X y) (hm : X.mg y = some (.ref f)) (hd : (y == ("__debug__" : Str)) = false := by decide) : GE B W X (.Name y pos) (tC (.ref f)) (mpure (.ref f)) := ge_c (pe_glob hg hm rfl hd) fun _ _ => .ref f
theorem ge_globI {y : Str} {i : Int} (hg : Gl X y) (hm : ∃ t, X.mg y = some (.int i t)) (hd : (y == ("__debug__" : Str)) = false := by decide) : GE B W X (.Name y pos) (tC (.int i)) (mpure (.int i)) := by
  obtain ⟨t, hm⟩ := hm
  exact ge_c (pe_glob hg hm ⟨t, rfl⟩ hd) fun _ _ => .int i
theorem sp_var {i : Nat} : Sp1 B W relE (tVar i) (mVar i) := fun s Q st h => by
  have h' : wpM (match s.w.env[i]? with | some (.d x) => some (.ok x s.w) | some (.own xs) => some (.ok (.lst xs) (setW s.w i (.d (.lst xs)))) | _ => none) _ _ := h
  split at h'
  · rename_i x e
    obtain ⟨v, h1, h2⟩ := st.imm i x e
    exact ⟨v, h1, h' s st (Tr.refl s) rfl rfl v h2⟩
  · rename_i xs e
    obtain ⟨l, vs, h1, _, _, st', t', r⟩ := st.frz e
    exact ⟨.ref l, h1, h' _ st' (t' s (Tr.refl s)) rfl rfl _ r⟩
  · exact h'.elim
theorem ge_var (i : Nat) {y : Str} (h : PE X (.Name y pos) (tVar i)) : GE B W X (.Name y pos) (tVar i) (mVar i) := ⟨h, sp_var⟩
theorem gp_var (i : Nat) {y : Str} (h : PE X (.Name y pos) (tVar i)) : GP B W X (.Name y pos) (tVar i) (oVar i) := ⟨h, fun s Q st h => by
  have h' : wpM (match s.w.env[i]? with | some (.d x) => some (.ok (Op.s i) s.w) | some (.own xs) => some (.ok (Op.s i) s.w) | _ => none) _ _ := h
  split at h'
  · rename_i x e
    obtain ⟨v, h1, h2⟩ := st.imm i x e
    exact ⟨v, h1, h' s st (Tr.refl s) rfl rfl v h1⟩
  · rename_i xs e
    obtain ⟨l, h1, _⟩ := st.own i xs e
    exact ⟨.ref l, h1, h' s st (Tr.refl s) rfl rfl _ h1⟩
  · exact h'.elim⟩
theorem gp_e {m : M D} (h : GE B W X e te m) : GP B W X e te (oE m) := ⟨h.pe, fun s Q st q => h.sp.run st (Tr.refl s) (wpM_bnd.mp q) fun a s' st' t' es p b r => p s' st' t' rfl es b r⟩
theorem gf_e {m : M D} (h : GE B W X e te m) : GF B W X e te (mRV m) := ⟨h.pe, fun s Q st q => h.sp.run st (Tr.refl s) (wpM_bnd.mp q) fun a s' st' t' es p b r => p s' st' t' rfl es b r⟩
theorem NewL.frz (st : Sta B s1) (t : Tr s0 s1) (h : NewL s0 s1 v ds) : ∃ s', Sta B s' ∧ Tr s0 s' ∧ s'.w = s1.w ∧ s'.σ = s1.σ ∧ s'.H = s1.H ∧ RD s'.R s'.as v (.lst ds) := by
  obtain ⟨l, rfl, h0, ho, hR, ha, vs, hl, r⟩ := h
  exact ⟨_, st.addR hl hR ha ho, t.addR (o := .lst vs) (.inl h0) hR, rfl, rfl, rfl, .lst upd_same (r.mono (same_upd hR) (Pre.refl _))⟩
theorem ge_f {m : M RV} (h : GF B W X e te m) : GE B W X e te (mFrz m) := ⟨h.pe, fun s Q st q => h.sp.run st (Tr.refl s) (wpM_bnd.mp q) fun a s' st' t' es p b r => by
  cases a with
  | d x => exact p s' st' t' rfl es b r
  | l ds =>
    obtain ⟨s2, st2, t2, ew, es2, eH, r2⟩ := NewL.frz st' t' r
    rw [← eH]
    exact p s2 st2 t2 ew (es2.trans es) b r2⟩
theorem gp_f {m : M RV} (h : GF B W X e te m) : GP B W X e te (oE (mFrz m)) := gp_e (ge_f h)

/-! ### operations on values -/
/-- the end of an operation in the state s -/
def Fin1 (B : Hp) (s : CS) (z : RV) (Q : VK) : Prop := ∀ s', Sta B s' → Tr s s' → s'.w = s.w → s'.σ = s.σ → ∀ v, relF s s' v z → Q v s'.H
theorem Fin1.val {Q : VK} (h : Fin1 B s (.d x) Q) (st : Sta B s) (r : RD s.R s.as v x) : Q v s.H := h s st (Tr.refl s) rfl rfl v r
theorem Fin1.new {Q : VK} {p : Addr} {vs : List V} (h : Fin1 B s (.l ds) Q) (st : Sta B s) (hp : s.H p = none) (r : RDs s.R s.as vs ds) : Q (.ref p) (upd s.H p (.lst vs)) :=
  h { s with H := upd s.H p (.lst vs) } (st.addH hp) ((Tr.refl s).addH hp) rfl rfl _ ⟨p, rfl, hp, st.freshO hp, st.freshR hp, st.freshA hp, vs, upd_same, r⟩
theorem Sta.newTup {p : Addr} {vs : List V} (st : Sta B s) (hp : s.H p = none) (r : RDs s.R s.as vs ds) :
    Sta B { s with H := upd s.H p (.tup vs), R := upd s.R p (.tup vs) } ∧ (∀ s0, Tr s0 s → Tr s0 { s with H := upd s.H p (.tup vs), R := upd s.R p (.tup vs) }) ∧ RD (upd s.R p (.tup vs)) s.as (.ref p) (.tup ds) := by
  have st1 := st.addH (o := .tup vs) hp
  refine ⟨st1.addR (o := .tup vs) upd_same (st.freshR hp) (st.freshA hp) (st.freshO hp), fun s0 t => (t.addH (o := .tup vs) hp).addR (o := .tup vs) (.inl (t.dom p hp)) (st.freshR hp), .tup upd_same (r.mono (same_upd (st.freshR hp)) (Pre.refl _))⟩
theorem Fin1.tup {Q : VK} {p : Addr} {vs : List V} (h : Fin1 B s (.d (.tup ds)) Q) (st : Sta B s) (hp : s.H p = none) (r : RDs s.R s.as vs ds) : Q (.ref p) (upd s.H p (.tup vs)) := by
  obtain ⟨st', t', r'⟩ := st.newTup hp r
  exact h _ st' (t' s (Tr.refl s)) rfl rfl _ r'
def Ok1 (r : V → Hp → VK → Prop) (f : D → Option RV) : Prop := ∀ (B : Hp) (s : CS) (v : V) (d : D) (z : RV) (Q : VK), Sta B s → PR s v d → f d = some z → Fin1 B s z Q → r v s.H Q
def Ok2 (r : R2) (f : D → D → Option RV) : Prop := ∀ (B : Hp) (s : CS) (v u : V) (d e : D) (z : RV) (Q : VK), Sta B s → PR s v d → PR s u e → f d e = some z → Fin1 B s z Q → r v u s.H Q
def OkA (r : List V → Hp → VK → Prop) (f : List D → Option RV) : Prop := ∀ (B : Hp) (s : CS) (vs : List V) (ds : List D) (z : RV) (Q : VK), Sta B s → PRs s vs ds → f ds = some z → Fin1 B s z Q → r vs s.H Q
def lift {α : Type} (o : Option α) : M α := fun w => match o with
  | some a => some (.ok a w)
  | none => none
def m1 (f : D → Option RV) (ma : M Op) : M RV := bnd ma fun o w => match o.get w with
  | some d => (match f d with
    | some z => some (.ok z w)
    | none => none)
  | none => none
def m2 (f : D → D → Option RV) (ma mb : M Op) : M RV := bnd ma fun o => bnd mb fun p w => match o.get w, p.get w with
  | some d, some e => (match f d e with
    | some z => some (.ok z w)
    | none => none)
  | _, _ => none
theorem sp_un {r : V → Hp → VK → Prop} {f : D → Option RV} {ma : M Op} (ha : Sp1 B W relP ta ma) (ok : Ok1 r f) : Sp1 B W relF (tUn r ta) (m1 f ma) := fun s Q st q => by
  refine ha.run st (Tr.refl s) (wpM_bnd.mp q) fun o s1 st1 t1 es p v r1 => ?_
  split at p
  · rename_i d e1
    split at p
    · rename_i z e2
      exact ok B s1 v d z Q st1 (get_ok st1 r1 e1) e2 fun s2 st2 t2 ew es2 u r2 => p s2 st2 (t1.trans t2) ew (es2.trans es) u (relF.tr t1 r2)
    · exact p.elim
  · exact p.elim
theorem sp_bin {r : R2} {f : D → D → Option RV} {ma mb : M Op} (ha : Sp1 B W relP ta ma) (hb : Sp1 B W relP tb mb) (ok : Ok2 r f) : Sp1 B W relF (tOp r ta tb) (m2 f ma mb) := fun s Q st q => by
  refine ha.run st (Tr.refl s) (wpM_bnd.mp q) fun o s1 st1 t1 es p v r1 => ?_
  rw [← es]
  refine hb.run st1 t1 (wpM_bnd.mp p) fun o2 s2 st2 t2 es2 p2 u r2 => ?_
  split at p2
  · rename_i d e e1 e2
    split at p2
    · rename_i z e3
      exact ok B s2 v u d e z Q st2 (get_ok st2 (r1.tr t2 es2) e1) (get_ok st2 r2 e2) e3 fun s3 st3 t3 ew es3 x r3 => p2 s3 st3 ((t1.trans t2).trans t3) ew (es3.trans (es2.trans es)) x (relF.tr (t1.trans t2) r3)
    · exact p2.elim
  · exact p2.elim
theorem gf_op {op : Operator} {r : R2} {f : D → D → Option RV} {ma mb : M Op} (ok : Ok2 r f) (ho : OpR X (binaryOp op) r) (ha : GP B W X a ta ma) (hb : GP B W X b tb mb) : GF B W X (.BinOp a op b pos) (tOp r ta tb) (m2 f ma mb) := ⟨pe_op ho ha.pe hb.pe, sp_bin ha.sp hb.sp ok⟩
theorem gf_un {op : UnaryOp} {r : V → Hp → VK → Prop} {f : D → Option RV} {ma : M Op} (ok : Ok1 r f) (ho : UnR X (unaryOp op) r) (ha : GP B W X a ta ma) : GF B W X (.UnaryOp op a pos) (tUn r ta) (m1 f ma) := ⟨pe_un ho ha.pe, sp_un ha.sp ok⟩
theorem gf_cmp {op : CmpOp} {r : R2} {f : D → D → Option RV} {ma mb : M Op} (ok : Ok2 r f) (ho : OpR X (compareOp op) r) (ha : GP B W X a ta ma) (hb : GP B W X b tb mb) (hm : behindInMarks op b = false) : GF B W X (.Compare a [op] [b] pos) (tOp r ta tb) (m2 f ma mb) := ⟨pe_cmpR ho ha.pe hb.pe hm, sp_bin ha.sp hb.sp ok⟩
def asB : RV → Option Bool
  | .d (.bl b) => some b
  | _ => none
def mB (m : M RV) : M Bool := bnd m fun z w => match asB z with
  | some b => some (.ok b w)
  | none => none
theorem sp_test {t : TE} {m : M RV} (h : Sp1 B W relF t m) : Sp1 B W relB (tTest t) (mB m) := fun s Q st q => by
  refine h.run st (Tr.refl s) (wpM_bnd.mp q) fun z s1 st1 t1 es p v r => ?_
  split at p
  · rename_i b e
    cases z with
    | l xs => cases e
    | d x => cases x with
      | bl k =>
        cases e
        cases r
        exact ⟨_, rfl, p s1 st1 t1 rfl es _ rfl⟩
      | _ => cases e
  · exact p.elim
theorem gt_cmp {op : CmpOp} {r : R2} {f : D → D → Option RV} {ma mb : M Op} (ok : Ok2 r f) (ho : OpR X (compareOp op) r) (ha : GP B W X a ta ma) (hb : GP B W X b tb mb) (hm : behindInMarks op b = false) : GT B W X (.Compare a [op] [b] pos) (tTest (tOp r ta tb)) (mB (m2 f ma mb)) := ⟨pt_cmpR ho ha.pe hb.pe hm, sp_test (sp_bin ha.sp hb.sp ok)⟩
/-- a op b op' c -/
def mChain (f g : D → D → Option RV) (ma mb mc : M Op) : M RV := bnd ma fun o => bnd mb fun p w => match o.get w, p.get w with
  | some d, some e => (match f d e with
    | some z => (match asB z with
      | some true => bnd mc (fun q w2 => match p.get w2, q.get w2 with
        | some d2, some e2 => (match g d2 e2 with
          | some z => some (.ok z w2)
          | none => none)
        | _, _ => none) w
      | some false => some (.ok (.d (.bl false)) w)
      | none => none)
    | none => none)
  | _, _ => none
theorem asB_some {z : RV} {b : Bool} (h : asB z = some b) : z = .d (.bl b) := by
  cases z with
  | l xs => cases h
  | d x => cases x with
    | bl k => cases h; rfl
    | _ => cases h
theorem sp_chain {c : Expr} {tc : TE} {r r' : R2} {f g : D → D → Option RV} {ma mb mc : M Op} (ha : Sp1 B W relP ta ma) (hb : Sp1 B W relP tb mb) (hc : Sp1 B W relP tc mc) (ok : Ok2 r f) (ok' : Ok2 r' g) : Sp1 B W relF (tChain r r' ta tb tc) (mChain f g ma mb mc) := fun s Q st q => by
  refine ha.run st (Tr.refl s) (wpM_bnd.mp q) fun o s1 st1 t1 es p v r1 => ?_
  rw [← es]
  refine hb.run st1 t1 (wpM_bnd.mp p) fun o2 s2 st2 t2 es2 p2 u r2 => ?_
  split at p2
  · rename_i d e e1 e2
    split at p2
    · rename_i z e3
      refine ok B s2 v u d e z _ st2 (get_ok st2 (r1.tr t2 es2) e1) (get_ok st2 r2 e2) e3 fun s3 st3 t3 ew es3 x r3 => ?_
      split at p2
      · rename_i e4
        rw [asB_some e4] at r3
        cases r3
        refine ⟨true, rfl, ?_⟩
        rw [if_pos rfl, ← es2, ← es3]
        rw [← ew] at p2
        refine hc.run st3 ((t1.trans t2).trans t3) (wpM_bnd.mp p2) fun o4 s4 st4 t4 es4 p4 y r4 => ?_
        split at p4
        · rename_i d2 e5 e6 e7
          split at p4
          · rename_i z2 e8
            exact ok' B s4 u y d2 e5 z2 Q st4 (get_ok st4 ((r2.tr t3 es3).tr t4 es4) e6) (get_ok st4 r4 e7) e8 fun s5 st5 t5 ew5 es5 x r5 =>
              p4 s5 st5 ((((t1.trans t2).trans t3).trans t4).trans t5) ew5 (es5.trans (es4.trans (es3.trans (es2.trans es)))) x (relF.tr (((t1.trans t2).trans t3).trans t4) r5)
          · exact p4.elim
        · exact p4.elim
      · rename_i e4
        rw [asB_some e4] at r3
        cases r3
        refine ⟨false, rfl, ?_⟩
        rw [if_neg Bool.false_ne_true]
        exact p2 s3 st3 ((t1.trans t2).trans t3) ew (es3.trans (es2.trans es)) _ (.bl false)
      · exact p2.elim
    · exact p2.elim
  · exact p2.elim
theorem gf_chain {c : Expr} {tc : TE} {op op' : CmpOp} {r r' : R2} {f g : D → D → Option RV} {ma mb mc : M Op} (ok : Ok2 r f) (ok' : Ok2 r' g) (ho : OpR X (compareOp op) r) (ho' : OpR X (compareOp op') r') (ha : GP B W X a ta ma) (hb : GP B W X b tb mb) (hc : GP B W X c tc mc)
    (hm : lastMarks [op, op'] [b, c] = false := by with_unfolding_all rfl) : GF B W X (.Compare a [op, op'] [b, c] pos) (tChain r r' ta tb tc) (mChain f g ma mb mc) := ⟨pe_chain ho ho' ha.pe hb.pe hc.pe hm, sp_chain (c := c) ha.sp hb.sp hc.sp ok ok'⟩
theorem gt_chain {c : Expr} {tc : TE} {op op' : CmpOp} {r r' : R2} {f g : D → D → Option RV} {ma mb mc : M Op} (ok : Ok2 r f) (ok' : Ok2 r' g) (ho : OpR X (compareOp op) r) (ho' : OpR X (compareOp op') r') (ha : GP B W X a ta ma) (hb : GP B W X b tb mb) (hc : GP B W X c tc mc)
    (hm : lastMarks [op, op'] [b, c] = false := by with_unfolding_all rfl) : GT B W X (.Compare a [op, op'] [b, c] pos) (tTest (tChain r r' ta tb tc)) (mB (mChain f g ma mb mc)) := ⟨pt_chain ho ho' ha.pe hb.pe hc.pe hm, sp_test (sp_chain (c := c) ha.sp hb.sp hc.sp ok ok')⟩

/-! ### tests -/
def mAnd (m n : M Bool) : M Bool := bnd m fun b => if b = true then n else mpure false
def mOr (m n : M Bool) : M Bool := bnd m fun b => if b = true then mpure true else n
def mNot (m : M Bool) : M Bool := bnd m fun b => mpure (!b)
structure GW (B : Hp) (W : WX) (X : Cx) (e : Expr) (t : TT) (m : M Bool) : Prop where
  pw : PW X e t
  sp : Sp1 B W relB t m
variable {tA tB' : TT} {rest : List Expr} {ma mb : M Bool}
theorem sp_and (ha : Sp1 B W relB tA ma) (hb : Sp1 B W relB tB' mb) : Sp1 B W relB (tAnd tA tB') (mAnd ma mb) := fun s Q st q => by
  refine ha.run st (Tr.refl s) (wpM_bnd.mp q) fun b s1 st1 t1 es p c r => ?_
  rw [show c = b from r]
  cases b with
  | true =>
    rw [if_pos rfl] at p ⊢
    rw [← es]
    exact hb.run st1 t1 p fun b s2 st2 t2 es2 p2 c r => p2 s2 st2 (t1.trans t2) rfl (es2.trans es) c r
  | false =>
    rw [if_neg Bool.false_ne_true] at p ⊢
    exact p s1 st1 t1 rfl es false rfl
theorem sp_or (ha : Sp1 B W relB tA ma) (hb : Sp1 B W relB tB' mb) : Sp1 B W relB (tOr tA tB') (mOr ma mb) := fun s Q st q => by
  refine ha.run st (Tr.refl s) (wpM_bnd.mp q) fun b s1 st1 t1 es p c r => ?_
  rw [show c = b from r]
  cases b with
  | false =>
    rw [if_neg Bool.false_ne_true] at p ⊢
    rw [← es]
    exact hb.run st1 t1 p fun b s2 st2 t2 es2 p2 c r => p2 s2 st2 (t1.trans t2) rfl (es2.trans es) c r
  | true =>
    rw [if_pos rfl] at p ⊢
    exact p s1 st1 t1 rfl es true rfl
theorem gw_and1 (ha : GT B W X a tA ma) : GW B W X (.BoolOp .And [a] pos) tA ma := ⟨pw_and1 ha.pt, ha.sp⟩
theorem gw_or1 (ha : GT B W X a tA ma) : GW B W X (.BoolOp .Or [a] pos) tA ma := ⟨pw_or1 ha.pt, ha.sp⟩
theorem gw_and (ha : GT B W X a tA ma) (hb : GW B W X (.BoolOp .And (b :: rest) pos) tB' mb) : GW B W X (.BoolOp .And (a :: b :: rest) pos) (tAnd tA tB') (mAnd ma mb) := ⟨pw_and ha.pt hb.pw, sp_and ha.sp hb.sp⟩
theorem gw_or (ha : GT B W X a tA ma) (hb : GW B W X (.BoolOp .Or (b :: rest) pos) tB' mb) : GW B W X (.BoolOp .Or (a :: b :: rest) pos) (tOr tA tB') (mOr ma mb) := ⟨pw_or ha.pt hb.pw, sp_or ha.sp hb.sp⟩
theorem gt_w (h : GW B W X e tA ma) : GT B W X e tA ma := ⟨h.pw.pt, h.sp⟩
theorem gt_not (ha : GT B W X a tA ma) : GT B W X (.UnaryOp .Not a pos) (tNot tA) (mNot ma) := ⟨pt_not ha.pt, fun s Q st q => by
  refine ha.sp.run st (Tr.refl s) (wpM_bnd.mp q) fun b s1 st1 t1 es p c r => ?_
  rw [show c = b from r]
  exact p s1 st1 t1 rfl es _ rfl⟩
/-- a value's truth -/
def truD (sto : List O) : D → Option Bool
  | .non => some false
  | .bl b => some b
  | .int i => some (i != 0)
  | .str y => if y.length ≤ 16777216 then some ((y.length : Int) != 0) else none
  | .lst xs => some (!xs.isEmpty)
  | .tup xs => some (!xs.isEmpty)
  | .o k => (match sto[k]? with
    | some (.dk kvs) => some (!kvs.isEmpty)
    | _ => none)
  | .ref _ => none
def mTru (ma : M Op) : M Bool := bnd ma fun o w => match o.get w with
  | some d => (match truD w.sto d with
    | some b => some (.ok b w)
    | none => none)
  | none => none
theorem RDs.emp {R : Hp} {as : List Addr} {vs : List V} {ds : List D} (h : RDs R as vs ds) : vs.isEmpty = ds.isEmpty := by cases h <;> rfl
theorem RKs.emp {κ : Type} {R : Hp} {as : List Addr} {vs : List (κ × V)} {ds : List (κ × D)} (h : RKs R as vs ds) : vs.isEmpty = ds.isEmpty := by cases h <;> rfl
theorem tru_okD {K : PySem.W.Frag} {k : Bool} (st : Sta B s) (h : PR s v d) (e : truD s.w.sto d = some k) : TruV K v s.H k := by
  cases d with
  | non => rw [h.non]; cases e; rfl
  | bl b => rw [h.bl]; cases e; rfl
  | int i => rw [h.int]; cases e; rfl
  | str y =>
    rw [h.str]
    have e' : (if y.length ≤ 16777216 then some ((y.length : Int) != 0) else none) = some k := e
    split at e'
    · rename_i hy
      cases e'
      exact ⟨by rw [sizeLine_eq]; exact hy, rfl⟩
    · cases e'
  | lst xs =>
    obtain ⟨a, vs, rfl, h1, h2⟩ := h.lst st
    cases e
    exact .inl ⟨vs, SqL.of h1, by rw [h2.emp]⟩
  | tup xs =>
    obtain ⟨a, vs, rfl, h1, h2⟩ := h.tup st
    cases e
    exact .inr (.inl ⟨vs, SqT.of h1, by rw [h2.emp]⟩)
  | o j =>
    obtain ⟨a, rfl, h1⟩ := h.o
    have e' : (match s.w.sto[j]? with | some (.dk kvs) => some (!kvs.isEmpty) | _ => none) = some k := e
    split at e'
    · rename_i kvs e2
      cases e'
      obtain ⟨_, us, h2, h3⟩ := st.sto j a _ h1 e2
      exact .inr (.inr ⟨us, h2, by rw [h3.emp]⟩)
    · cases e'
  | ref a => cases e
theorem gt_tru {ma : M Op} (ha : GP B W X a ta ma) (he : ∀ whole, isTrue a X.env whole = (do let v ← whole; standAt a.pos; holding [v] (truthy v)) := by intro _; rfl) : GT B W X a (fun σ H Q => ta σ H fun x H' => ∃ k, TruV X.K x H' k ∧ Q k H') (mTru ma) := ⟨pt_truth ha.pe he, fun s Q st q => by
  refine ha.sp.run st (Tr.refl s) (wpM_bnd.mp q) fun o s1 st1 t1 es p v r => ?_
  split at p
  · rename_i d e1
    split at p
    · rename_i k e2
      exact ⟨k, tru_okD st1 (get_ok st1 r e1) e2, p s1 st1 t1 rfl es k rfl⟩
    · exact p.elim
  · exact p.elim⟩
/-- a if t else b -/
def mIf {α : Type} (c : M Bool) (m n : M α) : M α := bnd c fun b => if b = true then m else n
theorem ge_if {c : Expr} {mc : M Bool} {ma mb : M D} (hc : GT B W X c tA mc) (ha : GE B W X a ta ma) (hb : GE B W X b tb mb) : GE B W X (.IfExp c a b pos) (tIf tA ta tb) (mIf mc ma mb) := ⟨pe_ifExp hc.pt ha.pe hb.pe, fun s Q st q => by
  refine hc.sp.run st (Tr.refl s) (wpM_bnd.mp q) fun k s1 st1 t1 es p c r => ?_
  rw [show c = k from r]
  cases k with
  | true =>
    rw [if_pos rfl] at p ⊢
    rw [← es]
    exact ha.sp.run st1 t1 p fun b s2 st2 t2 es2 p2 c r => p2 s2 st2 (t1.trans t2) rfl (es2.trans es) c r
  | false =>
    rw [if_neg Bool.false_ne_true] at p ⊢
    rw [← es]
    exact hb.sp.run st1 t1 p fun b s2 st2 t2 es2 p2 c r => p2 s2 st2 (t1.trans t2) rfl (es2.trans es) c r⟩
/-- and, or, not as values -/
theorem ge_one {op} {m : M D} (ha : GE B W X a ta m) : GE B W X (.BoolOp op [a] pos) ta m := ⟨pe_one ha.pe, ha.sp⟩
def mAndV (ma mb : M D) : M D := bnd ma fun d w => match truD w.sto (rs w.sto d) with
  | some true => mb w
  | some false => some (.ok d w)
  | none => none
def mOrV (ma mb : M D) : M D := bnd ma fun d w => match truD w.sto (rs w.sto d) with
  | some true => some (.ok d w)
  | some false => mb w
  | none => none
theorem ge_and {ma mb : M D} (ha : GE B W X a ta ma) (hb : GE B W X (.BoolOp .And (b :: rest) pos) tb mb) : GE B W X (.BoolOp .And (a :: b :: rest) pos) (tAndT X.K ta tb) (mAndV ma mb) := ⟨pe_andT ha.pe hb.pe, fun s Q st q => by
  refine ha.sp.run st (Tr.refl s) (wpM_bnd.mp q) fun d s1 st1 t1 es p v r => ?_
  split at p
  · rename_i e
    refine ⟨true, tru_okD st1 (rs_ok st1 r) e, ?_⟩
    rw [if_pos rfl, ← es]
    exact hb.sp.run st1 t1 p fun b s2 st2 t2 es2 p2 c r => p2 s2 st2 (t1.trans t2) rfl (es2.trans es) c r
  · rename_i e
    refine ⟨false, tru_okD st1 (rs_ok st1 r) e, ?_⟩
    rw [if_neg Bool.false_ne_true]
    exact p s1 st1 t1 rfl es v r
  · exact p.elim⟩
theorem ge_or {ma mb : M D} (ha : GE B W X a ta ma) (hb : GE B W X (.BoolOp .Or (b :: rest) pos) tb mb) : GE B W X (.BoolOp .Or (a :: b :: rest) pos) (tOrT X.K ta tb) (mOrV ma mb) := ⟨pe_orT ha.pe hb.pe, fun s Q st q => by
  refine ha.sp.run st (Tr.refl s) (wpM_bnd.mp q) fun d s1 st1 t1 es p v r => ?_
  split at p
  · rename_i e
    refine ⟨true, tru_okD st1 (rs_ok st1 r) e, ?_⟩
    rw [if_pos rfl]
    exact p s1 st1 t1 rfl es v r
  · rename_i e
    refine ⟨false, tru_okD st1 (rs_ok st1 r) e, ?_⟩
    rw [if_neg Bool.false_ne_true, ← es]
    exact hb.sp.run st1 t1 p fun b s2 st2 t2 es2 p2 c r => p2 s2 st2 (t1.trans t2) rfl (es2.trans es) c r
  · exact p.elim⟩
def mNotV (ma : M D) : M D := bnd ma fun d w => match truD w.sto (rs w.sto d) with
  | some b => some (.ok (.bl (!b)) w)
  | none => none
theorem ge_not {ma : M D} (ha : GE B W X a ta ma) : GE B W X (.UnaryOp .Not a pos) (tNotT X.K ta) (mNotV ma) := ⟨pe_notT ha.pe, fun s Q st q => by
  refine ha.sp.run st (Tr.refl s) (wpM_bnd.mp q) fun d s1 st1 t1 es p v r => ?_
  split at p
  · rename_i b e
    exact ⟨b, tru_okD st1 (rs_ok st1 r) e, p s1 st1 t1 rfl es _ (.bl _)⟩
  · exact p.elim⟩

/-! ### argument lists -/
structure GQ (B : Hp) (W : WX) (X : Cx) (es : List Expr) (t : TA) (m : M (List Op)) : Prop where
  pa : PA X es t
  sp : Sp1 B W (fun s0 s' (vs : List V) (os : List Op) => Paired (relP s0 s') vs os) t m
def aNil : M (List D) := mpure []
def aCons (m : M D) (r : M (List D)) : M (List D) := bnd m fun d => bnd r fun ds => mpure (d :: ds)
def qNil : M (List Op) := mpure []
def qCons (m : M Op) (r : M (List Op)) : M (List Op) := bnd m fun d => bnd r fun ds => mpure (d :: ds)
variable {es : List Expr} {t : TA}
theorem ga_nil : GA B W X [] tNil aNil := ⟨pa_nil, fun s Q st q => q s st (Tr.refl s) rfl rfl [] .nil⟩
theorem ga_cons {m : M D} {r : M (List D)} (he : GE B W X e te m) (hr : GA B W X es t r) (hs : starEach (e :: es) X.env = (false, eval e X.env) :: starEach es X.env := by rfl) : GA B W X (e :: es) (tCons te t) (aCons m r) := ⟨pa_cons he.pe hr.pa hs, fun s Q st q => by
  refine he.sp.run st (Tr.refl s) (wpM_bnd.mp q) fun d s1 st1 t1 e1 p v r1 => ?_
  rw [← e1]
  refine hr.sp.run st1 t1 (wpM_bnd.mp p) fun ds s2 st2 t2 e2 p2 vs r2 => ?_
  exact p2 s2 st2 (t1.trans t2) rfl (e2.trans e1) (v :: vs) (.cons (r1.mono t2.reg t2.pre) r2)⟩
theorem gq_nil : GQ B W X [] tNil qNil := ⟨pa_nil, fun s Q st q => q s st (Tr.refl s) rfl rfl [] .nil⟩
theorem gq_cons {m : M Op} {r : M (List Op)} (he : GP B W X e te m) (hr : GQ B W X es t r) (hs : starEach (e :: es) X.env = (false, eval e X.env) :: starEach es X.env := by rfl) : GQ B W X (e :: es) (tCons te t) (qCons m r) := ⟨pa_cons he.pe hr.pa hs, fun s Q st q => by
  refine he.sp.run st (Tr.refl s) (wpM_bnd.mp q) fun d s1 st1 t1 e1 p v r1 => ?_
  rw [← e1]
  refine hr.sp.run st1 t1 (wpM_bnd.mp p) fun ds s2 st2 t2 e2 p2 vs r2 => ?_
  exact p2 s2 st2 (t1.trans t2) rfl (e2.trans e1) (v :: vs) (.cons (r1.tr t2 e2) r2)⟩
def gets (w : Wd) : List Op → Option (List D)
  | [] => some []
  | o :: os => (match o.get w with
    | some d => (match gets w os with
      | some ds => some (d :: ds)
      | none => none)
    | none => none)
theorem gets_ok (st : Sta B s) : ∀ {vs : List V} {os : List Op} {ds : List D}, Paired (relP s0 s) vs os → gets s.w os = some ds → PRs s vs ds
  | _, _, ds, .nil, e => by cases e; exact .nil
  | _, o :: os, ds, .cons r rr, e => by
    have e' : (match o.get s.w with | some d => (match gets s.w os with | some ds => some (d :: ds) | none => none) | none => none) = some ds := e
    split at e'
    · rename_i d e1
      split at e'
      · rename_i ds' e2
        cases e'
        exact .cons (get_ok st r e1) (gets_ok st rr e2)
      · cases e'
    · cases e'
/-- a built-in on values -/
def mA (f : List D → Option RV) (ma : M (List Op)) : M RV := bnd ma fun os w => match gets w os with
  | some ds => (match f ds with
    | some z => some (.ok z w)
    | none => none)
  | none => none
theorem sp_call {r : List V → Hp → VK → Prop} {f : List D → Option RV} {ma : M (List Op)} {ta : TA} (ha : Sp1 B W (fun s0 s' (vs : List V) (os : List Op) => Paired (relP s0 s') vs os) ta ma) (ok : OkA r f) : Sp1 B W relF (tCB r ta) (mA f ma) := fun s Q st q => by
  refine ha.run st (Tr.refl s) (wpM_bnd.mp q) fun os s1 st1 t1 es p vs r1 => ?_
  split at p
  · rename_i ds e1
    split at p
    · rename_i z e2
      exact ok B s1 vs ds z Q st1 (gets_ok st1 r1 e1) e2 fun s2 st2 t2 ew es2 u r2 => p s2 st2 (t1.trans t2) ew (es2.trans es) u (relF.tr t1 r2)
    · exact p.elim
  · exact p.elim
theorem gf_callB {id : String} {x : Str} {p : Pos} {r : List V → Hp → VK → Prop} {f : List D → Option RV} {ma : M (List Op)} (ok : OkA r f) (hc : CallR X (.builtin id) r) (hg : Gl X x) (hm : X.mg x = none) (hv : bootBuiltins x = some (.builtin id)) (ha : GQ B W X (e :: es) t ma)
    (hn : x ≠ "__name__" := by decide) (hdb : (x == ("__debug__" : Str)) = false := by decide) (he : starEach (e :: es) X.env = (false, eval e X.env) :: starEach es X.env := by rfl) (hpl : (backTo pos (starEach es X.env)).any (·.1) = false := by rfl) :
    GF B W X (.Call (.Name x p) (e :: es) [] pos) (tCB r t) (mA f ma) := ⟨pe_callB hc hg hm hv ha.pa hn hdb he hpl, sp_call ha.sp ok⟩
theorem gf_callTy {T : String} {x : Str} {p : Pos} {r : List V → Hp → VK → Prop} {f : List D → Option RV} {ma : M (List Op)} (ok : OkA r f) (hc : CallR X (.type T) r) (hg : Gl X x) (hm : X.mg x = none) (hv : bootBuiltins x = some (.type T)) (ha : GQ B W X (e :: es) t ma)
    (hn : x ≠ "__name__" := by decide) (hdb : (x == ("__debug__" : Str)) = false := by decide) (he : starEach (e :: es) X.env = (false, eval e X.env) :: starEach es X.env := by rfl) (hpl : (backTo pos (starEach es X.env)).any (·.1) = false := by rfl) :
    GF B W X (.Call (.Name x p) (e :: es) [] pos) (tCB r t) (mA f ma) := ⟨pe_callTy hc hg hm hv ha.pa hn hdb he hpl, sp_call ha.sp ok⟩
/-- displays -/
def mTup (m : M (List D)) : M D := bnd m fun ds w => if ds.length ≤ 16777216 then some (.ok (.tup ds) w) else none
def mLst (m : M (List D)) : M RV := bnd m fun ds w => if ds.length ≤ 16777216 then some (.ok (.l ds) w) else none
theorem ge_tup {m : M (List D)} {x1} (h : GA B W X es t m) : GE B W X (.Tuple es x1 pos) (tTup t) (mTup m) := ⟨pe_tup h.pa, fun s Q st q => by
  refine h.sp.run st (Tr.refl s) (wpM_bnd.mp q) fun ds s1 st1 t1 es1 p vs r => ?_
  split at p
  · rename_i hl
    refine ⟨by rw [r.length, sizeLine_eq]; exact hl, fun a hp => ?_⟩
    obtain ⟨st2, t2, r2⟩ := st1.newTup hp r
    exact p _ st2 (t2 s t1) rfl es1 _ r2
  · exact p.elim⟩
theorem gf_lst {m : M (List D)} (h : GA B W X es t m) : GF B W X (.List es pos) (tLst t) (mLst m) := ⟨pe_lst h.pa, fun s Q st q => by
  refine h.sp.run st (Tr.refl s) (wpM_bnd.mp q) fun ds s1 st1 t1 es1 p vs r => ?_
  split at p
  · rename_i hl
    refine ⟨by rw [r.length, sizeLine_eq]; exact hl, fun a hp => ?_⟩
    exact p { s1 with H := upd s1.H a (.lst vs) } (st1.addH hp) (t1.addH hp) rfl es1 _ ⟨a, rfl, t1.dom a hp, st1.freshO hp, st1.freshR hp, st1.freshA hp, vs, upd_same, r⟩
  · exact p.elim⟩
end
end PD

set_option maxHeartbeats 1000000
namespace PD
open PySem PySem.Spec PyProof.Rows L2
/-! ### what the operations do to data -/
section
variable {B : Hp} {W : WX} {X : Cx} {K : PySem.W.Frag}
/-- two intsD in -/
def fII (g : Int → Int → Option D) : D → D → Option RV
  | .int i, .int j => (g i j).map RV.d
  | _, _ => none
theorem ok_II {C : Int → Int → Prop} {v : Int → Int → V} {g : Int → Int → Option D} (h : ∀ i j x, g i j = some x → C i j ∧ ∀ R as, RD R as (v i j) x) : Ok2 (rI C v) (fII g) := fun B s a b d e z Q st ra rb ef q => by
  cases d with
  | int i => cases e with
    | int j =>
      have ef' : (g i j).map RV.d = some z := ef
      cases hg : g i j with
      | none => rw [hg] at ef'; cases ef'
      | some x =>
        rw [hg] at ef'
        cases ef'
        obtain ⟨c, r⟩ := h i j x hg
        exact ⟨i, j, ra.int, rb.int, c, q.val st (r _ _)⟩
    | _ => cases ef
  | _ => cases ef
theorem ok_II0 {v : Int → Int → V} {g : Int → Int → D} (h : ∀ i j R as, RD R as (v i j) (g i j)) : Ok2 (rI0 v) (fII fun i j => some (g i j)) := fun B s a b d e z Q st ra rb ef q => by
  cases d with
  | int i => cases e with
    | int j =>
      cases ef
      exact ⟨i, j, ra.int, rb.int, q.val st (h i j _ _)⟩
    | _ => cases ef
  | _ => cases ef
def fAdd : D → D → Option RV
  | .int i, .int j => some (.d (.int (i + j)))
  | .str x, .str y => if x.length + y.length ≤ 16777216 then some (.d (.str (x ++ y))) else none
  | .lst xs, .lst ys => if xs.length + ys.length ≤ 16777216 then some (.l (xs ++ ys)) else none
  | _, _ => none
def rAddD : R2 := fun x y H Q => (∃ i j, x = V.int i ∧ y = V.int j ∧ Q (.int (i + j)) H) ∨ (∃ i j, x = V.str i ∧ y = V.str j ∧ i.length + j.length ≤ sizeLine ∧ Q (.str (i ++ j)) H) ∨ rCat x y H Q
theorem op_addD : OpR X (binaryOp .Add) rAddD := op_add.or (op_add_str.or op_cat)
theorem ok_add : Ok2 rAddD fAdd := fun B s a b d e z Q st ra rb ef q => by
  cases d with
  | int i => cases e with
    | int j => cases ef; exact .inl ⟨i, j, ra.int, rb.int, q.val st (.int _)⟩
    | _ => cases ef
  | str i => cases e with
    | str j =>
      have ef' : (if i.length + j.length ≤ 16777216 then some (RV.d (.str (i ++ j))) else none) = some z := ef
      split at ef'
      · rename_i h
        cases ef'
        exact .inr (.inl ⟨i, j, ra.str, rb.str, by rw [sizeLine_eq]; exact h, q.val st (.str _)⟩)
      · cases ef'
    | _ => cases ef
  | lst i => cases e with
    | lst j =>
      have ef' : (if i.length + j.length ≤ 16777216 then some (RV.l (i ++ j)) else none) = some z := ef
      split at ef'
      · rename_i h
        cases ef'
        obtain ⟨a1, v1, rfl, h1, r1⟩ := ra.lst st
        obtain ⟨a2, v2, rfl, h2, r2⟩ := rb.lst st
        exact .inr (.inr ⟨a1, a2, v1, v2, rfl, rfl, h1, h2, by rw [r1.length, r2.length, sizeLine_eq]; exact h, fun p hp => q.new st hp (r1.app r2)⟩)
      · cases ef'
    | _ => cases ef
  | _ => cases ef
def fSub : D → D → Option RV := fII fun i j => some (.int (i - j))
theorem ok_sub : Ok2 (rI0 fun i j => .int (i - j)) fSub := ok_II0 fun i j _ _ => .int _
def mulOk (i j : Int) : Bool := decide ((-(2 ^ 64) < i ∧ i < 2 ^ 64) ∨ (-(2 ^ 64) < j ∧ j < 2 ^ 64)) || decide (i.natAbs.log2 + j.natAbs.log2 < 1000000)
def fMul : D → D → Option RV
  | .int i, .int j => if mulOk i j = true then some (.d (.int (i * j))) else none
  | .lst xs, .int k => if 0 ≤ k ∧ k < 1000000 ∧ xs.length * k.toNat ≤ 16777216 then some (.l (List.replicate k.toNat xs).flatten) else none
  | _, _ => none
def rMulD : R2 := fun x y H Q => rI CMul (fun i j => .int (i * j)) x y H Q ∨ rI CMulW (fun i j => .int (i * j)) x y H Q ∨ rRep x y H Q
theorem op_mulD : OpR X (binaryOp .Mult) rMulD := op_mul.or (op_mulW.or op_rep)
theorem RDs.rep {R : Hp} {as : List Addr} {vs : List V} {ds : List D} (h : RDs R as vs ds) : ∀ k : Nat, RDs R as (List.replicate k vs).flatten (List.replicate k ds).flatten
  | 0 => .nil
  | k + 1 => by
    rw [List.replicate_succ, List.replicate_succ, List.flatten_cons, List.flatten_cons]
    exact h.app (RDs.rep h k)
theorem ok_mul : Ok2 rMulD fMul := fun B s a b d e z Q st ra rb ef q => by
  cases d with
  | int i => cases e with
    | int j =>
      have ef' : (if mulOk i j = true then some (RV.d (.int (i * j))) else none) = some z := ef
      split at ef'
      · rename_i h
        cases ef'
        rcases Bool.or_eq_true_iff.mp h with h | h
        · exact .inl ⟨i, j, ra.int, rb.int, show (-(2 ^ 64) < i ∧ i < 2 ^ 64) ∨ (-(2 ^ 64) < j ∧ j < 2 ^ 64) from of_decide_eq_true h, q.val st (.int _)⟩
        · exact .inr (.inl ⟨i, j, ra.int, rb.int, (show i.natAbs.log2 + j.natAbs.log2 < 1000000 from of_decide_eq_true h), q.val st (.int _)⟩)
      · cases ef'
    | _ => cases ef
  | lst i => cases e with
    | int j =>
      have ef' : (if 0 ≤ j ∧ j < 1000000 ∧ i.length * j.toNat ≤ 16777216 then some (RV.l (List.replicate j.toNat i).flatten) else none) = some z := ef
      split at ef'
      · rename_i h
        cases ef'
        obtain ⟨a1, v1, rfl, h1, r1⟩ := ra.lst st
        rw [rb.int]
        exact .inr (.inr ⟨a1, j, v1, rfl, rfl, h1, by omega, by omega, by rw [r1.length, sizeLine_eq]; exact h.2.2, fun p hp => q.new st hp (r1.rep _)⟩)
      · cases ef'
    | _ => cases ef
  | _ => cases ef
def fDiv : D → D → Option RV := fII fun i j => if 0 < j ∧ j.natAbs.log2 < 9000 then some (.int (i / j)) else none
theorem ok_div : Ok2 (rI CDivW fun i j => .int (i / j)) fDiv := ok_II fun i j x h => by
  split at h
  · rename_i c
    cases h
    exact ⟨c, fun _ _ => .int _⟩
  · cases h
def fMod : D → D → Option RV := fII fun i j => if 0 < j then some (.int (i % j)) else none
theorem ok_mod : Ok2 (rI (fun _ j => 0 < j) fun i j => .int (i % j)) fMod := ok_II fun i j x h => by
  split at h
  · rename_i c
    cases h
    exact ⟨c, fun _ _ => .int _⟩
  · cases h
def fPow : D → D → Option RV := fII fun i j => if 0 ≤ j ∧ j ≤ 1000 ∧ i.natAbs < 18446744073709551616 then some (.int (i ^ j.toNat)) else none
theorem ok_pow : Ok2 (rI CPow fun i j => .int (i ^ j.toNat)) fPow := ok_II fun i j x h => by
  split at h
  · rename_i c
    cases h
    exact ⟨⟨c.1, by omega, by have := c.2.2; omega⟩, fun _ _ => .int _⟩
  · cases h
def fShl : D → D → Option RV := fII fun i j => if 0 ≤ j ∧ j ≤ 1000 ∧ i.natAbs < 18446744073709551616 then some (.int (i * 2 ^ j.toNat)) else none
theorem ok_shl : Ok2 (rI CPow fun i j => .int (i * 2 ^ j.toNat)) fShl := ok_II fun i j x h => by
  split at h
  · rename_i c
    cases h
    exact ⟨⟨c.1, by omega, by have := c.2.2; omega⟩, fun _ _ => .int _⟩
  · cases h
def fShr : D → D → Option RV := fII fun i j => if 0 ≤ j then some (.int (i / 2 ^ j.toNat)) else none
theorem ok_shr : Ok2 (rI (fun _ j => 0 ≤ j) fun i j => .int (i / 2 ^ j.toNat)) fShr := ok_II fun i j x h => by
  split at h
  · rename_i c
    cases h
    exact ⟨c, fun _ _ => .int _⟩
  · cases h
def fAnd : D → D → Option RV := fII fun i j => some (.int (Builtin.bitAnd i j))
theorem ok_and : Ok2 (rI0 fun i j => .int (Builtin.bitAnd i j)) fAnd := ok_II0 fun i j _ _ => .int _
def fOr : D → D → Option RV := fII fun i j => some (.int (Builtin.bitOr i j))
theorem ok_or : Ok2 (rI0 fun i j => .int (Builtin.bitOr i j)) fOr := ok_II0 fun i j _ _ => .int _
def fXor : D → D → Option RV := fII fun i j => some (.int (Builtin.bitXor i j))
theorem ok_xor : Ok2 (rI0 fun i j => .int (Builtin.bitXor i j)) fXor := ok_II0 fun i j _ _ => .int _
def fNeg : D → Option RV
  | .int i => some (.d (.int (-i)))
  | _ => none
theorem ok_neg : Ok1 (rU fun i => .int (-i)) fNeg := fun B s a d z Q st ra ef q => by
  cases d with
  | int i => cases ef; exact ⟨i, ra.int, q.val st (.int _)⟩
  | _ => cases ef
def fLt : D → D → Option RV := fII fun i j => some (.bl (decide (i < j)))
theorem ok_lt : Ok2 (rI0 fun i j => .bl (decide (i < j))) fLt := ok_II0 fun i j _ _ => .bl _
def fLe : D → D → Option RV := fII fun i j => some (.bl (decide (i ≤ j)))
theorem ok_le : Ok2 (rI0 fun i j => .bl (decide (i ≤ j))) fLe := ok_II0 fun i j _ _ => .bl _
def fGt : D → D → Option RV := fII fun i j => some (.bl (decide (j < i)))
theorem ok_gt : Ok2 (rI0 fun i j => .bl (decide (j < i))) fGt := ok_II0 fun i j _ _ => .bl _
def fGe : D → D → Option RV := fII fun i j => some (.bl (decide (j ≤ i)))
theorem ok_ge : Ok2 (rI0 fun i j => .bl (decide (j ≤ i))) fGe := ok_II0 fun i j _ _ => .bl _

/-! ### == and in -/
mutual
def py : D → Option PyData
  | .non => some .none
  | .bl b => some (.bool b)
  | .int i => some (.int i)
  | .str x => some (.str x)
  | .lst xs => (match pys xs with
    | some ys => some (.list ys)
    | none => none)
  | .tup xs => (match pys xs with
    | some ys => some (.tuple ys)
    | none => none)
  | .ref _ => none
  | .o _ => none
def pys : List D → Option (List PyData)
  | [] => some []
  | x :: xs => (match py x with
    | some y => (match pys xs with
      | some ys => some (y :: ys)
      | none => none)
    | none => none)
end
mutual
theorem py_ok {R : Hp} {as : List Addr} {H : Hp} (hR : Same R H) : ∀ (d : D) (v : V) (p : PyData), RD R as v d → py d = some p → Dp K H v p
  | .non, _, _, .non, e => by cases e; exact .non
  | .bl b, _, _, .bl _, e => by cases e; exact .bl b
  | .int b, _, _, .int _, e => by cases e; exact .int b
  | .str b, _, _, .str _, e => by cases e; exact .str b
  | .ref a, _, _, .ref _, e => by cases e
  | .o a, _, _, .o _, e => by cases e
  | .lst ds, _, p, .lst h r, e => by
    have e' : (match pys ds with | some ys => some (PyData.list ys) | none => none) = some p := e
    split at e'
    · rename_i ys e1
      cases e'
      exact .lst (SqL.of (hR _ _ h)) (pys_ok hR ds _ _ r e1)
    · cases e'
  | .tup ds, _, p, .tup h r, e => by
    have e' : (match pys ds with | some ys => some (PyData.tuple ys) | none => none) = some p := e
    split at e'
    · rename_i ys e1
      cases e'
      exact .tup (SqT.of (hR _ _ h)) (pys_ok hR ds _ _ r e1)
    · cases e'
theorem pys_ok {R : Hp} {as : List Addr} {H : Hp} (hR : Same R H) : ∀ (ds : List D) (vs : List V) (ps : List PyData), RDs R as vs ds → pys ds = some ps → DpAll K H vs ps
  | [], _, _, .nil, e => by cases e; exact .nil
  | d :: ds, _, ps, .cons h r, e => by
    have e' : (match py d with | some y => (match pys ds with | some ys => some (y :: ys) | none => none) | none => none) = some ps := e
    split at e'
    · rename_i y e1
      split at e'
      · rename_i ys e2
        cases e'
        exact .cons (py_ok hR d _ _ h e1) (pys_ok hR ds _ _ r e2)
      · cases e'
    · cases e'
end
theorem py_PR {s : CS} {v : V} {d : D} {p : PyData} (st : Sta B s) (h : PR s v d) (e : py d = some p) : Dp K s.H v p := by
  cases h with
  | rd h => exact py_ok st.reg d v p h e
  | @li a vs ds h r =>
    have e' : (match pys ds with | some ys => some (PyData.list ys) | none => none) = some p := e
    split at e'
    · rename_i ys e1
      cases e'
      exact .lst (SqL.of h) (pys_ok st.reg ds _ _ r e1)
    · cases e'
def eqD (d e : D) : Option Bool := match py d, py e with
  | some p, some q => if (SeqAt.shaped p && SeqAt.shaped q) = true then some (PyData.eqv p q) else none
  | _, _ => none
def fEq (d e : D) : Option RV := match eqD d e with
  | some b => some (.d (.bl b))
  | none => none
def fNe (d e : D) : Option RV := match eqD d e with
  | some b => some (.d (.bl (!b)))
  | none => none
theorem eqD_ok {d e : D} {b : Bool} (h : eqD d e = some b) : ∃ p q, py d = some p ∧ py e = some q ∧ SeqAt.shaped p = true ∧ SeqAt.shaped q = true ∧ b = PyData.eqv p q := by
  unfold eqD at h
  split at h
  · rename_i p q h1 h2
    split at h
    · rename_i c
      cases h
      obtain ⟨c1, c2⟩ := Bool.and_eq_true_iff.mp c
      exact ⟨p, q, h1, h2, c1, c2, rfl⟩
    · cases h
  · cases h
theorem ok_eq : Ok2 (rEqD K) fEq := fun B s a b d e z Q st ra rb ef q => by
  unfold fEq at ef
  split at ef
  · rename_i k hk
    cases ef
    obtain ⟨p1, p2, h1, h2, s1, s2, rfl⟩ := eqD_ok hk
    exact ⟨p1, p2, py_PR st ra h1, py_PR st rb h2, s1, s2, q.val st (.bl _)⟩
  · cases ef
theorem ok_ne : Ok2 (rNeD K) fNe := fun B s a b d e z Q st ra rb ef q => by
  unfold fNe at ef
  split at ef
  · rename_i k hk
    cases ef
    obtain ⟨p1, p2, h1, h2, s1, s2, rfl⟩ := eqD_ok hk
    exact ⟨p1, p2, py_PR st ra h1, py_PR st rb h2, s1, s2, q.val st (.bl _)⟩
  · cases ef
/-- x in a list; in a tuple of flat things -/
def flatD : D → Option V
  | .non => some .non
  | .bl b => some (.bl b)
  | .int i => some (.int i)
  | .str x => some (.str x)
  | _ => none
def flatDs : List D → Option (List V)
  | [] => some []
  | d :: ds => (match flatD d with
    | some v => (match flatDs ds with
      | some vs => some (v :: vs)
      | none => none)
    | none => none)
def inD (d : D) : D → Option Bool
  | .lst es => (match py d, py (.lst es) with
    | some p, some (.list qs) => if (SeqAt.shaped p && SeqAt.shaped (.list qs)) = true then some (qs.any fun z => PyData.eqv z p) else none
    | _, _ => none)
  | .tup es => (match flatD d, flatDs es with
    | some v, some us => some (inV v us)
    | _, _ => none)
  | _ => none
def fIn (d e : D) : Option RV := match inD d e with
  | some b => some (.d (.bl b))
  | none => none
def fNotIn (d e : D) : Option RV := match inD d e with
  | some b => some (.d (.bl (!b)))
  | none => none
theorem flatD_ok {R : Hp} {as : List Addr} {v : V} {d : D} {u : V} (h : RD R as v d) (e : flatD d = some u) : v = u ∧ flatV u = true := by
  cases h <;> first
    | (cases e; exact ⟨rfl, rfl⟩)
    | cases e
theorem flatDs_ok {R : Hp} {as : List Addr} : ∀ {vs : List V} {ds : List D} {us : List V}, RDs R as vs ds → flatDs ds = some us → vs = us ∧ us.all flatV = true
  | _, _, _, .nil, e => by cases e; exact ⟨rfl, rfl⟩
  | _, d :: ds, us, .cons h r, e => by
    have e' : (match flatD d with | some v => (match flatDs ds with | some vs => some (v :: vs) | none => none) | none => none) = some us := e
    split at e'
    · rename_i v e1
      split at e'
      · rename_i ws e2
        cases e'
        obtain ⟨rfl, f1⟩ := flatD_ok h e1
        obtain ⟨rfl, f2⟩ := flatDs_ok r e2
        exact ⟨rfl, by rw [List.all_cons, f1, f2]; rfl⟩
      · cases e'
    · cases e'
theorem PR.flat {s : CS} {v : V} {d : D} {u : V} (h : PR s v d) (e : flatD d = some u) : v = u ∧ flatV u = true := by
  cases h with
  | rd h => exact flatD_ok h e
  | li h r => cases e
theorem inD_ok {s : CS} {a b : V} {d e : D} {k : Bool} {Q : VK} (st : Sta B s) (ra : PR s a d) (rb : PR s b e) (h : inD d e = some k) (neg : Bool) (q : Q (.bl (if neg then !k else k)) s.H) :
    (∃ p qs, Dp K s.H a p ∧ Dp K s.H b (.list qs) ∧ SeqAt.shaped p = true ∧ SeqAt.shaped (.list qs) = true ∧ Q (.bl (if neg then !qs.any (fun z => PyData.eqv z p) else qs.any fun z => PyData.eqv z p)) s.H) ∨ rIn K neg a b s.H Q := by
  cases e with
  | lst es =>
    have h' : (match py d, py (.lst es) with | some p, some (.list qs) => if (SeqAt.shaped p && SeqAt.shaped (.list qs)) = true then some (qs.any fun z => PyData.eqv z p) else none | _, _ => none) = some k := h
    split at h'
    · rename_i p qs h1 h2
      split at h'
      · rename_i c
        cases h'
        obtain ⟨c1, c2⟩ := Bool.and_eq_true_iff.mp c
        exact .inl ⟨p, qs, py_PR st ra h1, py_PR st rb h2, c1, c2, q⟩
      · cases h'
    · cases h'
  | tup es =>
    have h' : (match flatD d, flatDs es with | some v, some us => some (inV v us) | _, _ => none) = some k := h
    split at h'
    · rename_i v us h1 h2
      cases h'
      obtain ⟨p, vs, rfl, hp, r⟩ := rb.tup st
      obtain ⟨rfl, f1⟩ := ra.flat h1
      obtain ⟨rfl, f2⟩ := flatDs_ok r h2
      exact .inr ⟨p, vs, rfl, .inr (SqT.of hp), f1, f2, q⟩
    · cases h'
  | _ => cases h
def rInB (K : PySem.W.Frag) : R2 := fun x y H Q => rInD K x y H Q ∨ rIn K false x y H Q
def rNotInB (K : PySem.W.Frag) : R2 := fun x y H Q => rNotInD K x y H Q ∨ rIn K true x y H Q
theorem op_inB (hu : X.A.units + 65 < cLine) : OpR X (compareOp .In) (rInB X.K) := (op_inD hu).or op_in_seq
theorem op_notInB (hu : X.A.units + 65 < cLine) : OpR X (compareOp .NotIn) (rNotInB X.K) := (op_notInD hu).or op_notIn_seq
theorem ok_in : Ok2 (rInB K) fIn := fun B s a b d e z Q st ra rb ef q => by
  unfold fIn at ef
  split at ef
  · rename_i k hk
    cases ef
    exact inD_ok st ra rb hk false (q.val st (.bl _))
  · cases ef
theorem ok_notIn : Ok2 (rNotInB K) fNotIn := fun B s a b d e z Q st ra rb ef q => by
  unfold fNotIn at ef
  split at ef
  · rename_i k hk
    cases ef
    exact inD_ok st ra rb hk true (q.val st (.bl _))
  · cases ef
/-- is None -/
def isN : D → Bool
  | .non => true
  | _ => false
def fIsN (d e : D) : Option RV := match e with
  | .non => some (.d (.bl (isN d)))
  | _ => none
def fNotN (d e : D) : Option RV := match e with
  | .non => some (.d (.bl (!isN d)))
  | _ => none
theorem isN_ok {s : CS} {v : V} {d : D} (h : PR s v d) : decide (v = .non) = isN d := by
  cases h with
  | rd h => cases h <;> first | rfl | exact decide_eq_false (fun z => by cases z)
  | li h r => exact decide_eq_false (fun z => by cases z)
theorem ok_isN : Ok2 (fun x y H Q => y = .non ∧ Q (.bl (decide (x = .non))) H) fIsN := fun B s a b d e z Q st ra rb ef q => by
  cases e with
  | non =>
    cases ef
    exact ⟨rb.non, by rw [isN_ok ra]; exact q.val st (.bl _)⟩
  | _ => cases ef
theorem ok_notN : Ok2 (fun x y H Q => y = .non ∧ Q (.bl (!decide (x = .non))) H) fNotN := fun B s a b d e z Q st ra rb ef q => by
  cases e with
  | non =>
    cases ef
    exact ⟨rb.non, by rw [isN_ok ra]; exact q.val st (.bl _)⟩
  | _ => cases ef

/-! ### built-ins -/
theorem PRs.one {s : CS} {vs : List V} {d : D} (h : PRs s vs [d]) : ∃ v, vs = [v] ∧ PR s v d := by
  cases h with
  | cons h r => cases r; exact ⟨_, rfl, h⟩
theorem PRs.two {s : CS} {vs : List V} {d e : D} (h : PRs s vs [d, e]) : ∃ v u, vs = [v, u] ∧ PR s v d ∧ PR s u e := by
  cases h with
  | cons h r =>
    obtain ⟨u, rfl, h2⟩ := r.one
    exact ⟨_, u, rfl, h, h2⟩
theorem PRs.three {s : CS} {vs : List V} {d e f : D} (h : PRs s vs [d, e, f]) : ∃ v u w, vs = [v, u, w] ∧ PR s v d ∧ PR s u e ∧ PR s w f := by
  cases h with
  | cons h r =>
    obtain ⟨u, w, rfl, h2, h3⟩ := r.two
    exact ⟨_, u, w, rfl, h, h2, h3⟩
def f1 (g : D → Option RV) : List D → Option RV
  | [d] => g d
  | _ => none
theorem f1_some {g : D → Option RV} {ds : List D} {z : RV} (h : f1 g ds = some z) : ∃ d, ds = [d] ∧ g d = some z := by
  match ds, h with
  | [d], h => exact ⟨d, rfl, h⟩
  | [], h => cases h
  | _ :: _ :: _, h => cases h
def lenD : D → Option RV
  | .lst xs => some (.d (.int xs.length))
  | .tup xs => some (.d (.int xs.length))
  | .str x => if x.length ≤ 16777216 then some (.d (.int x.length)) else none
  | _ => none
theorem ok_len : OkA (fun xs H Q => ∃ x n, xs = [x] ∧ LenV K x H n ∧ Q (.int n) H) (f1 lenD) := fun B s vs ds z Q st r0 ef q => by
  obtain ⟨d, rfl, ef⟩ := f1_some ef
  obtain ⟨v, rfl, r⟩ := r0.one
  cases d with
  | lst xs =>
    cases ef
    obtain ⟨a, us, rfl, h1, h2⟩ := r.lst st
    exact ⟨_, us.length, rfl, .inl ⟨us, SqL.of h1, rfl⟩, by rw [h2.length]; exact q.val st (.int _)⟩
  | tup xs =>
    cases ef
    obtain ⟨a, us, rfl, h1, h2⟩ := r.tup st
    exact ⟨_, us.length, rfl, .inr ⟨us, SqT.of h1, rfl⟩, by rw [h2.length]; exact q.val st (.int _)⟩
  | str x =>
    have ef' : (if x.length ≤ 16777216 then some (RV.d (.int x.length)) else none) = some z := ef
    split at ef'
    · rename_i h
      cases ef'
      rw [r.str]
      exact ⟨_, x.length, rfl, ⟨by rw [sizeLine_eq]; exact h, rfl⟩, q.val st (.int _)⟩
    · cases ef'
  | _ => cases ef
def absD : D → Option RV
  | .int i => some (.d (.int (if i < 0 then -i else i)))
  | _ => none
theorem ok_abs : OkA (fun xs H Q => ∃ i, xs = [V.int i] ∧ Q (.int (if i < 0 then -i else i)) H) (f1 absD) := fun B s vs ds z Q st r0 ef q => by
  obtain ⟨d, rfl, ef⟩ := f1_some ef
  obtain ⟨v, rfl, r⟩ := r0.one
  cases d with
  | int i => cases ef; rw [r.int]; exact ⟨i, rfl, q.val st (.int _)⟩
  | _ => cases ef
def intD : D → Option RV
  | .int i => some (.d (.int i))
  | .bl k => some (.d (.int (if k then 1 else 0)))
  | _ => none
theorem ok_int : OkA (fun xs H Q => (∃ i, xs = [V.int i] ∧ Q (.int i) H) ∨ ∃ k, xs = [V.bl k] ∧ Q (.int (if k then 1 else 0)) H) (f1 intD) := fun B s vs ds z Q st r0 ef q => by
  obtain ⟨d, rfl, ef⟩ := f1_some ef
  obtain ⟨v, rfl, r⟩ := r0.one
  cases d with
  | int i => cases ef; rw [r.int]; exact .inl ⟨i, rfl, q.val st (.int _)⟩
  | bl i => cases ef; rw [r.bl]; exact .inr ⟨i, rfl, q.val st (.int _)⟩
  | _ => cases ef
def max2D : List D → Option RV
  | [.int i, .int j] => some (.d (.int (if j > i then j else i)))
  | _ => none
def min2D : List D → Option RV
  | [.int i, .int j] => some (.d (.int (if j < i then j else i)))
  | _ => none
theorem ii_of {s : CS} {vs : List V} {i j : Int} (r : PRs s vs [.int i, .int j]) : vs = [.int i, .int j] := by
  obtain ⟨v, u, rfl, h1, h2⟩ := r.two
  rw [h1.int, h2.int]
theorem ok_max2 : OkA (fun xs H Q => ∃ i j, xs = [V.int i, V.int j] ∧ Q (.int (if j > i then j else i)) H) max2D := fun B s vs ds z Q st r0 ef q => by
  match ds, ef, r0 with
  | [.int i, .int j], ef, r =>
    cases ef
    exact ⟨i, j, ii_of r, q.val st (.int _)⟩
theorem ok_min2 : OkA (fun xs H Q => ∃ i j, xs = [V.int i, V.int j] ∧ Q (.int (if j < i then j else i)) H) min2D := fun B s vs ds z Q st r0 ef q => by
  match ds, ef, r0 with
  | [.int i, .int j], ef, r =>
    cases ef
    exact ⟨i, j, ii_of r, q.val st (.int _)⟩
def imin (i j : Int) : Int := if j < i then j else i
def imax (i j : Int) : Int := if j > i then j else i
def min3D : List D → Option RV
  | [.int i, .int j, .int k] => some (.d (.int (imin (imin i j) k)))
  | _ => none
theorem ok_min3 : OkA (rNuC3 nuMin3) min3D := fun B s vs ds z Q st r0 ef q => by
  match ds, ef, r0 with
  | [.int i, .int j, .int k], ef, r =>
    cases ef
    obtain ⟨v, u, w, rfl, h1, h2, h3⟩ := r.three
    refine ⟨v, u, w, .int (imin (imin i j) k), rfl, ?_, q.val st (.int _)⟩
    rw [h1.int, h2.int, h3.int]
    have e1 : ∀ x y : Int, nuMin2 (V.int x) (V.int y) = some (V.int (imin x y)) := fun x y => by
      unfold nuMin2 imin
      rw [show nuLt (V.int y) (V.int x) = some (decide (y < x)) from rfl]
      by_cases h : y < x
      · rw [decide_eq_true h, if_pos h]; rfl
      · rw [decide_eq_false h, if_neg h]; rfl
    unfold nuMin3
    rw [e1]
    exact e1 _ _
/-- a list of intsD -/
def intsD : List D → Option (List Int)
  | [] => some []
  | .int i :: ds => (match intsD ds with
    | some is => some (i :: is)
    | none => none)
  | _ => none
theorem intsD_ok {R : Hp} {as : List Addr} : ∀ {vs : List V} {ds : List D} {ns : List Int}, RDs R as vs ds → intsD ds = some ns → vs = ns.map V.int
  | _, [], _, .nil, e => by cases e; rfl
  | _, d :: ds, ns, .cons h r, e => by
    cases d with
    | int i =>
      have e' : (match intsD ds with | some is => some (i :: is) | none => none) = some ns := e
      split at e'
      · rename_i is e1
        cases e'
        cases h
        rw [List.map_cons, intsD_ok r e1]
      · cases e'
    | _ => cases e
theorem intsD_map : ∀ ns : List Int, intsD (ns.map D.int) = some ns
  | [] => rfl
  | n :: ns => by
    show (match intsD (ns.map D.int) with | some is => some (n :: is) | none => none) = some (n :: ns)
    rw [intsD_map ns]
def blsD : List D → Option (List Bool)
  | [] => some []
  | .bl i :: ds => (match blsD ds with
    | some is => some (i :: is)
    | none => none)
  | _ => none
theorem blsD_ok {R : Hp} {as : List Addr} : ∀ {vs : List V} {ds : List D} {ns : List Bool}, RDs R as vs ds → blsD ds = some ns → vs = ns.map V.bl
  | _, [], _, .nil, e => by cases e; rfl
  | _, d :: ds, ns, .cons h r, e => by
    cases d with
    | bl i =>
      have e' : (match blsD ds with | some is => some (i :: is) | none => none) = some ns := e
      split at e'
      · rename_i is e1
        cases e'
        cases h
        rw [List.map_cons, blsD_ok r e1]
      · cases e'
    | _ => cases e
theorem blsD_map : ∀ ns : List Bool, blsD (ns.map D.bl) = some ns
  | [] => rfl
  | n :: ns => by
    show (match blsD (ns.map D.bl) with | some is => some (n :: is) | none => none) = some (n :: ns)
    rw [blsD_map ns]
def onInts (g : List Int → Option RV) : D → Option RV
  | .lst ds => (match intsD ds with
    | some ns => g ns
    | none => none)
  | _ => none
def onBls (g : List Bool → Option RV) : D → Option RV
  | .lst ds => (match blsD ds with
    | some ns => g ns
    | none => none)
  | _ => none
theorem onInts_some {g : List Int → Option RV} {d : D} {z : RV} (h : onInts g d = some z) : ∃ ds ns, d = .lst ds ∧ intsD ds = some ns ∧ g ns = some z := by
  cases d with
  | lst ds =>
    have h' : (match intsD ds with | some ns => g ns | none => none) = some z := h
    split at h'
    · rename_i ns e
      exact ⟨ds, ns, rfl, e, h'⟩
    · cases h'
  | _ => cases h
theorem onBls_some {g : List Bool → Option RV} {d : D} {z : RV} (h : onBls g d = some z) : ∃ ds ns, d = .lst ds ∧ blsD ds = some ns ∧ g ns = some z := by
  cases d with
  | lst ds =>
    have h' : (match blsD ds with | some ns => g ns | none => none) = some z := h
    split at h'
    · rename_i ns e
      exact ⟨ds, ns, rfl, e, h'⟩
    · cases h'
  | _ => cases h
def sumD : D → Option RV := onInts fun ns => some (.d (.int ns.sum))
theorem ok_sum : OkA (rSum K) (f1 sumD) := fun B s vs ds z Q st r0 ef q => by
  obtain ⟨d, rfl, ef⟩ := f1_some ef
  obtain ⟨v, rfl, r⟩ := r0.one
  obtain ⟨es, ns, rfl, e1, e2⟩ := onInts_some ef
  cases e2
  obtain ⟨a, us, rfl, h1, h2⟩ := r.lst st
  rw [intsD_ok h2 e1] at h1
  exact ⟨a, ns, rfl, SqL.of h1, q.val st (.int _)⟩
def anyD : D → Option RV := onBls fun ns => some (.d (.bl (ns.any id)))
def allD : D → Option RV := onBls fun ns => some (.d (.bl (ns.all id)))
theorem ok_any : OkA (rAny K) (f1 anyD) := fun B s vs ds z Q st r0 ef q => by
  obtain ⟨d, rfl, ef⟩ := f1_some ef
  obtain ⟨v, rfl, r⟩ := r0.one
  obtain ⟨es, ns, rfl, e1, e2⟩ := onBls_some ef
  cases e2
  obtain ⟨a, us, rfl, h1, h2⟩ := r.lst st
  rw [blsD_ok h2 e1] at h1
  exact ⟨a, ns, rfl, SqL.of h1, q.val st (.bl _)⟩
theorem ok_all : OkA (rAll K) (f1 allD) := fun B s vs ds z Q st r0 ef q => by
  obtain ⟨d, rfl, ef⟩ := f1_some ef
  obtain ⟨v, rfl, r⟩ := r0.one
  obtain ⟨es, ns, rfl, e1, e2⟩ := onBls_some ef
  cases e2
  obtain ⟨a, us, rfl, h1, h2⟩ := r.lst st
  rw [blsD_ok h2 e1] at h1
  exact ⟨a, ns, rfl, SqL.of h1, q.val st (.bl _)⟩
def lmax : List Int → Option Int
  | [] => none
  | x :: xs => some (xs.foldl imax x)
def lmin : List Int → Option Int
  | [] => none
  | x :: xs => some (xs.foldl imin x)
theorem foldl_imax : ∀ (xs : List Int) (x : Int), (xs.foldl imax x = x ∨ xs.foldl imax x ∈ xs) ∧ x ≤ xs.foldl imax x ∧ ∀ y ∈ xs, y ≤ xs.foldl imax x
  | [], x => ⟨.inl rfl, Int.le_refl _, fun y h => by cases h⟩
  | z :: xs, x => by
    obtain ⟨h1, h2, h3⟩ := foldl_imax xs (imax x z)
    have e : (z :: xs).foldl imax x = xs.foldl imax (imax x z) := rfl
    rw [e]
    have hm : x ≤ imax x z ∧ z ≤ imax x z ∧ (imax x z = x ∨ imax x z = z) := by
      unfold imax
      split <;> omega
    refine ⟨?_, by omega, fun y hy => ?_⟩
    · rcases h1 with q | q
      · rcases hm.2.2 with r | r
        · exact .inl (q.trans r)
        · exact .inr (by rw [q, r]; exact List.mem_cons_self)
      · exact .inr (List.mem_cons_of_mem _ q)
    · rcases List.mem_cons.mp hy with r | r
      · rw [r]; omega
      · exact h3 y r
theorem foldl_imin : ∀ (xs : List Int) (x : Int), (xs.foldl imin x = x ∨ xs.foldl imin x ∈ xs) ∧ xs.foldl imin x ≤ x ∧ ∀ y ∈ xs, xs.foldl imin x ≤ y
  | [], x => ⟨.inl rfl, Int.le_refl _, fun y h => by cases h⟩
  | z :: xs, x => by
    obtain ⟨h1, h2, h3⟩ := foldl_imin xs (imin x z)
    have e : (z :: xs).foldl imin x = xs.foldl imin (imin x z) := rfl
    rw [e]
    have hm : imin x z ≤ x ∧ imin x z ≤ z ∧ (imin x z = x ∨ imin x z = z) := by
      unfold imin
      split <;> omega
    refine ⟨?_, by omega, fun y hy => ?_⟩
    · rcases h1 with q | q
      · rcases hm.2.2 with r | r
        · exact .inl (q.trans r)
        · exact .inr (by rw [q, r]; exact List.mem_cons_self)
      · exact .inr (List.mem_cons_of_mem _ q)
    · rcases List.mem_cons.mp hy with r | r
      · rw [r]; omega
      · exact h3 y r
theorem lmax_ok {ns : List Int} {m : Int} (h : lmax ns = some m) : m ∈ ns ∧ ∀ y ∈ ns, y ≤ m := by
  cases ns with
  | nil => cases h
  | cons x xs =>
    cases h
    obtain ⟨h1, h2, h3⟩ := foldl_imax xs x
    refine ⟨?_, fun y hy => ?_⟩
    · rcases h1 with q | q
      · rw [q]; exact List.mem_cons_self
      · exact List.mem_cons_of_mem _ q
    · rcases List.mem_cons.mp hy with r | r
      · rw [r]; exact h2
      · exact h3 y r
theorem lmin_ok {ns : List Int} {m : Int} (h : lmin ns = some m) : m ∈ ns ∧ ∀ y ∈ ns, m ≤ y := by
  cases ns with
  | nil => cases h
  | cons x xs =>
    cases h
    obtain ⟨h1, h2, h3⟩ := foldl_imin xs x
    refine ⟨?_, fun y hy => ?_⟩
    · rcases h1 with q | q
      · rw [q]; exact List.mem_cons_self
      · exact List.mem_cons_of_mem _ q
    · rcases List.mem_cons.mp hy with r | r
      · rw [r]; exact h2
      · exact h3 y r
def maxD : D → Option RV := onInts fun ns => (lmax ns).map fun m => .d (.int m)
def minD : D → Option RV := onInts fun ns => (lmin ns).map fun m => .d (.int m)
theorem ok_max : OkA (rMax K) (f1 maxD) := fun B s vs ds z Q st r0 ef q => by
  obtain ⟨d, rfl, ef⟩ := f1_some ef
  obtain ⟨v, rfl, r⟩ := r0.one
  obtain ⟨es, ns, rfl, e1, e2⟩ := onInts_some ef
  obtain ⟨a, us, rfl, h1, h2⟩ := r.lst st
  rw [intsD_ok h2 e1] at h1
  cases e3 : lmax ns with
  | none => rw [e3] at e2; cases e2
  | some m =>
    rw [e3] at e2
    cases e2
    obtain ⟨m1, m2⟩ := lmax_ok e3
    refine ⟨a, ns, rfl, SqL.of h1, List.length_pos_of_mem m1, fun k k1 k2 => ?_⟩
    rw [Int.le_antisymm (m2 k k1) (k2 m m1)]
    exact q.val st (.int _)
theorem ok_min : OkA (rMin K) (f1 minD) := fun B s vs ds z Q st r0 ef q => by
  obtain ⟨d, rfl, ef⟩ := f1_some ef
  obtain ⟨v, rfl, r⟩ := r0.one
  obtain ⟨es, ns, rfl, e1, e2⟩ := onInts_some ef
  obtain ⟨a, us, rfl, h1, h2⟩ := r.lst st
  rw [intsD_ok h2 e1] at h1
  cases e3 : lmin ns with
  | none => rw [e3] at e2; cases e2
  | some m =>
    rw [e3] at e2
    cases e2
    obtain ⟨m1, m2⟩ := lmin_ok e3
    refine ⟨a, ns, rfl, SqL.of h1, List.length_pos_of_mem m1, fun k k1 k2 => ?_⟩
    rw [Int.le_antisymm (k2 m m1) (m2 k k1)]
    exact q.val st (.int _)
/-- list(x), tuple(x) -/
def listD : D → Option RV
  | .lst xs => some (.l xs)
  | .tup xs => some (.l xs)
  | _ => none
theorem ok_list : OkA (fun xs H Q => ∃ p ys, xs = [V.ref p] ∧ (SqL K H p ys ∨ SqT K H p ys) ∧ ∀ l, H l = none → Q (.ref l) (upd H l (.lst ys))) (f1 listD) := fun B s vs ds z Q st r0 ef q => by
  obtain ⟨d, rfl, ef⟩ := f1_some ef
  obtain ⟨v, rfl, r⟩ := r0.one
  cases d with
  | lst xs =>
    cases ef
    obtain ⟨a, us, rfl, h1, h2⟩ := r.lst st
    exact ⟨a, us, rfl, .inl (SqL.of h1), fun l hl => q.new st hl h2⟩
  | tup xs =>
    cases ef
    obtain ⟨a, us, rfl, h1, h2⟩ := r.tup st
    exact ⟨a, us, rfl, .inr (SqT.of h1), fun l hl => q.new st hl h2⟩
  | _ => cases ef
def tupleD : D → Option RV
  | .lst xs => some (.d (.tup xs))
  | .tup xs => some (.d (.tup xs))
  | _ => none
theorem ok_tuple : OkA (fun xs H Q => ∃ p ys, xs = [V.ref p] ∧ ((SqL K H p ys ∧ ∀ l, H l = none → Q (.ref l) (upd H l (.tup ys))) ∨ (SqT K H p ys ∧ Q (.ref p) H))) (f1 tupleD) := fun B s vs ds z Q st r0 ef q => by
  obtain ⟨d, rfl, ef⟩ := f1_some ef
  obtain ⟨v, rfl, r⟩ := r0.one
  cases d with
  | lst xs =>
    cases ef
    obtain ⟨a, us, rfl, h1, h2⟩ := r.lst st
    exact ⟨a, us, rfl, .inl ⟨SqL.of h1, fun l hl => q.tup st hl h2⟩⟩
  | tup xs =>
    cases ef
    cases r with
    | rd r =>
      cases r with
      | tup h1 h2 => exact ⟨_, _, rfl, .inr ⟨SqT.of (st.reg _ _ h1), q.val st (.tup h1 h2)⟩⟩
  | _ => cases ef
/-- sorted, intsD -/
def ins (x : Int) : List Int → List Int
  | [] => [x]
  | y :: ys => if x ≤ y then x :: y :: ys else y :: ins x ys
def isort : List Int → List Int
  | [] => []
  | x :: xs => ins x (isort xs)
theorem ins_perm (x : Int) : ∀ ys : List Int, (ins x ys).Perm (x :: ys)
  | [] => .refl _
  | y :: ys => by
    unfold ins
    split
    · exact .refl _
    · exact ((ins_perm x ys).cons y).trans (.swap x y ys)
theorem isort_perm : ∀ xs : List Int, (isort xs).Perm xs
  | [] => .refl _
  | x :: xs => (ins_perm x (isort xs)).trans ((isort_perm xs).cons x)
theorem ins_sorted (x : Int) : ∀ ys : List Int, ys.Pairwise (· ≤ ·) → (ins x ys).Pairwise (· ≤ ·)
  | [], _ => by simp [ins]
  | y :: ys, h => by
    obtain ⟨h1, h2⟩ := List.pairwise_cons.mp h
    unfold ins
    split
    · rename_i hx
      exact List.pairwise_cons.mpr ⟨fun z hz => by
        rcases List.mem_cons.mp hz with q | q
        · rw [q]; exact hx
        · exact Int.le_trans hx (h1 z q), h⟩
    · rename_i hx
      refine List.pairwise_cons.mpr ⟨fun z hz => ?_, ins_sorted x ys h2⟩
      rcases List.mem_cons.mp ((ins_perm x ys).mem_iff.mp hz) with q | q
      · rw [q]; omega
      · exact h1 z q
theorem isort_sorted : ∀ xs : List Int, (isort xs).Pairwise (· ≤ ·)
  | [] => .nil
  | x :: xs => ins_sorted x _ (isort_sorted xs)
theorem sorted_uniq : ∀ {xs ys : List Int}, xs.Perm ys → xs.Pairwise (· ≤ ·) → ys.Pairwise (· ≤ ·) → xs = ys
  | [], ys, h, _, _ => by rw [List.nil_perm.mp h]
  | x :: xs, [], h, _, _ => by have := h.length_eq; simp at this
  | x :: xs, y :: ys, h, h1, h2 => by
    obtain ⟨a1, a2⟩ := List.pairwise_cons.mp h1
    obtain ⟨b1, b2⟩ := List.pairwise_cons.mp h2
    have e : x = y := by
      have m1 : x ∈ y :: ys := h.mem_iff.mp List.mem_cons_self
      have m2 : y ∈ x :: xs := h.mem_iff.mpr List.mem_cons_self
      rcases List.mem_cons.mp m1 with q | q
      · exact q
      · rcases List.mem_cons.mp m2 with r | r
        · exact r.symm
        · exact Int.le_antisymm (a1 y r) (b1 x q)
    subst e
    rw [sorted_uniq (List.Perm.cons_inv h) a2 b2]
def sortedD : D → Option RV := onInts fun ns => some (.l ((isort ns).map D.int))
theorem RDs.of_ints {R : Hp} {as : List Addr} : ∀ ns : List Int, RDs R as (ns.map V.int) (ns.map D.int)
  | [] => .nil
  | n :: ns => .cons (.int n) (RDs.of_ints ns)
theorem ok_sorted : OkA (rSortedI K) (f1 sortedD) := fun B s vs ds z Q st r0 ef q => by
  obtain ⟨d, rfl, ef⟩ := f1_some ef
  obtain ⟨v, rfl, r⟩ := r0.one
  obtain ⟨es, ns, rfl, e1, e2⟩ := onInts_some ef
  cases e2
  obtain ⟨a, us, rfl, h1, h2⟩ := r.lst st
  rw [intsD_ok h2 e1] at h1
  refine ⟨a, ns, rfl, SqL.of h1, fun ns' p hp hs hn => ?_⟩
  rw [sorted_uniq (hp.trans (isort_perm ns).symm) hs (isort_sorted ns)]
  exact q.new st hn (.of_ints _)
/-- isinstance -/
inductive Ty where
  | int | bool | str | list | tuple
def Ty.name : Ty → String
  | .int => "int" | .bool => "bool" | .str => "str" | .list => "list" | .tuple => "tuple"
def isiD : Ty → D → Option Bool
  | _, .ref _ => none
  | _, .o _ => none
  | .int, .int _ => some true
  | .int, .bl _ => some true
  | .int, _ => some false
  | .bool, .bl _ => some true
  | .bool, _ => some false
  | .str, .str _ => some true
  | .str, _ => some false
  | .list, .lst _ => some true
  | .list, _ => some false
  | .tuple, .tup _ => some true
  | .tuple, _ => some false
def mIsi (T : Ty) (ma : M Op) : M RV := bnd ma fun o w => match o.get w with
  | some d => (match isiD T d with
    | some b => some (.ok (.d (.bl b)) w)
    | none => none)
  | none => none
theorem isiD_ok {s : CS} {T : Ty} {v : V} {d : D} {b : Bool} (st : Sta B s) (r : PR s v d) (h : isiD T d = some b) : ∃ n, TyX K s.H v (.type n) ∧ kitB n T.name = some b := by
  cases d with
  | non => rw [r.non]; exact ⟨_, .base .non, by cases T <;> (cases h; decide +kernel)⟩
  | bl k => rw [r.bl]; exact ⟨_, .base (.bl k), by cases T <;> (cases h; decide +kernel)⟩
  | int k => rw [r.int]; exact ⟨_, .base (.int k), by cases T <;> (cases h; decide +kernel)⟩
  | str k => rw [r.str]; exact ⟨_, .base (.str k), by cases T <;> (cases h; decide +kernel)⟩
  | lst k =>
    obtain ⟨a, us, rfl, h1, h2⟩ := r.lst st
    exact ⟨_, .base (.lst h1), by cases T <;> (cases h; decide +kernel)⟩
  | tup k =>
    obtain ⟨a, us, rfl, h1, h2⟩ := r.tup st
    exact ⟨_, .base (.tup h1), by cases T <;> (cases h; decide +kernel)⟩
  | ref k => cases T <;> cases h
  | o k => cases T <;> cases h
theorem gf_isi {a : Expr} {ta : TE} {ma : M Op} {x y : Str} {p p' pos : Pos} (T : Ty) (hg : Gl X x) (hm : X.mg x = none) (hv : bootBuiltins x = some (.builtin "isinstance")) (hg' : Gl X y) (hm' : X.mg y = none) (hv' : bootBuiltins y = some (.type T.name)) (ha : GP B W X a ta ma)
    (hn : x ≠ "__name__" := by decide) (hdb : (x == ("__debug__" : Str)) = false := by decide) (hn' : y ≠ "__name__" := by decide) (hdb' : (y == ("__debug__" : Str)) = false := by decide)
    (hs1 : starEach [a, .Name y p'] X.env = (false, eval a X.env) :: starEach [.Name y p'] X.env := by rfl) (hs2 : starEach [.Name y p'] X.env = (false, eval (.Name y p') X.env) :: starEach [] X.env := by rfl) (hpl : (backTo pos (starEach [.Name y p'] X.env)).any (·.1) = false := by rfl) :
    GF B W X (.Call (.Name x p) [a, .Name y p'] [] pos) (tCB (rIsi X.K) (tCons ta (tCons (tC (.ty T.name)) tNil))) (mIsi T ma) :=
  ⟨pe_callB call_isi hg hm hv (pa_cons ha.pe (pa_cons (pe_bltn hg' hm' hv' rfl hn' hdb') pa_nil hs2) hs1) hn hdb hs1 hpl, fun s Q st q => by
    refine ha.sp.run st (Tr.refl s) (wpM_bnd.mp q) fun o s1 st1 t1 es p v r => ?_
    split at p
    · rename_i d e1
      split at p
      · rename_i b e2
        obtain ⟨n, ty, hk⟩ := isiD_ok (K := X.K) st1 (get_ok st1 r e1) e2
        exact ⟨v, .ty T.name, .type n, .type T.name, b, rfl, .ty _, ty, kit_ty hk, p s1 st1 t1 rfl es _ (.bl b)⟩
      · exact p.elim
    · exact p.elim⟩
end
end PD

set_option maxHeartbeats 1000000
namespace PD
open PySem PySem.Spec PyProof.Rows L2
/-! ### subscripts, slices, ranges as lists, methods of lists -/
section
variable {B : Hp} {W : WX} {X : Cx} {K : PySem.W.Frag} {a b e : Expr} {ta tb te : TE} {pos : Pos}
theorem atI_rd {R : Hp} {as : List Addr} {vs : List V} {ds : List D} {i : Int} {d : D} (r : RDs R as vs ds) (h : atI ds i = some d) : ∃ v, atI vs i = some v ∧ RD R as v d := by
  unfold atI at h ⊢
  rw [r.length]
  cases q : ixN ds.length i with
  | none => rw [q] at h; cases h
  | some j =>
    rw [q] at h
    exact r.get h
def ixD : D → D → Option RV
  | .lst xs, .int i => (atI xs i).map RV.d
  | .tup xs, .int i => (atI xs i).map RV.d
  | _, _ => none
def rIxLT (K : PySem.W.Frag) : R2 := fun x y H Q => rIxL K x y H Q ∨ rIxT K x y H Q
theorem ix_LT : IxR X (rIxLT X.K) := ix_list.or ix_tup
theorem ok_ix : Ok2 (rIxLT K) ixD := fun B s v u d e z Q st ra rb ef q => by
  cases d with
  | lst xs => cases e with
    | int i =>
      have ef' : (atI xs i).map RV.d = some z := ef
      cases h : atI xs i with
      | none => rw [h] at ef'; cases ef'
      | some y =>
        rw [h] at ef'
        cases ef'
        obtain ⟨p, us, rfl, h1, h2⟩ := ra.lst st
        obtain ⟨w, h3, h4⟩ := atI_rd h2 h
        rw [rb.int]
        exact .inl ⟨p, us, i, w, rfl, rfl, SqL.of h1, h3, q.val st h4⟩
    | _ => cases ef
  | tup xs => cases e with
    | int i =>
      have ef' : (atI xs i).map RV.d = some z := ef
      cases h : atI xs i with
      | none => rw [h] at ef'; cases ef'
      | some y =>
        rw [h] at ef'
        cases ef'
        obtain ⟨p, us, rfl, h1, h2⟩ := ra.tup st
        obtain ⟨w, h3, h4⟩ := atI_rd h2 h
        rw [rb.int]
        exact .inr ⟨p, us, i, w, rfl, rfl, SqT.of h1, h3, q.val st h4⟩
    | _ => cases ef
  | _ => cases ef
theorem gf_ix {ma mb : M Op} (ha : GP B W X a ta ma) (hb : GP B W X b tb mb) (hs : PlainIx b) : GF B W X (.Subscript a b pos) (tOp (rIxLT X.K) ta tb) (m2 ixD ma mb) := ⟨pe_ix ix_LT ha.pe hb.pe hs, sp_bin ha.sp hb.sp ok_ix⟩
/-- slices of lists -/
structure GO (B : Hp) (W : WX) (X : Cx) (e : Option Expr) (t : TO) (m : M (Option Int)) : Prop where
  po : PO X e t
  sp : Sp1 B W (fun _ _ (b : Option Int) (c : Option Int) => b = c) t m
theorem go_none : GO B W X none tNoPart (mpure none) := ⟨po_none, fun s Q st q => q s st (Tr.refl s) rfl rfl none rfl⟩
def mPart (m : M Op) : M (Option Int) := bnd m fun o w => match o.get w with
  | some (.int i) => some (.ok (some i) w)
  | _ => none
theorem go_some {m : M Op} (h : GP B W X e te m) : GO B W X (some e) (tPart te) (mPart m) := ⟨po_some h.pe, fun s Q st q => by
  refine h.sp.run st (Tr.refl s) (wpM_bnd.mp q) fun o s1 st1 t1 es p v r => ?_
  split at p
  · rename_i i e1
    exact ⟨i, (get_ok st1 r e1).int, p s1 st1 t1 rfl es _ rfl⟩
  · exact p.elim⟩
def cutD {α : Type} (xs : List α) (lo hi : Option Int) : List α := (xs.drop (HT.sIx xs.length 0 lo)).take (HT.sIx xs.length xs.length hi - HT.sIx xs.length 0 lo)
theorem RDs.cut {R : Hp} {as : List Addr} {vs : List V} {ds : List D} (r : RDs R as vs ds) (lo hi : Option Int) : RDs R as (cutV vs lo hi) (cutD ds lo hi) := by
  unfold cutV cutD
  rw [r.length]
  exact (r.drop _).take _
def mSlice (m : M Op) (l h : M (Option Int)) : M RV := bnd m fun o => bnd l fun lo => bnd h fun hi w => match o.get w with
  | some (.lst xs) => some (.ok (.l (cutD xs lo hi)) w)
  | _ => none
theorem gf_slice {lo hi : Option Expr} {tl th : TO} {m : M Op} {ml mh : M (Option Int)} {p2 : Pos} (he : GP B W X e te m) (hl : GO B W X lo tl ml) (hh : GO B W X hi th mh) : GF B W X (.Subscript e (.Slice lo hi none p2) pos) (tSl (rSlL X.K) te tl th) (mSlice m ml mh) := ⟨pe_slice sl_list he.pe hl.po hh.po, fun s Q st q => by
  refine he.sp.run st (Tr.refl s) (wpM_bnd.mp q) fun o s1 st1 t1 es p v r => ?_
  rw [← es]
  refine hl.sp.run st1 t1 (wpM_bnd.mp p) fun l s2 st2 t2 es2 p2 l' r2 => ?_
  rw [show l' = l from r2, ← es2]
  refine hh.sp.run st2 (t1.trans t2) (wpM_bnd.mp p2) fun h s3 st3 t3 es3 p3 h' r3 => ?_
  rw [show h' = h from r3]
  split at p3
  · rename_i xs e1
    obtain ⟨a, us, rfl, h1, h2⟩ := (get_ok st3 ((r.tr t2 es2).tr t3 es3) e1).lst st3
    refine ⟨a, us, rfl, SqL.of h1, fun p hp => ?_⟩
    have t4 := (t1.trans t2).trans t3
    exact p3 { s3 with H := upd s3.H p (.lst (cutV us l h)) } (st3.addH hp) (t4.addH hp) rfl (es3.trans (es2.trans es)) _ ⟨p, rfl, t4.dom p hp, st3.freshO hp, st3.freshR hp, st3.freshA hp, _, upd_same, h2.cut l h⟩
  · exact p3.elim⟩
/-- list(range(..)) -/
def rgD (a b : Int) : List D := (List.range (b - a).toNat).map fun i => .int (a + (i : Nat))
def rgOk (a b : Int) : Bool := decide (-1000000000 ≤ a ∧ a ≤ 1000000000 ∧ -1000000000 ≤ b ∧ b ≤ 1000000000 ∧ (b - a).toNat ≤ 16777216)
theorem rgOk_ok {a b : Int} (h : rgOk a b = true) : RgOk a b := by
  have := of_decide_eq_true h
  refine ⟨by omega, by omega, by omega, by omega, by omega⟩
theorem RDs.rg {R : Hp} {as : List Addr} (a b : Int) : RDs R as (rgV a b) (rgD a b) := by
  unfold rgV rgD
  generalize (b - a).toNat = n
  have go : ∀ l : List Nat, RDs R as (l.map fun i => V.int (a + (i : Nat))) (l.map fun i => D.int (a + (i : Nat))) := by
    intro l
    induction l with
    | nil => exact .nil
    | cons x l ih => exact .cons (.int _) ih
  exact go _
def mRg1 (m : M Op) : M (Int × Int) := bnd m fun o w => match o.get w with
  | some (.int i) => some (.ok (0, i) w)
  | _ => none
def mRg2 (m n : M Op) : M (Int × Int) := bnd m fun o => bnd n fun p w => match o.get w, p.get w with
  | some (.int i), some (.int j) => some (.ok (i, j) w)
  | _, _ => none
def mRgL (m : M (Int × Int)) : M RV := bnd m fun ab w => if rgOk ab.1 ab.2 = true then some (.ok (.l (rgD ab.1 ab.2)) w) else none
/-- a range's bounds -/
structure GR (B : Hp) (W : WX) (X : Cx) (e : Expr) (t : L2.St → Hp → (Int → Int → Hp → Prop) → Prop) (m : M (Int × Int)) : Prop where
  pr : PRg X e t
  sp : Sp1 B W (fun _ _ (b c : Int × Int) => b = c) (fun σ H (Q : Int × Int → Hp → Prop) => t σ H fun i j H' => Q (i, j) H') m
theorem gr_1 {p : Pos} {ma : M Op} (ha : GP B W X a ta ma) (hg : Gl X "range") (hm : X.mg "range" = none) (na : starEach [a] X.env = (false, eval a X.env) :: starEach [] X.env := by rfl) : GR B W X (.Call (.Name "range" p) [a] [] pos) (tRg1 ta) (mRg1 ma) := ⟨prg_1 hg hm ha.pe na, fun s Q st q => by
  refine ha.sp.run st (Tr.refl s) (wpM_bnd.mp q) fun o s1 st1 t1 es p v r => ?_
  split at p
  · rename_i i e1
    exact ⟨i, (get_ok st1 r e1).int, p s1 st1 t1 rfl es _ rfl⟩
  · exact p.elim⟩
theorem gr_2 {p : Pos} {ma mb : M Op} (ha : GP B W X a ta ma) (hb : GP B W X b tb mb) (hg : Gl X "range") (hm : X.mg "range" = none) (na : starEach [a, b] X.env = (false, eval a X.env) :: starEach [b] X.env := by rfl)
    (nb : starEach [b] X.env = (false, eval b X.env) :: starEach [] X.env := by rfl) (hp : (backTo pos (starEach [b] X.env)).any (·.1) = false := by rfl) : GR B W X (.Call (.Name "range" p) [a, b] [] pos) (tRg2 ta tb) (mRg2 ma mb) := ⟨prg_2 hg hm ha.pe hb.pe na nb hp, fun s Q st q => by
  refine ha.sp.run st (Tr.refl s) (wpM_bnd.mp q) fun o s1 st1 t1 es p v r => ?_
  rw [← es]
  refine hb.sp.run st1 t1 (wpM_bnd.mp p) fun o2 s2 st2 t2 es2 p2 u r2 => ?_
  split at p2
  · rename_i i j e1 e2
    exact ⟨i, j, (get_ok st2 (r.tr t2 es2) e1).int, (get_ok st2 r2 e2).int, p2 s2 st2 (t1.trans t2) rfl (es2.trans es) _ rfl⟩
  · exact p2.elim⟩
theorem gf_listRg {p : Pos} {t : L2.St → Hp → (Int → Int → Hp → Prop) → Prop} {m : M (Int × Int)} (he : GR B W X e t m) (hc : X.calm = true) (hg : Gl X "list") (hm : X.mg "list" = none) (na : starEach [e] X.env = (false, eval e X.env) :: starEach [] X.env := by rfl) :
    GF B W X (.Call (.Name "list" p) [e] [] pos) (tLstRg t) (mRgL m) := ⟨pe_listRg hc hg hm he.pr na, fun s Q st q => by
  refine he.sp.run (Q := fun ij H' => RgOk ij.1 ij.2 ∧ ∀ q, H' q = none → Q (.ref q) (upd H' q (.lst (rgV ij.1 ij.2)))) st (Tr.refl s) (wpM_bnd.mp q) fun ab s1 st1 t1 es p b r => ?_
  rw [show b = ab from r]
  split at p
  · rename_i h
    refine ⟨rgOk_ok h, fun q hq => ?_⟩
    exact p { s1 with H := upd s1.H q (.lst (rgV ab.1 ab.2)) } (st1.addH hq) (t1.addH hq) rfl es _ ⟨q, rfl, t1.dom q hq, st1.freshO hq, st1.freshR hq, st1.freshA hq, _, upd_same, RDs.rg _ _⟩
  · exact p.elim⟩

/-! ### methods of lists that change them -/
/-- the list behind an operand: a slot's own, or the store's -/
def listAt (o : Op) (w : Wd) : Option (List D) := match o with
  | .s i => (match w.env[i]? with
    | some (.own xs) => some xs
    | some (.d (.o k)) => (match w.sto[k]? with
      | some (.lst xs) => some xs
      | _ => none)
    | _ => none)
  | .v (.o k) => (match w.sto[k]? with
    | some (.lst xs) => some xs
    | _ => none)
  | .v _ => none
def putAtL (o : Op) (w : Wd) (ys : List D) : Wd := match o with
  | .s i => (match w.env[i]? with
    | some (.own _) => setW w i (.own ys)
    | some (.d (.o k)) => ⟨w.env, w.sto.set k (.lst ys)⟩
    | _ => w)
  | .v (.o k) => ⟨w.env, w.sto.set k (.lst ys)⟩
  | .v _ => w
theorem listAt_ok {s0 s : CS} {v : V} {o : Op} {xs : List D} (st : Sta B s) (h : relP s0 s v o) (e : listAt o s.w = some xs) :
    ∃ l vs, v = .ref l ∧ s.H l = some (.lst vs) ∧ RDs s.R s.as vs xs ∧
      ∀ us ys, RDs s.R s.as us ys → Sta B { s with H := upd s.H l (.lst us), w := putAtL o s.w ys } ∧ ∀ s0, Tr s0 s → Tr s0 { s with H := upd s.H l (.lst us), w := putAtL o s.w ys } := by
  have sto : ∀ (k : Nat) (a : Addr) (zs : List D), s.as[k]? = some a → s.w.sto[k]? = some (.lst zs) → ∃ vs, s.H a = some (.lst vs) ∧ RDs s.R s.as vs zs ∧
      ∀ us ys, RDs s.R s.as us ys → Sta B { s with H := upd s.H a (.lst us), w := ⟨s.w.env, s.w.sto.set k (.lst ys)⟩ } ∧ ∀ s0, Tr s0 s → Tr s0 { s with H := upd s.H a (.lst us), w := ⟨s.w.env, s.w.sto.set k (.lst ys)⟩ } := by
    intro k a zs e1 e2
    obtain ⟨hR, vs, h1, h2⟩ := st.sto k a _ e1 e2
    exact ⟨vs, h1, h2, fun us ys r => ⟨st.stoUpd e1 hR ⟨hR, us, upd_same, r⟩, fun s0 t => t.stoUpd e1⟩⟩
  cases o with
  | v d =>
    cases d with
    | o k =>
      have e' : (match s.w.sto[k]? with | some (.lst xs) => some xs | _ => none) = some xs := e
      split at e'
      · rename_i zs e2
        cases e'
        have h' : RD s.R s.as v (.o k) := h
        cases h' with
        | o h1 =>
          obtain ⟨vs, h2, h3, h4⟩ := sto k _ _ h1 e2
          exact ⟨_, vs, rfl, h2, h3, h4⟩
      · cases e'
    | _ => cases e
  | s i =>
    have h' : s.σ[i]? = some (some v) := h
    have e' : (match s.w.env[i]? with | some (.own xs) => some xs | some (.d (.o k)) => (match s.w.sto[k]? with | some (.lst xs) => some xs | _ => none) | _ => none) = some xs := e
    have pe : ∀ ys, putAtL (.s i) s.w ys = (match s.w.env[i]? with | some (.own _) => setW s.w i (.own ys) | some (.d (.o k)) => ⟨s.w.env, s.w.sto.set k (.lst ys)⟩ | _ => s.w) := fun _ => rfl
    split at e'
    · rename_i zs e1
      cases e'
      obtain ⟨l, h1, _, _, vs, h2, h3⟩ := st.own i xs e1
      rw [h'] at h1
      cases h1
      refine ⟨l, vs, rfl, h2, h3, fun us ys r => ?_⟩
      rw [pe, e1]
      exact ⟨st.ownUpd e1 h' r, fun s0 t => Tr.ownUpd st t e1 h'⟩
    · rename_i k e1
      split at e'
      · rename_i zs e2
        cases e'
        obtain ⟨v', h1, h2⟩ := st.imm i _ e1
        rw [h'] at h1
        cases h1
        cases h2 with
        | o h3 =>
          obtain ⟨vs, h4, h5, h6⟩ := sto k _ _ h3 e2
          refine ⟨_, vs, rfl, h4, h5, fun us ys r => ?_⟩
          rw [pe, e1]
          exact h6 us ys r
      · cases e'
    · cases e'
theorem listAt.tr {o : Op} {w : Wd} {xs : List D} (h : listAt o w = some xs) : True := trivial
/-- xs.append(e) -/
def mApp (mo : M Op) (me : M D) : M D := bnd mo fun o w0 => match listAt o w0 with
  | none => none
  | some _ => bnd me (fun d w => match listAt o w with
    | some xs => if xs.length < 16777216 then some (.ok .non (putAtL o w (xs ++ [d]))) else none
    | none => none) w0
theorem ge_append {o : Expr} {to : TE} {mo : M Op} {me : M D} {apos : Pos} (ho : GP B W X o to mo) (he : GE B W X e te me)
    (hbase : attributeBase o ("append" : Str) X.env (eval o X.env) = eval o X.env := by rfl)
    (hfew : ((backTo pos (starEach [e] X.env)).all (fun x => !x.1) && (backToKw pos (keywordEach [] X.env)).all (fun x => x.1.isSome)
      && decide (([e] : List Expr).length + ([] : List Keyword).length + (if ([] : List Keyword).isEmpty then 0 else 1) < 30)) = true := by rfl)
    (hline : (apos.endLine == pos.line) = true := by rfl) (hs : starEach [e] X.env = (false, eval e X.env) :: starEach [] X.env := by rfl) (hplain : (backTo pos (starEach [] X.env)).any (·.1) = false := by rfl) :
    GE B W X (.Call (.Attribute o ("append" : Str) apos) [e] [] pos) (tBM X.K "list" rAppend to (tCons te tNil)) (mApp mo me) :=
  ⟨pe_bm PySem.F.plainAttrs_list PySem.F.slot_list_append PySem.F.type_list_append mt_append ho.pe (pa_cons he.pe pa_nil hs) hbase hfew hline hs hplain, fun s Q st q => by
    refine ho.sp.run st (Tr.refl s) (wpM_bnd.mp q) fun oo s1 st1 t1 es p v r => ?_
    split at p
    · exact p.elim
    · rename_i xs0 e0
      obtain ⟨l0, vs0, rfl, h0, _⟩ := listAt_ok st1 r e0
      refine ⟨.inl ⟨rfl, vs0, SqL.of h0⟩, ?_⟩
      rw [← es]
      refine he.sp.run st1 t1 (wpM_bnd.mp p) fun d s2 st2 t2 es2 p2 y r2 => ?_
      split at p2
      · rename_i xs e1
        split at p2
        · rename_i hl
          obtain ⟨l, vs, e3, h1, h2, h3⟩ := listAt_ok st2 (r.tr t2 es2) e1
          obtain ⟨st3, t3⟩ := h3 (vs ++ [y]) (xs ++ [d]) (h2.app (.one r2))
          refine ⟨l, vs, y, e3, rfl, h1, by rw [h2.length, sizeLine_eq]; exact hl, ?_⟩
          exact p2 _ st3 (t3 s (t1.trans t2)) rfl (es2.trans es) _ .non
        · exact p2.elim
      · exact p2.elim
    ⟩
/-- xs.pop(i) -/
def mPopAt (mo : M Op) (mi : M Op) : M D := bnd mo fun o w0 => match listAt o w0 with
  | none => none
  | some _ => bnd mi (fun p w => match listAt o w, p.get w with
    | some xs, some (.int i) => (match ixN xs.length i with
      | some j => (match xs[j]? with
        | some d => if -(2 ^ 62) ≤ i ∧ i ≤ 2 ^ 62 then some (.ok d (putAtL o w (xs.eraseIdx j))) else none
        | none => none)
      | none => none)
    | _, _ => none) w0
theorem ge_popAt {o : Expr} {to : TE} {mo me : M Op} {apos : Pos} (ho : GP B W X o to mo) (he : GP B W X e te me)
    (hbase : attributeBase o ("pop" : Str) X.env (eval o X.env) = eval o X.env := by rfl)
    (hfew : ((backTo pos (starEach [e] X.env)).all (fun x => !x.1) && (backToKw pos (keywordEach [] X.env)).all (fun x => x.1.isSome)
      && decide (([e] : List Expr).length + ([] : List Keyword).length + (if ([] : List Keyword).isEmpty then 0 else 1) < 30)) = true := by rfl)
    (hline : (apos.endLine == pos.line) = true := by rfl) (hs : starEach [e] X.env = (false, eval e X.env) :: starEach [] X.env := by rfl) (hplain : (backTo pos (starEach [] X.env)).any (·.1) = false := by rfl) :
    GE B W X (.Call (.Attribute o ("pop" : Str) apos) [e] [] pos) (tBM X.K "list" rPopAt to (tCons te tNil)) (mPopAt mo me) :=
  ⟨pe_bm PySem.F.plainAttrs_list PySem.F.slot_list_pop PySem.F.type_list_pop mt_popAt ho.pe (pa_cons he.pe pa_nil hs) hbase hfew hline hs hplain, fun s Q st q => by
    refine ho.sp.run st (Tr.refl s) (wpM_bnd.mp q) fun oo s1 st1 t1 es p v r => ?_
    split at p
    · exact p.elim
    · rename_i xs0 e0
      obtain ⟨l0, vs0, rfl, h0, _⟩ := listAt_ok st1 r e0
      refine ⟨.inl ⟨rfl, vs0, SqL.of h0⟩, ?_⟩
      rw [← es]
      refine he.sp.run st1 t1 (wpM_bnd.mp p) fun o2 s2 st2 t2 es2 p2 y r2 => ?_
      split at p2
      · rename_i xs i e1 e2
        split at p2
        · rename_i j ej
          split at p2
          · rename_i d ed
            split at p2
            · rename_i hl
              obtain ⟨l, vs, e3, h1, h2, h3⟩ := listAt_ok st2 (r.tr t2 es2) e1
              obtain ⟨st3, t3⟩ := h3 (vs.eraseIdx j) (xs.eraseIdx j) (h2.eraseIdx j)
              obtain ⟨u, hu, ru⟩ := h2.get ed
              rw [← h2.length] at ej
              refine ⟨l, vs, i, j, u, e3, by rw [(get_ok st2 r2 e2).int], h1, by omega, by omega, (ixN_seq ej).1, hu, ?_⟩
              exact p2 _ st3 (t3 s (t1.trans t2)) rfl (es2.trans es) _ ru
            · exact p2.elim
          · exact p2.elim
        · exact p2.elim
      · exact p2.elim
    ⟩
end
end PD

set_option maxHeartbeats 1000000
namespace PD
open PySem PySem.Spec PyProof.Rows L2
/-! ### statements, targets, loops -/
inductive Fl where
  | nx | ret (d : D) | brk | cnt
def FlP (B : Hp) (s : CS) (Dn : Ends) (fl : Fl) (w' : Wd) : Prop := match fl with
  | .nx => ∀ s', Sta B s' → Tr s s' → s'.w = w' → Dn.nx s'.σ s'.H
  | .brk => ∀ s', Sta B s' → Tr s s' → s'.w = w' → Dn.bk s'.σ s'.H
  | .cnt => ∀ s', Sta B s' → Tr s s' → s'.w = w' → Dn.ct s'.σ s'.H
  | .ret d => ∀ s', Sta B s' → Tr s s' → s'.w = w' → ∀ v, RD s'.R s'.as v d → Dn.rt v s'.H
def SpS (B : Hp) (W : WX) (t : TS) (m : M Fl) : Prop := ∀ (s : CS) (Dn : Ends), Sta B s → wpM (m s.w) (FlP B s Dn) (XP B W s) → t Dn s.σ s.H
structure GS (B : Hp) (W : WX) (X : Cx) (st : Stmt) (t : TS) (m : M Fl) : Prop where
  ps : PS X st t
  sp : SpS B W t m
structure GSs (B : Hp) (W : WX) (X : Cx) (sts : List Stmt) (t : TS) (m : M Fl) : Prop where
  ps : PSs X sts t
  sp : SpS B W t m
def SpG (B : Hp) (W : WX) (vs : List Nat) (g : TG) (m : D → M Unit) : Prop := ∀ (s : CS) (v : V) (d : D) (Q : L2.St → Hp → Prop), Sta B s → RD s.R s.as v d →
  wpM (m d s.w) (fun _ w' => ∀ s', Sta B s' → Tr s s' → s'.w = w' → wipe s'.σ vs = wipe s.σ vs → Q s'.σ s'.H) (XP B W s) → g v s.σ s.H Q
def SpGs (B : Hp) (W : WX) (vs : List Nat) (g : TGs) (m : List D → M Unit) : Prop := ∀ (s : CS) (us : List V) (ds : List D) (Q : L2.St → Hp → Prop), Sta B s → RDs s.R s.as us ds →
  wpM (m ds s.w) (fun _ w' => ∀ s', Sta B s' → Tr s s' → s'.w = w' → wipe s'.σ vs = wipe s.σ vs → Q s'.σ s'.H) (XP B W s) → g us s.σ s.H Q
structure GG (B : Hp) (W : WX) (X : Cx) (tg : Expr) (g : TG) (vs : List Nat) (m : D → M Unit) : Prop where
  pg : PG X tg g
  sp : SpG B W vs g m
structure GGs (B : Hp) (W : WX) (X : Cx) (tgs : List Expr) (g : TGs) (vs : List Nat) (m : List D → M Unit) : Prop where
  pg : PGs X tgs g
  sp : SpGs B W vs g m
section
variable {B : Hp} {W : WX} {X : Cx} {a b e : Expr} {ta tb te : TE} {pos : Pos} {s s0 s1 : CS} {st : Stmt} {sts rest : List Stmt} {t u : TS} {m n : M Fl} {vs : List Nat} {g : TG} {gs : TGs}
theorem FlP.tr {Dn : Ends} {fl : Fl} {w' : Wd} (h : Tr s s1) (q : FlP B s Dn fl w') : FlP B s1 Dn fl w' := by
  cases fl with
  | nx => exact fun s' a b c => q s' a (h.trans b) c
  | brk => exact fun s' a b c => q s' a (h.trans b) c
  | cnt => exact fun s' a b c => q s' a (h.trans b) c
  | ret d => exact fun s' a b c => q s' a (h.trans b) c
theorem SpS.run (h : SpS B W t m) (st : Sta B s) (t0 : Tr s0 s) {Dn : Ends} {P : Fl → Wd → Prop} (hw : wpM (m s.w) P (XP B W s0)) (hq : ∀ fl w', P fl w' → FlP B s Dn fl w') : t Dn s.σ s.H :=
  h s Dn st (wpM_mono hw hq fun _ _ q => q.tr t0)
def mSeq (m n : M Fl) : M Fl := bnd m fun fl => match fl with
  | .nx => n
  | fl => mpure fl
theorem gss_nil : GSs B W X [] tNext (mpure .nx) := ⟨pss_nil, fun s Dn st q => q s st (Tr.refl s) rfl⟩
theorem gss_one (h : GS B W X st t m) : GSs B W X [st] t m := ⟨pss_one h.ps, h.sp⟩
theorem gss_cons (h : GS B W X st t m) (hr : GSs B W X rest u n) : GSs B W X (st :: rest) (tSeq t u) (mSeq m n) := ⟨pss_cons h.ps hr.ps, fun s Dn st q => by
  refine h.sp.run (Dn := { Dn with nx := u Dn }) st (Tr.refl s) (wpM_bnd.mp q) fun fl w' p => ?_
  cases fl with
  | nx =>
    intro s1 st1 t1 ew
    refine hr.sp.run st1 t1 (P := FlP B s Dn) (by rw [ew]; exact p) fun fl w p => p.tr t1
  | brk => exact p
  | cnt => exact p
  | ret d => exact p⟩
theorem gs_pass : GS B W X (.Pass pos) tNext (mpure .nx) := ⟨ps_pass, fun s Dn st q => q s st (Tr.refl s) rfl⟩
theorem gs_break : GS B W X (.Break pos) tBreak (mpure .brk) := ⟨ps_break, fun s Dn st q => q s st (Tr.refl s) rfl⟩
theorem gs_continue : GS B W X (.Continue pos) tCont (mpure .cnt) := ⟨ps_continue, fun s Dn st q => q s st (Tr.refl s) rfl⟩
theorem gs_never : GS B W X st tNever (fun _ => none) := ⟨ps_never, fun s Dn st q => False.elim q⟩
theorem gss_never : GSs B W X sts tNever (fun _ => none) := ⟨pss_never, fun s Dn st q => False.elim q⟩
def mExpr (m : M D) : M Fl := bnd m fun _ => mpure .nx
theorem gs_expr {me : M D} (h : GE B W X e te me) (hs : swapsWith e none pos.line X.env = pure false := by rfl) : GS B W X (.Expr e pos) (tDrop te) (mExpr me) := ⟨ps_expr h.pe hs, fun s Dn st q => by
  refine h.sp.run st (Tr.refl s) (wpM_bnd.mp q) fun d s1 st1 t1 es p v r => ?_
  rw [← es]
  exact p s1 st1 t1 rfl⟩
def mRet (m : M D) : M Fl := bnd m fun d => mpure (.ret d)
theorem gs_ret {me : M D} (h : GE B W X e te me) : GS B W X (.Return (some e) pos) (tRet te) (mRet me) := ⟨ps_ret h.pe, fun s Dn st q =>
  h.sp.run st (Tr.refl s) (wpM_bnd.mp q) fun d s1 st1 t1 es p v r => p s1 st1 t1 rfl v r⟩
theorem gs_retN : GS B W X (.Return none pos) tRetN (mpure (.ret .non)) := ⟨ps_retN, fun s Dn st q => q s st (Tr.refl s) rfl _ .non⟩
theorem gs_if {c : Expr} {p q : List Stmt} {tc : TT} {mc : M Bool} (hc : GT B W X c tc mc) (ha : GSs B W X p t m) (hb : GSs B W X q u n) : GS B W X (.If c p q pos) (tIfS tc t u) (mIf mc m n) := ⟨ps_if hc.pt ha.ps hb.ps, fun s Dn st q => by
  refine hc.sp.run st (Tr.refl s) (wpM_bnd.mp q) fun k s1 st1 t1 es p c r => ?_
  rw [show c = k from r]
  cases k with
  | true =>
    rw [if_pos rfl] at p ⊢
    rw [← es]
    exact ha.sp.run st1 t1 p fun fl w q => q.tr t1
  | false =>
    rw [if_neg Bool.false_ne_true] at p ⊢
    rw [← es]
    exact hb.sp.run st1 t1 p fun fl w q => q.tr t1⟩
/-- name = e -/
def stV (i : Nat) (z : RV) (w : Wd) : Wd := match z with
  | .d x => setW w i (.d x)
  | .l xs => setW w i (.own xs)
def mSet (i : Nat) (m : M RV) : M Fl := bnd m fun z w => some (.ok .nx (stV i z w))
theorem put_ok {i : Nat} {z : RV} {v : V} (st : Sta B s1) (t : Tr s s1) (r : relF s s1 v z) : ∃ s', Sta B s' ∧ Tr s s' ∧ s'.w = stV i z s1.w ∧ s'.σ = s1.σ.set i (some v) ∧ s'.H = s1.H := by
  cases z with
  | d x => exact ⟨_, st.put (i := i) r, t.put, rfl, rfl, rfl⟩
  | l xs =>
    obtain ⟨l, rfl, h0, ho, hw⟩ := r
    exact ⟨_, st.putOwn (i := i) hw ho, t.putOwn h0, rfl, rfl, rfl⟩
theorem sp_set {i : Nat} {me : M RV} (h : Sp1 B W relF te me) : SpS B W (tAsg te (gName i)) (mSet i me) := fun s Dn st q => by
  refine h.run st (Tr.refl s) (wpM_bnd.mp q) fun z s1 st1 t1 es p v r => ?_
  obtain ⟨s2, st2, t2, ew, e2, eH⟩ := put_ok (i := i) st1 t1 r
  show Dn.nx (s.σ.set i (some v)) s1.H
  rw [← es, ← e2, ← eH]
  exact p s2 st2 t2 ew
theorem gs_set {i : Nat} {x : Str} {pos' : Pos} {me : M RV} (he : GF B W X e te me) (hN : X.N.Nodup) (hi : X.N[i]? = some x) (hx : Loc X.env.scope x) (hs : swapsWith e (some (.Name x pos')) pos.line X.env = pure false := by rfl)
    (hf : X.fn x = true ∨ X.env.scope.names.lookup x = some .local := by first | exact .inl rfl | exact .inr rfl | assumption) : GS B W X (.Assign [.Name x pos'] e pos) (tAsg te (gName i)) (mSet i me) := ⟨ps_set hN hi hx he.pe hs hf, sp_set he.sp⟩
/-! targets -/
theorem wipe_get (σ : L2.St) (j : Nat) : ∀ vs : List Nat, (wipe σ vs)[j]? = if j ∈ vs then (σ[j]?).map (fun _ => none) else σ[j]?
  | [] => by simp [wipe]
  | v :: vs => by
    have ih := wipe_get σ j vs
    show ((wipe σ vs).set v none)[j]? = _
    rw [List.getElem?_set, wipe_length]
    by_cases h : v = j
    · subst h
      rw [if_pos rfl, if_pos List.mem_cons_self]
      by_cases hl : v < σ.length
      · rw [if_pos hl, List.getElem?_eq_getElem hl]; rfl
      · rw [if_neg hl, List.getElem?_eq_none (by omega)]; rfl
    · rw [if_neg h, ih]
      by_cases hm : j ∈ vs
      · rw [if_pos hm, if_pos (List.mem_cons_of_mem _ hm)]
      · rw [if_neg hm, if_neg (fun z => (List.mem_cons.mp z).elim (fun q => h q.symm) hm)]
theorem wipe_set (σ : L2.St) {i : Nat} {vs : List Nat} (h : i ∈ vs) (x : Option V) : wipe (σ.set i x) vs = wipe σ vs := by
  apply List.ext_getElem?
  intro j
  rw [wipe_get, wipe_get]
  by_cases hj : j ∈ vs
  · rw [if_pos hj, if_pos hj, List.getElem?_set]
    by_cases q : i = j
    · subst q
      rw [if_pos rfl]
      by_cases hl : i < σ.length
      · rw [if_pos hl, List.getElem?_eq_getElem hl]; rfl
      · rw [if_neg hl, List.getElem?_eq_none (by omega)]
    · rw [if_neg q]
  · rw [if_neg hj, if_neg hj, List.getElem?_set_ne (fun q => hj (by rw [← q]; exact h))]
theorem wipe_wipe (σ : L2.St) (vs : List Nat) : wipe (wipe σ vs) vs = wipe σ vs := by
  apply List.ext_getElem?
  intro j
  rw [wipe_get, wipe_get]
  by_cases hj : j ∈ vs
  · rw [if_pos hj, if_pos hj]
    cases σ[j]? <;> rfl
  · rw [if_neg hj, if_neg hj]
def mgName (i : Nat) : D → M Unit := fun d w => some (.ok () (setW w i (.d d)))
theorem gg_name {i : Nat} {x : Str} (hv : i ∈ vs) (hN : X.N.Nodup) (hi : X.N[i]? = some x) (hx : Loc X.env.scope x) (hf : X.fn x = true ∨ X.env.scope.names.lookup x = some .local := by first | exact .inl rfl | exact .inr rfl | assumption) :
    GG B W X (.Name x pos) (gName i) vs (mgName i) := ⟨pg_name hN hi hx hf, fun s v d Q st r q => q _ (st.put (i := i) r) (Tr.refl s).put rfl (wipe_set _ hv _)⟩
def mgNil : List D → M Unit := fun ds w => match ds with
  | [] => some (.ok () w)
  | _ => none
def mgCons (m : D → M Unit) (r : List D → M Unit) : List D → M Unit := fun ds => match ds with
  | d :: ds => bnd (m d) fun _ => r ds
  | [] => fun _ => none
theorem ggs_nil : GGs B W X [] gNil vs mgNil := ⟨pgs_nil, fun s us ds Q st r q => by
  cases r with
  | nil => exact ⟨rfl, q s st (Tr.refl s) rfl rfl⟩
  | cons h r => exact q.elim⟩
theorem ggs_cons {es : List Expr} {mg : D → M Unit} {mr : List D → M Unit} (h1 : GG B W X e g vs mg) (h2 : GGs B W X es gs vs mr) (hs : (assignEach (e :: es) X.env).map (·.2) = assign e X.env :: (assignEach es X.env).map (·.2) := by rfl) :
    GGs B W X (e :: es) (gCons g gs) vs (mgCons mg mr) := ⟨pgs_cons h1.pg h2.pg hs, fun s us ds Q st r q => by
  cases r with
  | nil => exact q.elim
  | @cons v vr d dr h r =>
    refine ⟨v, vr, rfl, ?_⟩
    have q' := wpM_bnd.mp (show wpM (bnd (mg d) (fun _ => mr dr) s.w) _ _ from q)
    refine h1.sp s v d _ st h (wpM_mono q' (fun _ w' p s1 st1 t1 ew ew2 => ?_) fun _ _ x => x)
    subst ew
    refine h2.sp s1 vr dr Q st1 (r.mono t1.reg t1.pre) (wpM_mono p (fun _ w2 p2 s2 st2 t2 e2 e3 => p2 s2 st2 (t1.trans t2) e2 (e3.trans ew2)) fun _ _ x => x.tr t1)⟩
def mgTup (n : Nat) (m : List D → M Unit) : D → M Unit := fun d => match d with
  | .tup ds => if ds.length = n then m ds else fun _ => none
  | _ => fun _ => none
theorem gg_tup {es : List Expr} {k : Nat} {mr : List D → M Unit} {n : Nat} (h : GGs B W X es gs vs mr) (hc : X.calm = true) (hn : (assignEach es X.env).length = n := by rfl) (hst : (assignEach es X.env).findIdx? (·.1) = none := by rfl) :
    GG B W X (.Tuple es k pos) (gTup X.K n gs) vs (mgTup n mr) := ⟨pg_tup hc h.pg hn hst, fun s v d Q st r q => by
  cases d with
  | tup ds =>
    have q' : wpM ((if ds.length = n then mr ds else fun _ => none) s.w) _ _ := q
    split at q'
    · rename_i hl
      cases r with
      | tup h1 h2 => exact ⟨_, _, rfl, SqT.of (st.reg _ _ h1), by rw [h2.length]; exact hl, h.sp s _ ds Q st h2 q'⟩
    · exact q'.elim
  | _ => exact q.elim⟩
/-- o[i] = .. of a list -/
def mgSub (mo mi : M Op) : D → M Unit := fun d => bnd mo fun o => bnd mi fun p w => match listAt o w, p.get w with
  | some xs, some (.int k) => (match ixN xs.length k with
    | some j => some (.ok () (putAtL o w (xs.set j d)))
    | none => none)
  | _, _ => none
theorem gg_sub {o i : Expr} {to ti : TE} {mo mi : M Op} (ho : GP B W X o to mo) (hi : GP B W X i ti mi)
    (ha : ∀ v, assign (.Subscript o i pos) X.env v = (do
      let ov ← holding [v] (eval o X.env)
      let iv ← holding [v, ov] (eval i X.env)
      standAt pos
      holding [v, ov, iv] (setItem ov iv v)
      release [v, ov, iv] []) := by intro _; rfl) : GG B W X (.Subscript o i pos) (gSub to ti rSetL) vs (mgSub mo mi) := ⟨pg_sub ho.pe hi.pe set_list ha, fun s v d Q st r q => by
  refine ho.sp.run st (Tr.refl s) (wpM_bnd.mp q) fun oo s1 st1 t1 es p u ru => ?_
  rw [← es]
  refine hi.sp.run st1 t1 (wpM_bnd.mp p) fun o2 s2 st2 t2 es2 p2 y r2 => ?_
  split at p2
  · rename_i xs k e1 e2
    split at p2
    · rename_i j ej
      obtain ⟨l, ws, e3, h1, h2, h3⟩ := listAt_ok st2 (ru.tr t2 es2) e1
      obtain ⟨st3, t3⟩ := h3 (ws.set j v) (xs.set j d) (h2.set j ((r.mono t1.reg t1.pre).mono t2.reg t2.pre))
      refine ⟨l, ws, k, j, e3, (get_ok st2 r2 e2).int, h1, by rw [h2.length]; exact ej, ?_⟩
      rw [← es2]
      exact p2 _ st3 (t3 s (t1.trans t2)) rfl (by show wipe s2.σ vs = _; rw [es2, es])
    · exact p2.elim
  · exact p2.elim⟩
def mAsg (m : M D) (g : D → M Unit) : M Fl := bnd m fun d => bnd (g d) fun _ => mpure .nx
theorem gs_asg {tg : Expr} {me : M D} {mg : D → M Unit} (he : GE B W X e te me) (hg : GG B W X tg g vs mg) (hs : swapsWithSole [tg] e pos.line X.env = pure false := by rfl) (hw : swappedStores [tg] e X.env = pure none := by rfl)
    (h1 : (assignEach [tg] X.env).map (·.2) = [assign tg X.env] := by rfl) : GS B W X (.Assign [tg] e pos) (tAsg te g) (mAsg me mg) := ⟨ps_asg he.pe hg.pg hs hw h1, fun s Dn st q => by
  refine he.sp.run st (Tr.refl s) (wpM_bnd.mp q) fun d s1 st1 t1 es p v r => ?_
  rw [← es]
  exact hg.sp s1 v d Dn.nx st1 r (wpM_mono (wpM_bnd.mp p) (fun _ w2 p2 s2 st2 t2 ew _ => p2 s2 st2 (t1.trans t2) ew) fun _ _ x => x.tr t1)⟩
/-- x += e -/
def mAug (i : Nat) (g : Int → Int → Int) (me : M Op) : M Fl := fun w => match w.env[i]? with
  | some (.d (.int x)) => bnd me (fun o w' => match o.get w' with
    | some (.int y) => some (.ok .nx (setW w' i (.d (.int (g x y)))))
    | _ => none) w
  | _ => none
theorem gs_aug {i : Nat} {x : Str} {op : Operator} {pos' : Pos} {me : M Op} {f : Int → Int → Int} (he : GP B W X e te me) (ho : PIp X op (ipI f)) (hN : X.N.Nodup) (hi : X.N[i]? = some x) (hx : Loc X.env.scope x)
    (hf : X.fn x = true ∨ X.env.scope.names.lookup x = some .local := by first | exact .inl rfl | exact .inr rfl | assumption) :
    GS B W X (.AugAssign (.Name x pos') op e pos) (tAug i te (ipI f)) (mAug i f me) := ⟨ps_aug hN hi hx he.pe ho hf, fun s Dn st q => by
  have q' : wpM (match s.w.env[i]? with | some (.d (.int x)) => bnd me (fun o w' => match o.get w' with | some (.int y) => some (.ok Fl.nx (setW w' i (.d (.int (f x y))))) | _ => none) s.w | _ => none) _ _ := q
  split at q'
  · rename_i k e1
    obtain ⟨v, h1, h2⟩ := st.imm i _ e1
    cases h2
    refine ⟨_, h1, ?_⟩
    refine he.sp.run st (Tr.refl s) (wpM_bnd.mp q') fun o s1 st1 t1 es p v r => ?_
    split at p
    · rename_i y e2
      refine ⟨k, y, rfl, (get_ok st1 r e2).int, ?_⟩
      rw [← es]
      exact p _ (st1.put (i := i) (.int _)) t1.put rfl
    · exact p.elim
  · exact q'.elim⟩
/-- a[i] += e of a list of ints -/
theorem get_listP : PGet X (rIxL X.K) := by
  intro pins s σ H o i ov iv Q I ro ri h
  obtain ⟨p, xs, k, z, rfl, rfl, hq, he, q⟩ := h
  cases ro
  obtain ⟨t, rfl⟩ := ri
  obtain ⟨its, r, pl, hz⟩ := I.list hq
  obtain ⟨j, h1, h2, h3, h4, h5⟩ := atI_get he
  obtain ⟨w, ew, rw'⟩ := r.get h2
  have hl := r.length
  have hn := line63
  have fin : EP X pins σ Q w s := ⟨z, H, I, rw', q⟩
  by_cases h0 : 0 ≤ k
  · have hj : k.toNat = j := by
      rw [seqIndex_of h0 h5] at h1
      exact Option.some.inj h1
    exact wpAny_getItem_list pl.isList h0 (by omega) (by rw [hj]; simpa using ew) fin
  · have hj : (k + (its.toArray.size : Int)).toNat = j := by
      rw [seqIndex_neg (by omega) h4] at h1
      rw [List.size_toArray, ← hl]
      exact Option.some.inj h1
    exact wpAny_getItem_list_neg pl.isList (by omega) (by rw [List.size_toArray] <;> omega) (by omega) (by rw [hj]; simpa using ew) fin
def mAugS (g : Int → Int → Int) (mo mi me : M Op) : M Fl := bnd mo fun o => bnd mi fun p w => match listAt o w, p.get w with
  | some xs, some (.int k) => (match atI xs k with
    | some (.int x) => bnd me (fun r w' => match listAt o w', r.get w' with
      | some ys, some (.int y) => (match ixN ys.length k with
        | some j => some (.ok .nx (putAtL o w' (ys.set j (.int (g x y)))))
        | none => none)
      | _, _ => none) w
    | _ => none)
  | _, _ => none
theorem gs_augS {o i : Expr} {to ti : TE} {mo mi me : M Op} {op : Operator} {tpos : Pos} {f : Int → Int → Int} (ho : GP B W X o to mo) (hi : GP B W X i ti mi) (he : GP B W X e te me) (hp : PIp X op (ipI f))
    (ha : ∀ ov iv new, augStore i ov iv new = (do holding [new, ov, iv] (setItem ov iv new); release [new, ov, iv] []; pure .next) := by intros; rfl) :
    GS B W X (.AugAssign (.Subscript o i tpos) op e pos) (tAugS to ti te (rIxL X.K) (ipI f) rSetL) (mAugS f mo mi me) := ⟨ps_augS ho.pe hi.pe get_listP he.pe hp set_list ha, fun s Dn st q => by
  refine ho.sp.run st (Tr.refl s) (wpM_bnd.mp q) fun oo s1 st1 t1 es p u ru => ?_
  rw [← es]
  refine hi.sp.run st1 t1 (wpM_bnd.mp p) fun o2 s2 st2 t2 es2 p2 y r2 => ?_
  split at p2
  · rename_i xs k e1 e2
    split at p2
    · rename_i x ex
      obtain ⟨l, ws, e3, h1, h2, h3⟩ := listAt_ok st2 (ru.tr t2 es2) e1
      obtain ⟨v, hv, rv⟩ := atI_rd h2 ex
      cases rv
      refine ⟨l, ws, k, _, e3, (get_ok st2 r2 e2).int, SqL.of h1, hv, ?_⟩
      rw [← es2]
      refine he.sp.run st2 (t1.trans t2) (wpM_bnd.mp p2) fun o3 s3 st3 t3 es3 p3 z r3 => ?_
      split at p3
      · rename_i ys y' e4 e5
        split at p3
        · rename_i j ej
          refine ⟨x, y', rfl, (get_ok st3 r3 e5).int, ?_⟩
          obtain ⟨l', us, e6, h4, h5, h6⟩ := listAt_ok st3 ((ru.tr t2 es2).tr t3 es3) e4
          obtain ⟨st4, t4⟩ := h6 (us.set j (.int (f x y'))) (ys.set j (.int (f x y'))) (h5.set j (.int _))
          refine ⟨l', us, k, j, e6, (get_ok st2 r2 e2).int, h4, by rw [h5.length]; exact ej, ?_⟩
          rw [← es3]
          exact p3 _ st4 (t4 s ((t1.trans t2).trans t3)) rfl
        · exact p3.elim
      · exact p3.elim
    · exact p2.elim
  · exact p2.elim⟩

/-! loops -/
def WalkD (B : Hp) (s0 : CS) (J : It) (ds : List D) : Prop := ∀ (s : CS) (i : Nat), Sta B s → Tr s0 s →
  (∀ d, ds[i]? = some d → J.go i s.H ∧ ∀ x H', J.yld i s.H x H' → ∃ s', Sta B s' ∧ Tr s s' ∧ s'.w = s.w ∧ s'.σ = s.σ ∧ s'.H = H' ∧ RD s'.R s'.as x d) ∧ (i = ds.length → J.stop i s.H)
theorem WalkD.tr {J : It} {ds : List D} (h : WalkD B s0 J ds) (t : Tr s0 s1) : WalkD B s1 J ds := fun s i st t' => h s i st (t.trans t')
structure GI (B : Hp) (W : WX) (X : Cx) (tg e : Expr) (wi : TI) (m : M (List D)) : Prop where
  pi : PI X tg e wi
  sp : Sp1 B W (fun _ s' (J : It) (ds : List D) => WalkD B s' J ds) wi m
def iLst (m : M D) : M (List D) := bnd m fun d w => match d with
  | .lst ds => some (.ok ds w)
  | _ => none
theorem walk_lst {K : PySem.W.Frag} {l : Addr} {us : List V} {ds : List D} (h1 : s0.R l = some (.lst us)) (h2 : RDs s0.R s0.as us ds) : WalkD B s0 (Itl K l) ds := fun s i st t => by
  have hH : s.H l = some (.lst us) := st.reg _ _ (t.reg _ _ h1)
  refine ⟨fun d hd => ?_, fun hi => ⟨us, SqL.of hH, by rw [hi, h2.length]; exact Nat.le_refl _⟩⟩
  obtain ⟨v, hv, rv⟩ := h2.get hd
  refine ⟨⟨us, v, SqL.of hH, hv⟩, fun x H' hy => ?_⟩
  obtain ⟨rfl, hy⟩ := hy
  have e := hy us (SqL.of hH)
  rw [hv] at e
  cases e
  exact ⟨s, st, Tr.refl s, rfl, rfl, rfl, rv.mono t.reg t.pre⟩
theorem gi_list {tg : Expr} {me : M D} (h : GE B W X e te me) : GI B W X tg e (iList X.K te) (iLst me) := ⟨pi_list h.pe, fun s Q st q => by
  refine h.sp.run st (Tr.refl s) (wpM_bnd.mp q) fun d s1 st1 t1 es p v r => ?_
  cases d with
  | lst ds =>
    cases r with
    | lst h1 h2 => exact ⟨_, rfl, ⟨_, SqL.of (st1.reg _ _ h1)⟩, p s1 st1 t1 rfl es _ (walk_lst h1 h2)⟩
  | _ => exact p.elim⟩
def rgOk2 (a b : Int) : Bool := decide (-1000000000 ≤ a ∧ a ≤ 1000000000 ∧ -1000000000 ≤ b ∧ b ≤ 1000000000)
def iRg (m : M (Int × Int)) : M (List D) := bnd m fun ab w => if rgOk2 ab.1 ab.2 = true then some (.ok (rgD ab.1 ab.2) w) else none
theorem rgD_get {a b : Int} {i : Nat} {d : D} (h : (rgD a b)[i]? = some d) : d = .int (a + (i : Nat)) ∧ i < (b - a).toNat := by
  unfold rgD at h
  rw [List.getElem?_map] at h
  cases q : (List.range (b - a).toNat)[i]? with
  | none => rw [q] at h; cases h
  | some j =>
    rw [q] at h
    cases h
    obtain ⟨h1, h2⟩ := List.getElem?_eq_some_iff.mp q
    rw [List.length_range] at h1
    rw [List.getElem_range] at h2
    subst h2
    exact ⟨rfl, h1⟩
theorem rgD_length (a b : Int) : (rgD a b).length = (b - a).toNat := by unfold rgD; rw [List.length_map, List.length_range]
theorem walk_rg (a b : Int) : WalkD B s0 (Itr a (b - a).toNat) (rgD a b) := fun s i st t => by
  refine ⟨fun d hd => ?_, fun hi => by show _ ≤ i; rw [hi, rgD_length]; exact Nat.le_refl _⟩
  obtain ⟨rfl, hi⟩ := rgD_get hd
  refine ⟨hi, fun x H' hy => ?_⟩
  obtain ⟨rfl, rfl⟩ := hy
  exact ⟨s, st, Tr.refl s, rfl, rfl, rfl, .int _⟩
theorem gi_range1 {tg : Expr} {p : Pos} {ma : M Op} (ha : GP B W X a ta ma) (hg : Gl X "range") (hm : X.mg "range" = none) (hs : starEach [a] X.env = [(false, eval a X.env)] := by rfl) : GI B W X tg (.Call (.Name "range" p) [a] [] pos) (iRng1 (tCons ta tNil)) (iRg (mRg1 ma)) :=
  ⟨pi_range1 hg hm (pa_cons ha.pe pa_nil hs) hs, fun s Q st q => by
  refine ha.sp.run st (Tr.refl s) (wpM_bnd.mp (wpM_bnd.mp q)) fun o s1 st1 t1 es p v r => ?_
  split at p
  · rename_i i e1
    have p' : wpM (if rgOk2 0 i = true then some (.ok (rgD 0 i) s1.w) else none) _ _ := p
    split at p'
    · rename_i h
      have h' := of_decide_eq_true h
      refine ⟨i, by rw [(get_ok st1 r e1).int], by omega, by omega, ?_⟩
      have w := walk_rg (B := B) (s0 := s1) 0 i
      rw [Int.sub_zero] at w
      exact p' s1 st1 t1 rfl es _ w
    · exact p'.elim
  · exact p.elim⟩
theorem gi_range2 {tg : Expr} {p : Pos} {ma mb : M Op} (ha : GP B W X a ta ma) (hb : GP B W X b tb mb) (hg : Gl X "range") (hm : X.mg "range" = none) (hs : starEach [a, b] X.env = [(false, eval a X.env), (false, eval b X.env)] := by rfl) (hs2 : starEach [b] X.env = [(false, eval b X.env)] := by rfl) :
    GI B W X tg (.Call (.Name "range" p) [a, b] [] pos) (iRng2 (tCons ta (tCons tb tNil))) (iRg (mRg2 ma mb)) :=
  ⟨pi_range2 hg hm (pa_cons ha.pe (pa_cons hb.pe pa_nil hs2) (by rw [hs, hs2])) hs hs2, fun s Q st q => by
  refine ha.sp.run st (Tr.refl s) (wpM_bnd.mp (wpM_bnd.mp q)) fun o s1 st1 t1 es p v r => ?_
  rw [← es]
  refine hb.sp.run st1 t1 (wpM_bnd.mp p) fun o2 s2 st2 t2 es2 p2 u r2 => ?_
  split at p2
  · rename_i i j e1 e2
    have p' : wpM (if rgOk2 i j = true then some (.ok (rgD i j) s2.w) else none) _ _ := p2
    split at p'
    · rename_i h
      have h' := of_decide_eq_true h
      refine ⟨i, j, by rw [(get_ok st2 (r.tr t2 es2) e1).int, (get_ok st2 r2 e2).int], ⟨by omega, by omega, by omega, by omega⟩, ?_⟩
      exact p' s2 st2 (t1.trans t2) rfl (es2.trans es) _ (walk_rg i j)
    · exact p'.elim
  · exact p2.elim⟩
def forD (f : D → M Fl) : List D → M Fl
  | [] => mpure .nx
  | d :: ds => fun w => match f d w with
    | none => none
    | some (.ex x w') => some (.ex x w')
    | some (.ok .nx w') => forD f ds w'
    | some (.ok .cnt w') => forD f ds w'
    | some (.ok .brk w') => some (.ok .nx w')
    | some (.ok (.ret r) w') => some (.ok (.ret r) w')
def mFor (mi : M (List D)) (mg : D → M Unit) (mb : M Fl) : M Fl := bnd mi fun ds => forD (fun d => bnd (mg d) fun _ => mb) ds
theorem drop_get {α : Type} {l : List α} {i : Nat} (h : i < l.length) : l.drop i = l[i] :: l.drop (i + 1) := List.drop_eq_getElem_cons h
theorem gs_for {tg iter : Expr} {wi : TI} {mi : M (List D)} {mg : D → M Unit} {mb : M Fl} (hi : GI B W X tg iter wi mi) (hg : GG B W X tg g vs mg) (hb : GSs B W X sts t mb) (hp : PassesOwn (model X.prog X.w) X.A X.env X.xe) (hc : X.calm = true)
    (hs : ∀ x, foldedSetIterable iter X.env x = pure x := by intro _; rfl) : GS B W X (.For tg iter sts [] pos) (tFor wi g t) (mFor mi mg mb) := ⟨ps_for hp hc hi.pi hg.pg hb.ps hs, fun s Dn st q => by
  refine hi.sp.run st (Tr.refl s) (wpM_bnd.mp q) fun ds s1 st1 t1 es p J wk => ?_
  refine ⟨fun i k σ H => k = ds.length - i ∧ i ≤ ds.length ∧ ∃ s', Sta B s' ∧ Tr s1 s' ∧ s'.σ = σ ∧ s'.H = H ∧ wpM (forD (fun d => bnd (mg d) fun _ => mb) (ds.drop i) s'.w) (FlP B s Dn) (XP B W s),
    ⟨ds.length, by omega, Nat.zero_le _, s1, st1, Tr.refl s1, es, rfl, p⟩, ?_⟩
  rintro i k σ H ⟨rfl, hle, s2, st2, t2, rfl, rfl, p2⟩
  obtain ⟨w1, w2⟩ := wk s2 i st2 t2
  by_cases hlt : i < ds.length
  · rw [drop_get hlt] at p2
    obtain ⟨go, yl⟩ := w1 ds[i] (List.getElem?_eq_getElem hlt)
    refine .inr ⟨go, fun σ' H' => ∃ s', Sta B s' ∧ Tr s1 s' ∧ s'.σ = σ' ∧ s'.H = H' ∧ wpM (forD (fun d => bnd (mg d) fun _ => mb) (ds.drop (i + 1)) s'.w) (FlP B s Dn) (XP B W s),
      fun σ' H' n => ⟨ds.length - (i + 1), by omega, rfl, hlt, n⟩, fun x H' hy => ?_⟩
    obtain ⟨s3, st3, t3, ew3, es3, rfl, r3⟩ := yl x H' hy
    rw [← es3]
    rw [← ew3] at p2
    have tt := (t1.trans t2).trans t3
    have p3 : wpM (match bnd (mg ds[i]) (fun _ => mb) s3.w with
      | none => none
      | some (.ex x w') => some (.ex x w')
      | some (.ok .nx w') => forD (fun d => bnd (mg d) fun _ => mb) (ds.drop (i + 1)) w'
      | some (.ok .cnt w') => forD (fun d => bnd (mg d) fun _ => mb) (ds.drop (i + 1)) w'
      | some (.ok .brk w') => some (.ok .nx w')
      | some (.ok (.ret r) w') => some (.ok (.ret r) w')) (FlP B s Dn) (XP B W s) := p2
    have p4 : wpM (bnd (mg ds[i]) (fun _ => mb) s3.w) (fun fl w' => match fl with
      | .nx => wpM (forD (fun d => bnd (mg d) fun _ => mb) (ds.drop (i + 1)) w') (FlP B s Dn) (XP B W s)
      | .cnt => wpM (forD (fun d => bnd (mg d) fun _ => mb) (ds.drop (i + 1)) w') (FlP B s Dn) (XP B W s)
      | .brk => FlP B s Dn .nx w'
      | .ret r => FlP B s Dn (.ret r) w') (XP B W s) := by
      cases h : bnd (mg ds[i]) (fun _ => mb) s3.w with
      | none => rw [h] at p3; exact p3
      | some z => cases z with
        | ex x w' => rw [h] at p3; exact p3
        | ok fl w' =>
          rw [h] at p3
          cases fl <;> exact p3
    refine hg.sp s3 x ds[i] _ st3 r3 (wpM_mono (wpM_bnd.mp p4) (fun _ w4 p5 s4 st4 t4 ew4 _ => ?_) fun _ _ q => q.tr tt)
    rw [← ew4] at p5
    refine hb.sp.run st4 (tt.trans t4) p5 fun fl w5 p6 => ?_
    cases fl with
    | nx => exact fun s5 st5 t5 ew5 => ⟨s5, st5, ((t2.trans t3).trans t4).trans t5, rfl, rfl, by rw [ew5]; exact p6⟩
    | cnt => exact fun s5 st5 t5 ew5 => ⟨s5, st5, ((t2.trans t3).trans t4).trans t5, rfl, rfl, by rw [ew5]; exact p6⟩
    | brk => exact fun s5 st5 t5 ew5 => p6 s5 st5 ((tt.trans t4).trans t5) ew5
    | ret d => exact fun s5 st5 t5 ew5 => p6 s5 st5 ((tt.trans t4).trans t5) ew5
  · have e : i = ds.length := by omega
    subst e
    rw [List.drop_length] at p2
    exact .inl ⟨w2 rfl, p2 s2 st2 (t1.trans t2) rfl⟩⟩
def whD (mc : M Bool) (mb : M Fl) : Nat → M Fl
  | 0 => fun _ => none
  | n + 1 => fun w => match mc w with
    | none => none
    | some (.ex x w') => some (.ex x w')
    | some (.ok false w') => some (.ok .nx w')
    | some (.ok true w1) => (match mb w1 with
      | none => none
      | some (.ex x w') => some (.ex x w')
      | some (.ok .nx w') => whD mc mb n w'
      | some (.ok .cnt w') => whD mc mb n w'
      | some (.ok .brk w') => some (.ok .nx w')
      | some (.ok (.ret r) w') => some (.ok (.ret r) w'))
theorem gs_while {c : Expr} {tc : TT} {mc : M Bool} {mb : M Fl} (fuel : Nat) (hc : GT B W X c tc mc) (hb : GSs B W X sts t mb) (hp : PassesOwn (model X.prog X.w) X.A X.env X.xe) : GS B W X (.While c sts [] pos) (tWhile tc t) (whD mc mb fuel) := ⟨ps_while hp hc.pt hb.ps, fun s Dn st q => by
  refine ⟨fun k σ H => ∃ s', Sta B s' ∧ Tr s s' ∧ s'.σ = σ ∧ s'.H = H ∧ wpM (whD mc mb k s'.w) (FlP B s Dn) (XP B W s), ⟨fuel, s, st, Tr.refl s, rfl, rfl, q⟩, ?_⟩
  rintro k σ H ⟨s1, st1, t1, rfl, rfl, p⟩
  cases k with
  | zero => exact p.elim
  | succ k =>
    have p1 : wpM (mc s1.w) (fun b w1 => match b with
      | false => FlP B s Dn .nx w1
      | true => wpM (mb w1) (fun fl w' => match fl with
        | .nx => wpM (whD mc mb k w') (FlP B s Dn) (XP B W s)
        | .cnt => wpM (whD mc mb k w') (FlP B s Dn) (XP B W s)
        | .brk => FlP B s Dn .nx w'
        | .ret r => FlP B s Dn (.ret r) w') (XP B W s)) (XP B W s) := by
      have p' : wpM (match mc s1.w with
        | none => none
        | some (.ex x w') => some (.ex x w')
        | some (.ok false w') => some (.ok .nx w')
        | some (.ok true w1) => (match mb w1 with
          | none => none
          | some (.ex x w') => some (.ex x w')
          | some (.ok .nx w') => whD mc mb k w'
          | some (.ok .cnt w') => whD mc mb k w'
          | some (.ok .brk w') => some (.ok .nx w')
          | some (.ok (.ret r) w') => some (.ok (.ret r) w'))) (FlP B s Dn) (XP B W s) := p
      cases h : mc s1.w with
      | none => rw [h] at p'; exact p'
      | some z => cases z with
        | ex x w' => rw [h] at p'; exact p'
        | ok b w1 =>
          rw [h] at p'
          cases b with
          | false => exact p'
          | true =>
            show wpM (mb w1) _ _
            have p'' : wpM (match mb w1 with
              | none => none
              | some (.ex x w') => some (.ex x w')
              | some (.ok .nx w') => whD mc mb k w'
              | some (.ok .cnt w') => whD mc mb k w'
              | some (.ok .brk w') => some (.ok .nx w')
              | some (.ok (.ret r) w') => some (.ok (.ret r) w')) (FlP B s Dn) (XP B W s) := p'
            cases h2 : mb w1 with
            | none => rw [h2] at p''; exact p''
            | some z => cases z with
              | ex x w' => rw [h2] at p''; exact p''
              | ok fl w' =>
                rw [h2] at p''
                cases fl <;> exact p''
    refine hc.sp.run st1 t1 p1 fun b s2 st2 t2 es2 p2 b' r => ?_
    rw [show b' = b from r]
    cases b with
    | false =>
      rw [if_neg Bool.false_ne_true, ← es2]
      exact p2 s2 st2 (t1.trans t2) rfl
    | true =>
      rw [if_pos rfl]
      refine ⟨fun σ' H' => ∃ s', Sta B s' ∧ Tr s s' ∧ s'.σ = σ' ∧ s'.H = H' ∧ wpM (whD mc mb k s'.w) (FlP B s Dn) (XP B W s), fun σ' H' n => ⟨k, Nat.lt_succ_self k, n⟩, ?_⟩
      rw [← es2]
      refine hb.sp.run st2 (t1.trans t2) p2 fun fl w5 p6 => ?_
      cases fl with
      | nx => exact fun s5 st5 t5 ew5 => ⟨s5, st5, (t1.trans t2).trans t5, rfl, rfl, by rw [ew5]; exact p6⟩
      | cnt => exact fun s5 st5 t5 ew5 => ⟨s5, st5, (t1.trans t2).trans t5, rfl, rfl, by rw [ew5]; exact p6⟩
      | brk => exact fun s5 st5 t5 ew5 => p6 s5 st5 ((t1.trans t2).trans t5) ew5
      | ret d => exact fun s5 st5 t5 ew5 => p6 s5 st5 ((t1.trans t2).trans t5) ew5⟩
end
end PD

set_option maxHeartbeats 1000000
namespace PD
open PySem PySem.Spec PyProof.Rows L2
/-! ### list comprehensions -/
section
variable {B : Hp} {W : WX} {X : Cx} {a b e : Expr} {ta tb te : TE} {pos : Pos} {s s0 s1 : CS} {g : TG} {vs : List Nat}
def wipeE (env : List SV) : List Nat → List SV
  | [] => env
  | v :: vs => (wipeE env vs).set v .un
theorem wipeE_length (env : List SV) : ∀ vs : List Nat, (wipeE env vs).length = env.length
  | [] => rfl
  | v :: vs => by unfold wipeE; rw [List.length_set, wipeE_length env vs]
theorem wipeE_get (env : List SV) (j : Nat) : ∀ vs : List Nat, (wipeE env vs)[j]? = if j ∈ vs then (env[j]?).map (fun _ => SV.un) else env[j]?
  | [] => by simp [wipeE]
  | v :: vs => by
    have ih := wipeE_get env j vs
    show ((wipeE env vs).set v .un)[j]? = _
    rw [List.getElem?_set, wipeE_length]
    by_cases h : v = j
    · subst h
      rw [if_pos rfl, if_pos List.mem_cons_self]
      by_cases hl : v < env.length
      · rw [if_pos hl, List.getElem?_eq_getElem hl]; rfl
      · rw [if_neg hl, List.getElem?_eq_none (by omega)]; rfl
    · rw [if_neg h, ih]
      by_cases hm : j ∈ vs
      · rw [if_pos hm, if_pos (List.mem_cons_of_mem _ hm)]
      · rw [if_neg hm, if_neg (fun z => (List.mem_cons.mp z).elim (fun q => h q.symm) hm)]
/-- the slots vs as they stood -/
def backE (env0 env : List SV) : List Nat → List SV
  | [] => env
  | v :: vs => (backE env0 env vs).set v (env0.getD v .un)
theorem backE_length (env0 env : List SV) : ∀ vs : List Nat, (backE env0 env vs).length = env.length
  | [] => rfl
  | v :: vs => by unfold backE; rw [List.length_set, backE_length env0 env vs]
theorem backE_get (env0 env : List SV) (hl : env.length = env0.length) (j : Nat) : ∀ vs : List Nat, (backE env0 env vs)[j]? = if j ∈ vs then env0[j]? else env[j]?
  | [] => by simp [backE]
  | v :: vs => by
    have ih := backE_get env0 env hl j vs
    show ((backE env0 env vs).set v (env0.getD v .un))[j]? = _
    rw [List.getElem?_set, backE_length]
    by_cases h : v = j
    · subst h
      rw [if_pos rfl, if_pos List.mem_cons_self]
      by_cases hv : v < env.length
      · rw [if_pos hv, List.getD_eq_getElem?_getD, List.getElem?_eq_getElem (by omega)]; rfl
      · rw [if_neg hv, List.getElem?_eq_none (by omega)]
    · rw [if_neg h, ih]
      by_cases hm : j ∈ vs
      · rw [if_pos hm, if_pos (List.mem_cons_of_mem _ hm)]
      · rw [if_neg hm, if_neg (fun z => (List.mem_cons.mp z).elim (fun q => h q.symm) hm)]
theorem wipeE_some {env : List SV} {j : Nat} {x : SV} (h : (wipeE env vs)[j]? = some x) (hx : x ≠ .un) : env[j]? = some x ∧ j ∉ vs := by
  rw [wipeE_get] at h
  by_cases hm : j ∈ vs
  · rw [if_pos hm] at h
    cases q : env[j]? with
    | none => rw [q] at h; cases h
    | some y => rw [q] at h; cases h; exact (hx rfl).elim
  · rw [if_neg hm] at h
    exact ⟨h, hm⟩
theorem wipe_at {σ : L2.St} {j : Nat} (h : j ∉ vs) : (wipe σ vs)[j]? = σ[j]? := by rw [wipe_get, if_neg h]
/-- the block's start -/
theorem Sta.wipe (st : Sta B s) : Sta B { s with w := ⟨wipeE s.w.env vs, s.w.sto⟩, σ := L2.wipe s.σ vs } where
  base := st.base
  reg := st.reg
  len := st.len
  nd := st.nd
  there := st.there
  sto := st.sto
  slen := by show (wipeE s.w.env vs).length = (L2.wipe s.σ vs).length; rw [wipeE_length, wipe_length, st.slen]
  imm := fun j x (h : (wipeE s.w.env vs)[j]? = _) => by
    obtain ⟨h1, h2⟩ := wipeE_some h (fun z => by cases z)
    obtain ⟨v, h3, h4⟩ := st.imm j x h1
    exact ⟨v, by show (L2.wipe s.σ vs)[j]? = _; rw [wipe_at h2]; exact h3, h4⟩
  own := fun j ds (h : (wipeE s.w.env vs)[j]? = _) => by
    obtain ⟨h1, h2⟩ := wipeE_some h (fun z => by cases z)
    obtain ⟨l, h3, h4⟩ := st.own j ds h1
    exact ⟨l, by show (L2.wipe s.σ vs)[j]? = _; rw [wipe_at h2]; exact h3, h4⟩
  dis := fun i j ds es l (h1 : (wipeE s.w.env vs)[i]? = _) (h2 : (wipeE s.w.env vs)[j]? = _) (h3 : (L2.wipe s.σ vs)[i]? = _) (h4 : (L2.wipe s.σ vs)[j]? = _) => by
    obtain ⟨a1, a2⟩ := wipeE_some h1 (fun z => by cases z)
    obtain ⟨b1, b2⟩ := wipeE_some h2 (fun z => by cases z)
    rw [wipe_at a2] at h3
    rw [wipe_at b2] at h4
    exact st.dis i j ds es l a1 b1 h3 h4
theorem Ow.wipe {c : Addr} (h : Ow { s with w := ⟨wipeE s.w.env vs, s.w.sto⟩, σ := L2.wipe s.σ vs } c) : ∃ j ds, s.w.env[j]? = some (.own ds) ∧ s.σ[j]? = some (some (.ref c)) ∧ j ∉ vs := by
  obtain ⟨j, ds, (h1 : (wipeE s.w.env vs)[j]? = _), (h2 : (L2.wipe s.σ vs)[j]? = _)⟩ := h
  obtain ⟨a1, a2⟩ := wipeE_some h1 (fun z => by cases z)
  rw [wipe_at a2] at h2
  exact ⟨j, ds, a1, h2, a2⟩
theorem Tr.wipe (t : Tr s0 s) : Tr s0 { s with w := ⟨wipeE s.w.env vs, s.w.sto⟩, σ := L2.wipe s.σ vs } :=
  ⟨t.reg, t.pre, t.frame, t.rfr, t.afr, fun a h => by
    obtain ⟨j, ds, h1, h2, _⟩ := h.wipe
    exact t.ofr a ⟨j, ds, h1, h2⟩, t.dom⟩
/-- an object that no slot, no region, no store knows is changed -/
theorem Sta.hidUpd {l : Addr} {o : HO} (st : Sta B s) (hR : s.R l = none) (ha : l ∉ s.as) (ho : ¬ Ow s l) : Sta B { s with H := upd s.H l o } where
  base := st.base
  reg := fun b u e => by
    show upd s.H l o b = some u
    rw [upd_ne (fun z => by rw [z, hR] at e; cases e)]
    exact st.reg b u e
  len := st.len
  nd := st.nd
  there := fun a m => by
    show upd s.H l o a ≠ none
    rw [upd_ne (fun z => ha (by rw [← z]; exact m))]
    exact st.there a m
  sto := fun k a x (e1 : s.as[k]? = some a) e2 => (st.sto k a x e1 e2).mono (Same.refl _) (Pre.refl _) id (upd_ne fun z => ha (by rw [← z]; exact List.mem_of_getElem? e1))
  slen := st.slen
  imm := st.imm
  own := fun i ds e => by
    obtain ⟨m, h1, h2⟩ := st.own i ds e
    exact ⟨m, h1, h2.mono (Same.refl _) (Pre.refl _) h2.1 h2.2.1 (upd_ne fun z => ho ⟨i, ds, e, by rw [← z]; exact h1⟩)⟩
  dis := st.dis
theorem Tr.hidUpd {l : Addr} {o : HO} (t : Tr s0 s) (h0 : s0.H l = none) : Tr s0 { s with H := upd s.H l o } :=
  ⟨t.reg, t.pre, fun a u e n1 n2 => by
    show upd s.H l o a = some u
    rw [upd_ne (fun z => by rw [z, h0] at e; cases e)]
    exact t.frame a u e n1 n2, t.rfr, t.afr, t.ofr, fun a (n : upd s.H l o a = none) => by
    by_cases q : a = l
    · rw [q]; exact h0
    · rw [upd_ne q] at n
      exact t.dom a n⟩
/-- a clause's tests -/
structure GTs (B : Hp) (W : WX) (X : Cx) (es : List Expr) (t : TT) (m : M Bool) : Prop where
  pt : PTs X es t
  sp : Sp1 B W relB t m
theorem gts_nil : GTs B W X [] tYes (mpure true) := ⟨pts_nil, fun s Q st q => q s st (Tr.refl s) rfl rfl true rfl⟩
theorem gts_one {c : Expr} {t : TT} {m : M Bool} (h : GT B W X c t m) : GTs B W X [c] t m := ⟨pts_one h.pt, h.sp⟩
/-- the turns: what is made so far -/
def wipeW (vs : List Nat) (w : Wd) : Wd := ⟨wipeE w.env vs, w.sto⟩
def lcD (vs : List Nat) (f : D → M Bool) (me : M D) : List D → List D → M (List D)
  | [], acc => mpure acc
  | d :: ds, acc => fun w => bnd (f d) (fun b => if b = true then bnd me fun y w => if acc.length < 16777216 then lcD vs f me ds (acc ++ [y]) w else none else lcD vs f me ds acc) (wipeW vs w)
def mLc (vs : List Nat) (mi : M (List D)) (mg : D → M Unit) (mt : M Bool) (me : M D) : M RV := bnd mi fun ds w => match lcD vs (fun d => bnd (mg d) fun _ => mt) me ds [] w with
  | some (.ok acc w2) => some (.ok (.l acc) ⟨backE w.env w2.env vs, w2.sto⟩)
  | _ => none
abbrev W0 : WX := fun _ _ _ _ => False
theorem XP0 {x : Xc} {w' : Wd} (h : XP B W0 s x w') : XP B W s x w' := fun s' a b c dx fs d e => (h s' a b c dx fs d e).elim
/-- the end of a block: its slots as they stood -/
theorem Sta.back {s2 : CS} (st0 : Sta B s) (st : Sta B s2) (t : Tr { s with w := ⟨wipeE s.w.env vs, s.w.sto⟩, σ := L2.wipe s.σ vs } s2) (hw : L2.wipe s2.σ vs = L2.wipe s.σ vs) :
    Sta B { s2 with w := ⟨backE s.w.env s2.w.env vs, s2.w.sto⟩, σ := s.σ } ∧ ∀ s0, Tr s0 s → (Tr s0 s2) → Tr s0 { s2 with w := ⟨backE s.w.env s2.w.env vs, s2.w.sto⟩, σ := s.σ } := by
  have hls : s2.σ.length = s.σ.length := by rw [← wipe_length s2.σ vs, hw, wipe_length]
  have hl : s2.w.env.length = s.w.env.length := by rw [st.slen, hls, st0.slen]
  have hg := fun j => backE_get s.w.env s2.w.env hl j vs
  have hσ : ∀ j, j ∉ vs → s2.σ[j]? = s.σ[j]? := fun j hj => by rw [← wipe_at hj, hw, wipe_at hj]
  have hid : ∀ (j : Nat) (ds : List D), j ∈ vs → s.w.env[j]? = some (.own ds) → ∃ l us, s.σ[j]? = some (some (.ref l)) ∧ OwnAt s.R s.as s.H l ds ∧ s2.H l = some (.lst us) ∧ s.H l = some (.lst us) ∧ l ∉ s2.as ∧ ¬ Ow s2 l ∧ s2.R l = none := fun j ds hj e => by
    obtain ⟨l, h1, h2⟩ := st0.own j ds e
    obtain ⟨hR, ha, us, hH, r⟩ := id h2
    obtain ⟨q1, q2, q3, q4⟩ := t.hid (l := l) hH ha (fun o => by
      obtain ⟨k, es, k1, k2, k3⟩ := o.wipe
      exact k3 (by rw [← st0.dis j k ds es l e k1 h1 k2]; exact hj))
    exact ⟨l, us, h1, h2, q1, hH, q2, q3, q4 hR⟩
  refine ⟨⟨st.base, st.reg, st.len, st.nd, st.there, st.sto, ?_, fun j x e => ?_, fun j ds e => ?_, fun j k ds es l e1 e2 e3 e4 => ?_⟩, fun s0 t0 t2 => ⟨t2.reg, t2.pre, t2.frame, t2.rfr, t2.afr, fun a o => ?_, t2.dom⟩⟩
  · show (backE s.w.env s2.w.env vs).length = s.σ.length
    rw [backE_length, st.slen, hls]
  · have e' : (backE s.w.env s2.w.env vs)[j]? = some (.d x) := e
    rw [hg] at e'
    by_cases hj : j ∈ vs
    · rw [if_pos hj] at e'
      obtain ⟨v, h1, h2⟩ := st0.imm j x e'
      exact ⟨v, h1, h2.mono t.reg t.pre⟩
    · rw [if_neg hj] at e'
      obtain ⟨v, h1, h2⟩ := st.imm j x e'
      exact ⟨v, (hσ j hj).symm.trans h1, h2⟩
  · have e' : (backE s.w.env s2.w.env vs)[j]? = some (.own ds) := e
    rw [hg] at e'
    by_cases hj : j ∈ vs
    · rw [if_pos hj] at e'
      obtain ⟨l, us, h1, h2, h3, h4, h5, h6, h7⟩ := hid j ds hj e'
      exact ⟨l, h1, h2.mono t.reg t.pre h7 h5 (h3.trans h4.symm)⟩
    · rw [if_neg hj] at e'
      obtain ⟨l, h1, h2⟩ := st.own j ds e'
      exact ⟨l, (hσ j hj).symm.trans h1, h2⟩
  · have e1' : (backE s.w.env s2.w.env vs)[j]? = some (.own ds) := e1
    have e2' : (backE s.w.env s2.w.env vs)[k]? = some (.own es) := e2
    have e3' : s.σ[j]? = some (some (.ref l)) := e3
    have e4' : s.σ[k]? = some (some (.ref l)) := e4
    rw [hg] at e1' e2'
    by_cases hj : j ∈ vs
    · rw [if_pos hj] at e1'
      by_cases hk : k ∈ vs
      · rw [if_pos hk] at e2'
        exact st0.dis j k ds es l e1' e2' e3' e4'
      · rw [if_neg hk] at e2'
        obtain ⟨l', us, h1, h2, h3, h4, h5, h6, h7⟩ := hid j ds hj e1'
        rw [e3'] at h1
        cases h1
        exact (h6 ⟨k, es, e2', by rw [hσ k hk]; exact e4'⟩).elim
    · rw [if_neg hj] at e1'
      by_cases hk : k ∈ vs
      · rw [if_pos hk] at e2'
        obtain ⟨l', us, h1, h2, h3, h4, h5, h6, h7⟩ := hid k es hk e2'
        rw [e4'] at h1
        cases h1
        exact (h6 ⟨j, ds, e1', by rw [hσ j hj]; exact e3'⟩).elim
      · rw [if_neg hk] at e2'
        exact st.dis j k ds es l e1' e2' (by rw [hσ j hj]; exact e3') (by rw [hσ k hk]; exact e4')
  · obtain ⟨j, ds, e1, e2⟩ := o
    have e1' : (backE s.w.env s2.w.env vs)[j]? = some (.own ds) := e1
    have e2' : s.σ[j]? = some (some (.ref a)) := e2
    rw [hg] at e1'
    by_cases hj : j ∈ vs
    · rw [if_pos hj] at e1'
      exact t0.ofr a ⟨j, ds, e1', e2'⟩
    · rw [if_neg hj] at e1'
      exact t2.ofr a ⟨j, ds, e1', by rw [hσ j hj]; exact e2'⟩
theorem Tr.ofWipe {s2 : CS} (t : Tr { s with w := ⟨wipeE s.w.env vs, s.w.sto⟩, σ := L2.wipe s.σ vs } s2) : Tr s s2 := (Tr.wipe (Tr.refl s)).trans t
theorem wpM_of {α : Type} {r : Option (Res α)} {a : α} {w : Wd} (h : r = some (.ok a w)) {Q : α → Wd → Prop} {E : Xc → Wd → Prop} (q : Q a w) : wpM r Q E := by rw [h]; exact q
theorem bnd_ok {α β : Type} {m : M α} {f : α → M β} {w : Wd} {b : β} {w2 : Wd} (h : bnd m f w = some (.ok b w2)) : ∃ a w1, m w = some (.ok a w1) ∧ f a w1 = some (.ok b w2) := by
  unfold bnd at h
  split at h
  · cases h
  · cases h
  · rename_i a w' e
    exact ⟨a, w', e, h⟩
theorem sp_lc {wi : TI} {mi : M (List D)} {tt : TT} {mg : D → M Unit} {mt : M Bool} {me : M D} (hi : Sp1 B W (fun _ s' (J : It) (ds : List D) => WalkD B s' J ds) wi mi) (hg : SpG B W0 vs g mg) (ht : Sp1 B W0 relB tt mt) (he : Sp1 B W0 relE te me) :
    Sp1 B W relF (tLc wi g tt te vs) (mLc vs mi mg mt me) := fun s Q st q => by
  refine hi.run st (Tr.refl s) (wpM_bnd.mp q) fun ds s1 st1 t1 es p J wk => ?_
  intro D hD
  rw [← es]
  have hD0 : s.H D = none := t1.dom D hD
  cases hr : lcD vs (fun d => bnd (mg d) fun _ => mt) me ds [] s1.w with
  | none => rw [hr] at p; exact p.elim
  | some z => cases z with
    | ex x w' => rw [hr] at p; exact p.elim
    | ok acc0 wf =>
      rw [hr] at p
      refine ⟨fun i k H => k = ds.length - i ∧ i ≤ ds.length ∧ ∃ s' acc us w, Sta B s' ∧ Tr { s1 with w := ⟨wipeE s1.w.env vs, s1.w.sto⟩, σ := L2.wipe s1.σ vs } s' ∧ s'.σ = L2.wipe s1.σ vs ∧ s'.H = H ∧ s'.w = wipeW vs w ∧ s'.H D = some (.lst us) ∧ RDs s'.R s'.as us acc ∧ s'.R D = none ∧ D ∉ s'.as ∧ ¬ Ow s' D ∧
        lcD vs (fun d => bnd (mg d) fun _ => mt) me (ds.drop i) acc w = some (.ok acc0 wf), ⟨ds.length, by omega, Nat.zero_le _, { s1 with w := ⟨wipeE s1.w.env vs, s1.w.sto⟩, σ := L2.wipe s1.σ vs, H := upd s1.H D (.lst []) }, [], [], s1.w, ?_, ?_, rfl, rfl, rfl, upd_same, .nil, st1.freshR hD, st1.freshA hD, st1.wipe.freshO hD, hr⟩, ?_⟩
      · exact st1.wipe.addH hD
      · exact (Tr.refl _).addH (s := { s1 with w := ⟨wipeE s1.w.env vs, s1.w.sto⟩, σ := L2.wipe s1.σ vs }) hD
      · rintro i k H ⟨rfl, hle, s2, acc, us, w, st2, t2, e2, rfl, ew2, hH, hr2, nR, nA, nO, h2⟩
        obtain ⟨w1, w2⟩ := wk s2 i st2 t2.ofWipe
        by_cases hlt : i < ds.length
        · rw [drop_get hlt] at h2
          obtain ⟨go, yl⟩ := w1 ds[i] (List.getElem?_eq_getElem hlt)
          refine .inr ⟨go, fun H' => ∃ s' acc us w, Sta B s' ∧ Tr { s1 with w := ⟨wipeE s1.w.env vs, s1.w.sto⟩, σ := L2.wipe s1.σ vs } s' ∧ s'.σ = L2.wipe s1.σ vs ∧ s'.H = H' ∧ s'.w = wipeW vs w ∧ s'.H D = some (.lst us) ∧ RDs s'.R s'.as us acc ∧ s'.R D = none ∧ D ∉ s'.as ∧ ¬ Ow s' D ∧
            lcD vs (fun d => bnd (mg d) fun _ => mt) me (ds.drop (i + 1)) acc w = some (.ok acc0 wf), fun H' n => ⟨ds.length - (i + 1), by omega, rfl, hlt, n⟩, fun x H' hy => ?_⟩
          obtain ⟨s3, st3, t3, ew3, es3, rfl, r3⟩ := yl x H' hy
          have h3 : bnd (fun w => bnd (mg ds[i]) (fun _ => mt) w) (fun b => if b = true then bnd me fun y w => if acc.length < 16777216 then lcD vs (fun d => bnd (mg d) fun _ => mt) me (ds.drop (i + 1)) (acc ++ [y]) w else none else lcD vs (fun d => bnd (mg d) fun _ => mt) me (ds.drop (i + 1)) acc) s3.w = some (.ok acc0 wf) := by
            rw [ew3, ew2]
            exact h2
          obtain ⟨b, wb, hb1, hb2⟩ := bnd_ok h3
          obtain ⟨_, wa, ha1, ha2⟩ := bnd_ok hb1
          have eσ3 : s3.σ = L2.wipe s1.σ vs := es3.trans e2
          conv => arg 2; rw [← eσ3]
          refine hg s3 x ds[i] _ st3 r3 (wpM_of ha1 fun s4 st4 t4 ew4 e4 => ?_)
          refine ⟨by rw [e4, es3, e2, wipe_wipe], ?_⟩
          rw [← ew4] at ha2
          refine ht.run st4 (Tr.refl s4) (P := fun c w' => c = b ∧ w' = wb) (wpM_of ha2 ⟨rfl, rfl⟩) fun c s5 st5 t5 e5 pc c' rc => ?_
          obtain ⟨rfl, ew5⟩ := pc
          rw [show c' = c from rc]
          have tt5 : Tr s2 s5 := (t3.trans t4).trans t5
          have σ5 : L2.wipe s5.σ vs = L2.wipe s1.σ vs := by rw [e5, e4, es3, e2, wipe_wipe]
          cases c with
          | false =>
            rw [if_neg Bool.false_ne_true] at hb2 ⊢
            obtain ⟨q1, q2, q3, q4⟩ := tt5.hid hH nA nO
            refine ⟨{ s5 with w := ⟨wipeE s5.w.env vs, s5.w.sto⟩, σ := L2.wipe s5.σ vs }, acc, us, wb, st5.wipe, (t2.trans tt5).wipe, σ5, rfl, by rw [← ew5]; rfl, q1, hr2.mono tt5.reg tt5.pre, q4 nR, q2, fun o => q3 ?_, hb2⟩
            obtain ⟨j, ds, k1, k2, _⟩ := o.wipe
            exact ⟨j, ds, k1, k2⟩
          | true =>
            rw [if_pos rfl] at hb2 ⊢
            obtain ⟨y, wy, hy1, hy2⟩ := bnd_ok hb2
            rw [← ew5] at hy1
            rw [← e5]
            refine he.run st5 (Tr.refl s5) (P := fun c w' => c = y ∧ w' = wy) (wpM_of hy1 ⟨rfl, rfl⟩) fun c s6 st6 t6 e6 pc y' ry => ?_
            obtain ⟨rfl, ew6⟩ := pc
            have tt6 : Tr s2 s6 := tt5.trans t6
            obtain ⟨q1, q2, q3, q4⟩ := tt6.hid hH nA nO
            split at hy2
            · rename_i hl
              have r6 := hr2.mono tt6.reg tt6.pre
              refine ⟨us, q1, by rw [r6.length, sizeLine_eq]; exact hl, ?_⟩
              refine ⟨{ s6 with w := ⟨wipeE s6.w.env vs, s6.w.sto⟩, σ := L2.wipe s6.σ vs, H := upd s6.H D (.lst (us ++ [y'])) }, acc ++ [c], us ++ [y'], wy, ?_, ?_, by show L2.wipe s6.σ vs = _; rw [e6]; exact σ5, rfl, by rw [← ew6]; rfl, upd_same, r6.app (.one ry), q4 nR, q2, fun o => q3 ?_, hy2⟩
              · exact st6.wipe.hidUpd (q4 nR) q2 fun o => q3 (by
                  obtain ⟨j, ds, k1, k2, _⟩ := o.wipe
                  exact ⟨j, ds, k1, k2⟩)
              · exact ((t2.trans tt6).wipe (vs := vs)).hidUpd hD
              · obtain ⟨j, ds, k1, k2, _⟩ := Ow.wipe (s := s6) o
                exact ⟨j, ds, k1, k2⟩
            · cases hy2
        · have e : i = ds.length := by omega
          subst e
          rw [List.drop_length] at h2
          cases h2
          refine .inl ⟨w2 rfl, ?_⟩
          have hwp : L2.wipe s2.σ vs = L2.wipe s1.σ vs := by rw [e2, wipe_wipe]
          obtain ⟨st3, t3⟩ := Sta.back st1 st2 t2 hwp
          have t4 := t3 s t1 (t1.trans t2.ofWipe)
          have hl : s2.w.env.length = s1.w.env.length := by rw [st2.slen, ← wipe_length s2.σ vs, hwp, wipe_length, st1.slen]
          have ewf : (⟨backE s1.w.env s2.w.env vs, s2.w.sto⟩ : Wd) = ⟨backE s1.w.env wf.env vs, wf.sto⟩ := by
            rw [ew2]
            show (⟨backE s1.w.env (wipeE wf.env vs) vs, wf.sto⟩ : Wd) = _
            rw [ew2] at hl
            have hl' : (wipeE wf.env vs).length = s1.w.env.length := hl
            congr 1
            apply List.ext_getElem?
            intro j
            rw [backE_get _ _ hl', backE_get _ _ (by rw [← hl', wipeE_length]), wipeE_get]
            by_cases hj : j ∈ vs
            · rw [if_pos hj, if_pos hj]
            · rw [if_neg hj, if_neg hj, if_neg hj]
          refine p _ st3 t4 ewf es _ ⟨D, rfl, hD0, fun o => ?_, nR, nA, us, hH, hr2⟩
          obtain ⟨j, es', k1, k2⟩ := o
          have k1' : (backE s1.w.env s2.w.env vs)[j]? = some (.own es') := k1
          have k2' : s1.σ[j]? = some (some (.ref D)) := k2
          rw [backE_get _ _ hl] at k1'
          by_cases hj : j ∈ vs
          · rw [if_pos hj] at k1'
            exact st1.freshO hD ⟨j, es', k1', k2'⟩
          · rw [if_neg hj] at k1'
            exact nO ⟨j, es', k1', by rw [e2, wipe_at hj]; exact k2'⟩
theorem gf_lc {elt tg iter : Expr} {ifs : List Expr} {scope : Scope} {own : List (Str × Nat)} {wi : TI} {tt : TT} {mi : M (List D)} {mg : D → M Unit} {mt : M Bool} {me : M D} (hi : GI B W X tg iter wi mi) (hc : X.calm = true) (hN : X.N.Nodup) (ok : BlkOk X.N X.env.scope scope own)
    (hg : ∀ (s : Shared) (H : Hp) (C : Addr) (cl : List (Str × Addr)) (fp : List Addr), GG B W0 (X.blk s H scope (compEnvC scope cl C X.env) fp) tg g (own.map (·.2)) mg) (ht : ∀ (s : Shared) (H : Hp) (C : Addr) (cl : List (Str × Addr)) (fp : List Addr), GTs B W0 (X.blk s H scope (compEnvC scope cl C X.env) fp) ifs tt mt)
    (he : ∀ (s : Shared) (H : Hp) (C : Addr) (cl : List (Str × Addr)) (fp : List Addr), GE B W0 (X.blk s H scope (compEnvC scope cl C X.env) fp) elt te me) (hs : ∀ x, foldedSetIterable iter X.env x = pure x := by intro _; rfl) :
    GF B W X (.ListComp elt [⟨tg, iter, ifs, 0⟩] scope pos) (tLc wi g tt te (own.map (·.2))) (mLc (own.map (·.2)) mi mg mt me) :=
  ⟨pe_lc hc hN hi.pi ok (fun s H C cl fp => (hg s H C cl fp).pg) (fun s H C cl fp => (ht s H C cl fp).pt) (fun s H C cl fp => (he s H C cl fp).pe) hs, sp_lc hi.sp (hg X.s_0 X.H_0 0 [] []).sp (ht X.s_0 X.H_0 0 [] []).sp (he X.s_0 X.H_0 0 [] []).sp⟩
theorem gs_setLc {i : Nat} {y : Str} {py : Pos} {elt tg iter : Expr} {ifs : List Expr} {scope : Scope} {own : List (Str × Nat)} {spos : Pos} {wi : TI} {tt : TT} {mi : M (List D)} {mg : D → M Unit} {mt : M Bool} {me : M D} (hi : GI B W X tg iter wi mi) (hc : X.calm = true) (hN : X.N.Nodup) (hy : X.N[i]? = some y) (hyl : X.env.scope.names.lookup y = some .local)
    (hsw : swapsWith (.ListComp elt [⟨tg, iter, ifs, 0⟩] scope pos) (some (.Name y py)) spos.line X.env = pure true) (ok : BlkOk X.N X.env.scope scope own)
    (hg : ∀ (s : Shared) (H : Hp) (C : Addr) (cl : List (Str × Addr)) (fp : List Addr), GG B W0 (X.blk s H scope (compEnvC scope cl C X.env) fp) tg g (own.map (·.2)) mg) (ht : ∀ (s : Shared) (H : Hp) (C : Addr) (cl : List (Str × Addr)) (fp : List Addr), GTs B W0 (X.blk s H scope (compEnvC scope cl C X.env) fp) ifs tt mt)
    (he : ∀ (s : Shared) (H : Hp) (C : Addr) (cl : List (Str × Addr)) (fp : List Addr), GE B W0 (X.blk s H scope (compEnvC scope cl C X.env) fp) elt te me) (hs : ∀ x, foldedSetIterable iter X.env x = pure x := by intro _; rfl) :
    GS B W X (.Assign [.Name y py] (.ListComp elt [⟨tg, iter, ifs, 0⟩] scope pos) spos) (tAsg (tLc wi g tt te (own.map (·.2))) (gName i)) (mSet i (mLc (own.map (·.2)) mi mg mt me)) :=
  ⟨ps_setLc hc hN hy hyl hsw hi.pi ok (fun s H C cl fp => (hg s H C cl fp).pg) (fun s H C cl fp => (ht s H C cl fp).pt) (fun s H C cl fp => (he s H C cl fp).pe) hs, sp_set (sp_lc hi.sp (hg X.s_0 X.H_0 0 [] []).sp (ht X.s_0 X.H_0 0 [] []).sp (he X.s_0 X.H_0 0 [] []).sp)⟩
end
end PD

set_option maxHeartbeats 1000000
namespace PD
open PySem PySem.Spec PyProof.Rows L2
/-! ### defs -/
abbrev Fn := List D → M D
/-- a state without slots -/
def bareS (s : CS) : CS := { s with w := ⟨[], s.w.sto⟩, σ := [] }
/-- the slots of s over a later state -/
def overS (s s' : CS) : CS := { s' with w := ⟨s.w.env, s'.w.sto⟩, σ := s.σ }
section
variable {B : Hp} {W : WX} {X : Cx} {e : Expr} {te : TE} {pos : Pos} {s s0 s1 : CS}
theorem Ow.bare {a : Addr} (h : Ow (bareS s) a) : False := by
  obtain ⟨i, ds, h1, _⟩ := h
  have h1' : ([] : List SV)[i]? = some (.own ds) := h1
  simp at h1'
theorem Sta.bare (st : Sta B s) : Sta B (bareS s) where
  base := st.base
  reg := st.reg
  len := st.len
  nd := st.nd
  there := st.there
  sto := st.sto
  slen := rfl
  imm := fun i x (h : ([] : List SV)[i]? = _) => by simp at h
  own := fun i x (h : ([] : List SV)[i]? = _) => by simp at h
  dis := fun i j ds es l (h : ([] : List SV)[i]? = _) => by simp at h
theorem Tr.bare (t : Tr s0 s) : Tr s0 (bareS s) := ⟨t.reg, t.pre, t.frame, t.rfr, t.afr, fun a h => h.bare.elim, t.dom⟩
theorem Sta.over (st : Sta B s) {s' : CS} (st' : Sta B s') (t : Tr (bareS s) s') : Sta B (overS s s') ∧ Tr s (overS s s') := by
  have hid : ∀ l o, s.H l = some o → l ∉ s.as → s'.H l = some o ∧ l ∉ s'.as ∧ ¬ Ow s' l ∧ (s.R l = none → s'.R l = none) := fun l o h1 h2 => t.hid (s := bareS s) h1 h2 fun q => q.bare
  refine ⟨⟨st'.base, st'.reg, st'.len, st'.nd, st'.there, st'.sto, st.slen, fun i x h => ?_, fun i ds h => ?_, st.dis⟩, ⟨t.reg, t.pre, fun a o h1 h2 h3 => t.frame a o h1 h2 fun q => q.bare, fun a n n' => ?_, t.afr, fun a h => .inl h, t.dom⟩⟩
  · obtain ⟨v, h1, h2⟩ := st.imm i x h
    exact ⟨v, h1, h2.mono t.reg t.pre⟩
  · obtain ⟨l, h1, h2⟩ := st.own i ds h
    obtain ⟨hR, ha, vs, hH, r⟩ := id h2
    obtain ⟨q1, q2, _, q4⟩ := hid l _ hH ha
    exact ⟨l, h1, h2.mono t.reg t.pre (q4 hR) q2 (q1.trans hH.symm)⟩
  · rcases t.rfr a n n' with q | q | q
    · exact .inl q
    · exact .inr (.inl q)
    · exact q.bare.elim
def XPf (B : Hp) (E : XK) (s : CS) (x : Xc) (w' : Wd) : Prop := ∀ s', Sta B s' → Tr s s' → s'.w = w' → s'.σ = [] → ∀ dx fs', s'.H dx = some (.xd fs') → RKs s'.R s'.as fs' x.fs → E (.ref x.cls) (some dx) s'.H
/-- what a def promises, by its meaning -/
def spOf (B : Hp) (n : Nat) (m : Fn) : Sp := fun vs H Q E => vs.length = n ∧ ∃ s : CS, s.H = H ∧ s.σ = [] ∧ s.w.env = [] ∧ Sta B s ∧ ∃ ds, RDs s.R s.as vs ds ∧
  wpM (m ds s.w) (fun d w' => ∀ s', Sta B s' → Tr s s' → s'.w = w' → s'.σ = [] → ∀ v, RD s'.R s'.as v d → Q v s'.H) (XPf B E s)
/-- a call's meaning: the callee sees the store alone -/
def callW (n : Nat) (m : Fn) (ds : List D) : M D := fun w => if ds.length = n then (match m ds ⟨[], w.sto⟩ with
  | some (.ok d w') => some (.ok d ⟨w.env, w'.sto⟩)
  | _ => none) else none
def mCall (n : Nat) (m : Fn) (ma : M (List D)) : M D := bnd ma fun ds => callW n m ds
theorem spOf_at {n : Nat} {m : Fn} {vs : List V} {ds : List D} {Q : VK} {E : XK} {t0 : Tr s0 s} (st : Sta B s) (r : RDs s.R s.as vs ds) {P : D → Wd → Prop} {Ex : Xc → Wd → Prop} (h : wpM (callW n m ds s.w) P Ex)
    (hq : ∀ d s', Sta B s' → Tr s s' → s'.σ = s.σ → P d s'.w → ∀ v, RD s'.R s'.as v d → Q v s'.H) : spOf B n m vs s.H Q E := by
  unfold callW at h
  split at h
  · rename_i hl
    split at h
    · rename_i d w' e
      refine ⟨by rw [r.length]; exact hl, bareS s, rfl, rfl, rfl, st.bare, ds, r, ?_⟩
      show wpM (m ds ⟨[], s.w.sto⟩) _ _
      rw [e]
      intro s' st' t' ew es v rv
      obtain ⟨st2, t2⟩ := st.over st' t'
      exact hq d (overS s s') st2 t2 rfl (by show P d ⟨s.w.env, s'.w.sto⟩; rw [ew]; exact h) v rv
    · exact h.elim
  · exact h.elim
theorem sp_callF {t : TA} {n : Nat} {m : Fn} {ma : M (List D)} {E : XK} (ha : Sp1 B W relA t ma) : Sp1 B W relE (tCall (spOf B n m) [] E t) (mCall n m ma) := fun s Q st q => by
  refine ha.run st (Tr.refl s) (wpM_bnd.mp q) fun ds s1 st1 t1 es p vs r => ?_
  rw [List.append_nil]
  exact spOf_at (t0 := t1) st1 r p fun d s2 st2 t2 e2 p2 v rv => p2 s2 st2 (t1.trans t2) rfl (e2.trans es) v rv
theorem ge_call {CX : CXT} {k n : Nat} {f : Addr} {fd : FuncData} {ps : List Str} {m : Fn} {x : Str} {p : Pos} {es : List Expr} {t : TA} {ma : M (List D)} (F : FnOk X.prog X.w X.K X.mg X.base CX0 k f fd ps (spOf B n m)) (hr : Room k X.A) (hg : Gl X x) (hm : X.mg x = some (.ref f)) (hk : PySem.W.keepIn X.K (.ref f) = true) (hb : Binds X.K fd ps [])
    (ha : GA B W X (e :: es) t ma) (hdb : (x == ("__debug__" : Str)) = false := by decide) (he : starEach (e :: es) X.env = (false, eval e X.env) :: starEach es X.env := by rfl) (hpl : (backTo pos (starEach es X.env)).any (·.1) = false := by rfl) :
    GE B W X (.Call (.Name x p) (e :: es) [] pos) (tCall (spOf B n m) [] E0 t) (mCall n m ma) := ⟨pe_call F hr hg hm hk hb .nil pass0 ha.pa hdb he hpl, sp_callF ha.sp⟩
theorem ge_call0 {k n : Nat} {f : Addr} {fd : FuncData} {ps : List Str} {m : Fn} {x : Str} {p : Pos} (F : FnOk X.prog X.w X.K X.mg X.base CX0 k f fd ps (spOf B n m)) (hr : Room k X.A) (hg : Gl X x) (hm : X.mg x = some (.ref f)) (hk : PySem.W.keepIn X.K (.ref f) = true) (hb : Binds X.K fd ps [])
    (hdb : (x == ("__debug__" : Str)) = false := by decide) : GE B W X (.Call (.Name x p) [] [] pos) (tCall (spOf B n m) [] E0 tNil) (mCall n m aNil) := ⟨pe_call0 F hr hg hm hk hb .nil pass0 hdb, sp_callF (ga_nil (X := X)).sp⟩
/-- a call of a local name that holds one of several defs -/
structure HeldF (B : Hp) (P : Program) (w : World) (K : PySem.W.Frag) (mg : Str → Option Value) (base : Heap) (k : Nat) (f : Addr) (n : Nat) (m : Fn) : Prop where
  ex : ∃ (fd : FuncData) (ps : List Str), FnOk P w K mg base CX0 k f fd ps (spOf B n m) ∧ PySem.W.keepIn K (.ref f) = true ∧ Binds K fd ps []
abbrev FTab := Addr → Option (Nat × Fn)
def mCallL (i : Nat) (T : FTab) (ma : M (List D)) : M D := fun w => match w.env[i]? with
  | some (.d (.ref f)) => (match T f with
    | some (n, m) => mCall n m ma w
    | none => none)
  | _ => none
theorem ge_callL {T : FTab} {k i : Nat} {x : Str} {p : Pos} {es : List Expr} {t : TA} {ma : M (List D)} (A : ∀ f n m, T f = some (n, m) → HeldF B X.prog X.w X.K X.mg X.base k f n m) (hr : Room k X.A) (hN : X.N[i]? = some x) (hv : Vis X.env.scope x) (ha : GA B W X (e :: es) t ma)
    (hdb : (x == ("__debug__" : Str)) = false := by decide) (hcd : (x == ("__classdict__" : Str)) = false := by decide)
    (he : starEach (e :: es) X.env = (false, eval e X.env) :: starEach es X.env := by rfl) (hpl : (backTo pos (starEach es X.env)).any (·.1) = false := by rfl) :
    GE B W X (.Call (.Name x p) (e :: es) [] pos) (tCallA i (fun f => (T f).map fun nm => spOf B nm.1 nm.2) t) (mCallL i T ma) := ⟨pe_callA (fun f sp h => by
      cases q : T f with
      | none =>
        have h' : (T f).map (fun nm => spOf B nm.1 nm.2) = some sp := h
        rw [q] at h'
        cases h'
      | some nm =>
        have h' : (T f).map (fun nm => spOf B nm.1 nm.2) = some sp := h
        rw [q] at h'
        cases h'
        obtain ⟨fd, ps, h1, h2, h3⟩ := (A f nm.1 nm.2 q).ex
        exact ⟨fd, ps, h1, h2, h3⟩) hr hN hv ha.pa hdb hcd he hpl, fun s Q st q => by
  have q' : wpM (match s.w.env[i]? with | some (.d (.ref f)) => (match T f with | some (n, m) => mCall n m ma s.w | none => none) | _ => none) _ _ := q
  split at q'
  · rename_i f e1
    split at q'
    · rename_i n m e2
      obtain ⟨v, h1, h2⟩ := st.imm i _ e1
      cases h2
      refine ⟨f, spOf B n m, h1, by show (T f).map _ = _; rw [e2]; rfl, ?_⟩
      have z := sp_callF (E := fun _ _ _ => False) ha.sp (n := n) (m := m) s Q st q'
      have e0 : (fun (vs : List V) (H1 : Hp) => spOf B n m (vs ++ []) H1 Q (fun _ _ _ => False)) = fun vs H1 => spOf B n m vs H1 Q (fun _ _ _ => False) := by
        funext vs H1
        rw [List.append_nil]
      have z' : t s.σ s.H (fun (vs : List V) (H1 : Hp) => spOf B n m (vs ++ []) H1 Q (fun _ _ _ => False)) := z
      rw [e0] at z'
      exact z'
    · exact q'.elim
  · exact q'.elim⟩
/-- a def's meaning by its body's -/
def mFn (l n : Nat) (body : M Fl) : Fn := fun ds w => if ds.length = n then (match body ⟨ds.map SV.d ++ List.replicate (l - n) SV.un, w.sto⟩ with
  | some (.ok .nx w') => some (.ok .non ⟨[], w'.sto⟩)
  | some (.ok (.ret d) w') => some (.ok d ⟨[], w'.sto⟩)
  | _ => none) else none
theorem Sta.enter {N : List Str} {n : Nat} {vs : List V} {ds : List D} (st : Sta B s) (r : RDs s.R s.as vs ds) (hl : ds.length = n) (hN : n ≤ N.length) :
    Sta B { s with w := ⟨ds.map SV.d ++ List.replicate (N.length - n) SV.un, s.w.sto⟩, σ := L2.start N vs } ∧ Tr (bareS s) { s with w := ⟨ds.map SV.d ++ List.replicate (N.length - n) SV.un, s.w.sto⟩, σ := L2.start N vs } := by
  have hv := r.length
  have noOwn : ∀ (i : Nat) (es : List D), (ds.map SV.d ++ List.replicate (N.length - n) SV.un)[i]? ≠ some (.own es) := fun i es h => by
    by_cases hi : i < ds.length
    · rw [List.getElem?_append_left (by simpa using hi), List.getElem?_map] at h
      cases q : ds[i]? with
      | none => rw [q] at h; cases h
      | some x => rw [q] at h; cases h
    · rw [List.getElem?_append_right (by simpa using hi), List.getElem?_replicate] at h
      split at h <;> cases h
  refine ⟨⟨st.base, st.reg, st.len, st.nd, st.there, st.sto, ?_, fun i x h => ?_, fun i es h => (noOwn i es h).elim, fun i j ds es l h => (noOwn i ds h).elim⟩, ⟨Same.refl _, Pre.refl _, fun _ _ h _ _ => h, fun _ h h' => absurd h h', fun _ h => .inl h, fun a ⟨i, es, h, _⟩ => (noOwn i es h).elim, fun _ h => h⟩⟩
  · show (ds.map SV.d ++ List.replicate (N.length - n) SV.un).length = (L2.start N vs).length
    unfold L2.start
    rw [List.length_append, List.length_map, List.length_replicate, List.length_append, List.length_map, List.length_replicate]
    omega
  · have h' : (ds.map SV.d ++ List.replicate (N.length - n) SV.un)[i]? = some (.d x) := h
    by_cases hi : i < ds.length
    · rw [List.getElem?_append_left (by simpa using hi), List.getElem?_map] at h'
      cases q : ds[i]? with
      | none => rw [q] at h'; cases h'
      | some y =>
        rw [q] at h'
        cases h'
        obtain ⟨v, h1, h2⟩ := r.get q
        refine ⟨v, ?_, h2⟩
        show (L2.start N vs)[i]? = _
        unfold L2.start
        rw [List.getElem?_append_left (by rw [List.length_map]; omega), List.getElem?_map, h1]
        rfl
    · rw [List.getElem?_append_right (by simpa using hi), List.getElem?_replicate] at h'
      split at h' <;> cases h'
theorem fn_ok {P : Program} {w : World} {K : PySem.W.Frag} {mg : Str → Option Value} {base : Heap} {x qual : Str} {st : Stmt} {f : Addr} {fd : FuncData} {N ps : List Str} {k n : Nat} {m : M Fl} (F : Fun K x qual st f fd) (S : FnScope N ps (defScope st)) (hn : ps.length = n) (hN : n ≤ N.length)
    (hb : ∀ (cdv : Value) (A : Around) (outer : List Env) (s : Shared) (H : Hp) (E : XK), Room k (A.deeper (envOfC qual (defScope st) s.heap.objs.size f cdv)) →
      ∃ t, GSs B W0 (cxOf CX0 P w K mg base N qual (defScope st) f cdv A outer s H E).nox (defBody st) t m) : FnOk P w K mg base CX0 (k + 1) f fd ps (spOf B n (mFn N.length n m)) := by
  refine F.ok S (fun vs H Q E h => by rw [h.1, hn]) fun cdv A outer s H vs Q E hr h => ?_
  obtain ⟨t, hG⟩ := hb cdv A outer s H E hr
  obtain ⟨hl, s1, rfl, eσ, ee, st1, ds, r, hw⟩ := h
  refine ⟨t, hG.ps, ?_⟩
  unfold mFn at hw
  have hd : ds.length = n := by rw [← r.length]; exact hl
  rw [if_pos hd] at hw
  obtain ⟨st2, t2⟩ := st1.enter r hd hN
  have bs : bareS s1 = s1 := by
    obtain ⟨R, as, ⟨en, sto⟩, σ, H⟩ := s1
    cases eσ
    cases ee
    rfl
  rw [bs] at t2
  refine hG.sp _ _ st2 ?_
  cases hm : m ⟨ds.map SV.d ++ List.replicate (N.length - n) SV.un, s1.w.sto⟩ with
  | none => rw [hm] at hw; exact hw.elim
  | some z => cases z with
    | ex x w' => rw [hm] at hw; exact hw.elim
    | ok fl w' =>
      rw [hm] at hw
      cases fl with
      | nx =>
        intro s' st' t' ew
        exact hw (bareS s') st'.bare (t2.trans t').bare (by rw [← ew]; rfl) rfl _ .non
      | ret d =>
        intro s' st' t' ew v rv
        exact hw (bareS s') st'.bare (t2.trans t').bare (by rw [← ew]; rfl) rfl v rv
      | brk => exact hw.elim
      | cnt => exact hw.elim
theorem fn_none {P : Program} {w : World} {K : PySem.W.Frag} {mg : Str → Option Value} {base : Heap} {CX : CXT} {k n : Nat} {f : Addr} {fd : FuncData} {ps : List Str} (hn : ps.length = n) : FnOk P w K mg base CX k f fd ps (spOf B n fun _ _ => none) :=
  ⟨fun vs H Q E h => by rw [h.1, hn], fun A outer s H args us vs Q E _ _ _ _ h => by
    obtain ⟨_, s1, _, _, _, _, ds, _, z⟩ := h
    exact z.elim⟩
/-- a new list of the store -/
def mAlloc (m : M RV) : M D := bnd m fun z w => match z with
  | .l xs => some (.ok (.o w.sto.length) ⟨w.env, w.sto ++ [.lst xs]⟩)
  | _ => none
theorem ge_alloc {me : M RV} (h : GF B W X e te me) : GE B W X e te (mAlloc me) := ⟨h.pe, fun s Q st q => by
  refine h.sp.run st (Tr.refl s) (wpM_bnd.mp q) fun z s1 st1 t1 es p v r => ?_
  cases z with
  | d x => exact p.elim
  | l xs =>
    obtain ⟨l, rfl, h0, ho, hR, ha, vs, hH, r⟩ := r
    refine p _ (st1.stoNew (z := .lst xs) hR ha ho (by rw [hH]; exact fun z => by cases z) ⟨hR, vs, hH, r.mono (Same.refl _) (Pre.app _ _)⟩) (t1.stoNew h0) rfl es _ (.o ?_)
    rw [← st1.len]
    exact List.getElem?_concat_length⟩

/-! ### objects of the store that nobody needs any more -/
mutual
def lowD (n : Nat) : D → Bool
  | .o k => decide (k < n)
  | .lst xs => lowDs n xs
  | .tup xs => lowDs n xs
  | _ => true
def lowDs (n : Nat) : List D → Bool
  | [] => true
  | x :: xs => lowD n x && lowDs n xs
end
def lowK {κ : Type} (n : Nat) : List (κ × D) → Bool
  | [] => true
  | x :: xs => lowD n x.2 && lowK n xs
def lowO (n : Nat) : O → Bool
  | .gone => true
  | .lst xs => lowDs n xs
  | .dk xs => lowK n xs
  | .dt xs => lowK n xs
  | .ins _ xs => lowK n xs
  | .dn xs => lowK n xs
mutual
theorem RD.take {R : Hp} {as : List Addr} {n : Nat} : ∀ {v : V} {d : D}, RD R as v d → lowD n d = true → RD R (as.take n) v d
  | _, _, .non, _ => .non
  | _, _, .bl b, _ => .bl b
  | _, _, .int i, _ => .int i
  | _, _, .str x, _ => .str x
  | _, _, .ref a, _ => .ref a
  | _, _, @RD.o _ _ a k h, hb => .o (by
    have hk : k < n := of_decide_eq_true (by simpa [lowD] using hb)
    rw [List.getElem?_take_of_lt hk]
    exact h)
  | _, _, .lst h r, hb => .lst h (RDs.takeB r (by simpa [lowD] using hb))
  | _, _, .tup h r, hb => .tup h (RDs.takeB r (by simpa [lowD] using hb))
theorem RDs.takeB {R : Hp} {as : List Addr} {n : Nat} : ∀ {vs : List V} {ds : List D}, RDs R as vs ds → lowDs n ds = true → RDs R (as.take n) vs ds
  | _, _, .nil, _ => .nil
  | _, _, .cons h r, hb => by
    obtain ⟨h1, h2⟩ := Bool.and_eq_true_iff.mp hb
    exact .cons (RD.take h h1) (RDs.takeB r h2)
end
theorem RKs.takeB {κ : Type} {R : Hp} {as : List Addr} {n : Nat} : ∀ {vs : List (κ × V)} {ds : List (κ × D)}, RKs R as vs ds → lowK n ds = true → RKs R (as.take n) vs ds
  | _, _, .nil, _ => .nil
  | _, _, .cons h r, hb => by
    obtain ⟨h1, h2⟩ := Bool.and_eq_true_iff.mp hb
    exact .cons ⟨h.1, h.2.take h1⟩ (RKs.takeB r h2)
theorem OR.takeB {R : Hp} {as : List Addr} {H : Hp} {a : Addr} {n : Nat} : ∀ {x : O}, OR R as H a x → lowO n x = true → OR R (as.take n) H a x
  | .gone, _, _ => trivial
  | .lst _, ⟨h1, vs, h2, r⟩, hb => ⟨h1, vs, h2, r.takeB hb⟩
  | .dk _, ⟨h1, vs, h2, r⟩, hb => ⟨h1, vs, h2, r.takeB hb⟩
  | .dt _, ⟨h1, vs, h2, r⟩, hb => ⟨h1, vs, h2, r.takeB hb⟩
  | .ins _ _, ⟨h1, dx, vs, h2, r⟩, hb => ⟨h1, dx, vs, h2, r.takeB hb⟩
  | .dn _, ⟨h1, us, bs, h2, r, k⟩, hb => ⟨h1, us, bs, h2, r.takeB hb, k⟩
/-- what the callee made in the store is dropped at its end -/
def mDrop (m : Fn) : Fn := fun ds w => match m ds w with
  | some (.ok d w') => if (lowD w.sto.length d && (w'.sto.take w.sto.length).all (lowO w.sto.length)) = true then some (.ok d ⟨[], w'.sto.take w.sto.length⟩) else none
  | _ => none
theorem spOf_drop {n : Nat} {m : Fn} {vs : List V} {H : Hp} {Q : VK} {E : XK} (h : spOf B n (mDrop m) vs H Q E) : spOf B n m vs H Q E := by
  obtain ⟨hl, s, rfl, eσ, ee, st, ds, r, hw⟩ := h
  refine ⟨hl, s, rfl, eσ, ee, st, ds, r, ?_⟩
  unfold mDrop at hw
  cases hm : m ds s.w with
  | none => rw [hm] at hw; exact hw.elim
  | some z => cases z with
    | ex x w' => rw [hm] at hw; exact hw.elim
    | ok d w' =>
      rw [hm] at hw
      have hw' : wpM (if (lowD s.w.sto.length d && (w'.sto.take s.w.sto.length).all (lowO s.w.sto.length)) = true then some (.ok d ⟨[], w'.sto.take s.w.sto.length⟩) else none) _ _ := hw
      split at hw'
      · rename_i hb
        obtain ⟨b1, b2⟩ := Bool.and_eq_true_iff.mp hb
        intro s' st' t' ew es v rv
        have hlen : s.as.length = s.w.sto.length := st.len
        have pre : Pre s.as (s'.as.take s.w.sto.length) := fun k a e => by
          rw [List.getElem?_take_of_lt (by rw [← hlen]; exact (List.getElem?_eq_some_iff.mp e).1)]
          exact t'.pre k a e
        refine hw' { s' with as := s'.as.take s.w.sto.length, w := ⟨[], w'.sto.take s.w.sto.length⟩, σ := [] } ⟨st'.base, st'.reg, ?_, st'.nd.sublist (List.take_sublist _ _), fun a ha => st'.there a (List.mem_of_mem_take ha), fun k a x e1 e2 => ?_, rfl, fun i x (h : ([] : List SV)[i]? = _) => by simp at h, fun i x (h : ([] : List SV)[i]? = _) => by simp at h, fun i j ds es l (h : ([] : List SV)[i]? = _) => by simp at h⟩
          ⟨t'.reg, pre, t'.frame, t'.rfr, fun a ha => t'.afr a (List.mem_of_mem_take ha), fun a ⟨i, x, (h : ([] : List SV)[i]? = _), _⟩ => by simp at h, t'.dom⟩ rfl rfl v (rv.take b1)
        · show (s'.as.take s.w.sto.length).length = (w'.sto.take s.w.sto.length).length
          rw [List.length_take, List.length_take, st'.len, ew]
        · have e2' : (w'.sto.take s.w.sto.length)[k]? = some x := e2
          have e1' : (s'.as.take s.w.sto.length)[k]? = some a := e1
          have hx := List.all_eq_true.mp b2 x (List.mem_of_getElem? e2')
          have hk : k < s.w.sto.length := by
            have := (List.getElem?_eq_some_iff.mp e1').1
            rw [List.length_take] at this
            omega
          rw [List.getElem?_take_of_lt hk] at e1' e2'
          exact (st'.sto k a x e1' (by rw [ew]; exact e2')).takeB hx
      · exact hw'.elim
theorem FnOk.drop {P : Program} {w : World} {K : PySem.W.Frag} {mg : Str → Option Value} {base : Heap} {CX : CXT} {k n : Nat} {f : Addr} {fd : FuncData} {ps : List Str} {m : Fn} (F : FnOk P w K mg base CX k f fd ps (spOf B n m)) : FnOk P w K mg base CX k f fd ps (spOf B n (mDrop m)) :=
  F.imp fun _ _ _ _ h => spOf_drop h
end
end PD

set_option maxHeartbeats 1000000
namespace PD
open PySem PySem.Spec PyProof.Rows
/-! ### keys (tuple of ints, int) -/
section
variable {prog : Program} {w : World} {A : Around} {E : Value → Shared → Prop} {s : Shared}
def IsNest (prog : Program) (w : World) (h : Heap) (k : NK) (a : Addr) : Prop := ∃ o b t n, h.get? a = some o ∧ o.cls = .type "tuple" ∧ o.data = .seq #[.ref b, .int k.2 t] n ∧ IsTupleKey (intKind prog w) h k.1 b
def nestHash (prog : Program) (w : World) (k : NK) : Int := reduceHash (Builtin.Tuple.tupleHashOf [tupleKeyHash (intKind prog w) k.1, hashInt k.2])
theorem IsNest.typeIs {k : NK} {a : Addr} (x : IsNest prog w s.heap k a) : s.TypeIs (.ref a) "tuple" := let ⟨o, _, _, _, ho, hc, _⟩ := x; ⟨o, ho, hc⟩
theorem IsNest.inj {h : Heap} {a : Addr} {x y : NK} (hx : IsNest prog w h x a) (hy : IsNest prog w h y a) : x = y := by
  obtain ⟨o, b, t, n, ho, _, hd, hi⟩ := hx
  obtain ⟨o', b', t', n', ho', _, hd', hi'⟩ := hy
  obtain rfl : o = o' := Option.some.inj (ho.symm.trans ho')
  rw [hd] at hd'
  injection hd' with h1 _
  have h2 := congrArg Array.toList h1
  simp only [List.cons.injEq, Value.ref.injEq, Value.int.injEq] at h2
  obtain ⟨rfl, ⟨h3, _⟩, _⟩ := h2
  obtain ⟨x1, x2⟩ := x
  obtain ⟨y1, y2⟩ := y
  have e1 : x1 = y1 := IsTupleKey.inj hi hi'
  have e2 : x2 = y2 := h3
  rw [e1, e2]
theorem IsNest.keeps {h h' : Heap} {k : NK} {a d : Addr} {o : Obj} {es ep} (x : IsNest prog w h k a) (ho : h.get? d = some o) (hd : o.data = .dict es ep) (hs : Heap.SameBut d h h') : IsNest prog w h' k a := by
  obtain ⟨o', b, t, n, ho', hc, hd', hi⟩ := x
  have hne : a ≠ d := by
    rintro rfl
    obtain rfl : o' = o := Option.some.inj (ho'.symm.trans ho)
    rw [hd] at hd'; exact nomatch hd'
  exact ⟨o', b, t, n, (hs.2 a hne).trans ho', hc, hd', hi.keeps ho hd hs⟩
theorem wpAny_pyHash_nest {k : NK} {a : Addr} {Q : Int → Shared → Prop} (hu : A.units + 1 < cLine) (hk : IsNest prog w s.heap k a) (h : Q (nestHash prog w k) { s with toks := s.toks + (k.1.length + 3) }) :
    wpAny (model prog w) A (pyHash (.ref a)) Q E s := by
  have hT := hk.typeIs
  have hu' : A.units < cLine := by omega
  obtain ⟨o, b, t, n, ho, _, hd, hi⟩ := hk
  unfold pyHash
  first | unfold pyHashByItsType | skip
  first | refine wpAny_bind (wpAny_cRoomFor_or (.inr hu') ?_) | skip
  refine wpAny_bind (wpAny_specialOf hT F.slot_tuple_hash.lookup ?_)
  show wpAny _ _ (if (some (Value.builtin "tuple.__hash__") == some Value.none) = true then _ else _) Q E s
  rw [if_neg (by rw [beq_builtin_none]; exact Bool.false_ne_true)]
  refine wpAny_bind (wpAny_specialOf hT F.slot_tuple_hash.lookup ?_)
  show wpAny _ _ (callSpecialIfBoundUnlessNone? (.ref a) "__hash__" _ >>= _) Q E s
  refine wpAny_bind (wpAny_callSpecialIfBoundUnlessNone?_slot hT F.slot_tuple_hash (wpAny_call_entry F.slot_tuple_hash hT F.entry_tuple_hash ?_ (F.args_tuple_hash_1 _)))
  show wpAny _ _ (Builtin.Tuple.tupleItemsOf (.ref a) >>= _) _ _ s
  refine wpAny_bind (wpAny_tupleItemsOf ho hd ?_)
  refine wpAny_bind ?_
  rw [← Array.forIn_toList]
  show wpAny _ _ (forIn [Value.ref b, Value.int k.2 t] #[] _) _ _ s
  rw [List.forIn_cons]
  refine wpAny_bind (wpAny_bind (wpAny_pyHash_tuple (knd := intKind prog w) (by show A.units + 1 < cLine; omega) hi ?_))
  refine wpAny_pure ?_
  dsimp only
  rw [List.forIn_cons]
  refine wpAny_bind (wpAny_bind (wpAny_pyHash_int ?_))
  refine wpAny_pure ?_
  dsimp only
  rw [List.forIn_nil]
  refine wpAny_pure ?_
  show wpAny _ _ (retInt (Builtin.Tuple.tupleHashOf [tupleKeyHash (intKind prog w) k.1, hashInt k.2])) _ _ _
  refine wpAny_ret_mkInt ?_
  unfold nestHash reduceHash at h
  show wpAny _ _ (if (decide (-(2 : Int) ^ 63 ≤ Builtin.Tuple.tupleHashOf [tupleKeyHash (intKind prog w) k.1, hashInt k.2]) && decide (Builtin.Tuple.tupleHashOf [tupleKeyHash (intKind prog w) k.1, hashInt k.2] < 2 ^ 63)) = true then _ else _) Q E _
  by_cases hr : (decide (-(2 : Int) ^ 63 ≤ Builtin.Tuple.tupleHashOf [tupleKeyHash (intKind prog w) k.1, hashInt k.2]) && decide (Builtin.Tuple.tupleHashOf [tupleKeyHash (intKind prog w) k.1, hashInt k.2] < 2 ^ 63)) = true
  · rw [if_pos hr]
    rw [if_pos hr] at h
    exact wpAny_pure (by simpa [Nat.add_assoc] using h)
  · rw [if_neg hr]
    rw [if_neg hr] at h
    exact wpAny_bind (wpAny_rule (wpAny_pure (by simpa [Nat.add_assoc] using h)))
theorem nest_eq_tree {x y : NK} {a b : Addr} {P : PySem.Fin → Shared → Prop} (hu : A.units < cLine) (hx : IsNest prog w s.heap x a) (hy : IsNest prog w s.heap y b) (h : P (.done (.ret (.bool (decide (x = y))))) s) :
    wpAny (model prog w) A (Builtin.«tuple.__eq__» ⟨[.ref a, .ref b], []⟩) P E s := by
  have hTb := hy.typeIs
  obtain ⟨oa, xb, xt, na, hoa, _, hda, hia⟩ := hx
  obtain ⟨ob, yb, yt, nb, hob, _, hdb, hib⟩ := hy
  show wpAny _ _ (isInstance (.ref b) (.type "tuple") >>= _) _ _ s
  refine wpAny_bind (wpAny_isInstance hTb isSubtype_tuple_tuple ?_)
  simp only [Bool.not_true, Bool.false_eq_true, if_false]
  refine wpAny_bind (wpAny_tupleItemsOf hoa hda ?_)
  refine wpAny_bind (wpAny_tupleItemsOf hob hdb ?_)
  refine wpAny_bind ?_
  show wpAny _ _ (forIn [(Value.ref xb, Value.ref yb), (Value.int x.2 xt, Value.int y.2 yt)] _ _) _ _ s
  rw [List.forIn_cons]
  refine wpAny_bind (wpAny_bind (wpAny_eqBool_tuple (knd := intKind prog w) hu hia hib ?_))
  have dec : decide (x = y) = (decide (x.1 = y.1) && decide (x.2 = y.2)) := by
    obtain ⟨x1, x2⟩ := x
    obtain ⟨y1, y2⟩ := y
    simp [Prod.mk.injEq, Bool.decide_and]
  rw [dec] at h
  by_cases e1 : x.1 = y.1
  · rw [decide_eq_true e1] at h ⊢
    simp only [Bool.not_true, Bool.false_eq_true, if_false]
    refine wpAny_pure ?_
    dsimp only
    rw [List.forIn_cons]
    refine wpAny_bind (wpAny_bind (wpAny_eqBool_int ?_))
    by_cases e2 : x.2 = y.2
    · rw [decide_eq_true e2] at h
      rw [show (x.2 == y.2) = true from beq_iff_eq.mpr e2]
      simp only [Bool.not_true, Bool.false_eq_true, if_false]
      refine wpAny_pure ?_
      dsimp only
      rw [List.forIn_nil]
      exact wpAny_pure (wpAny_pure h)
    · rw [decide_eq_false e2] at h
      rw [show (x.2 == y.2) = false from beq_eq_false_iff_ne.mpr e2]
      simp only [Bool.not_false, if_true]
      exact wpAny_bind (wpAny_pure (wpAny_pure (wpAny_pure (wpAny_pure (by simpa using h)))))
  · rw [decide_eq_false e1] at h ⊢
    simp only [Bool.not_false, if_true]
    exact wpAny_bind (wpAny_pure (wpAny_pure (wpAny_pure (wpAny_pure (by simpa using h)))))
theorem wpAny_eqBool_nest {x y : NK} {a b : Addr} {Q : Bool → Shared → Prop} (hu : A.units + 1 < cLine) (hx : IsNest prog w s.heap x a) (hy : IsNest prog w s.heap y b) (h : Q (decide (x = y)) s) :
    wpAny (model prog w) A (eqBool (.ref a) (.ref b)) Q E s := by
  unfold eqBool
  try with_reducible refine wpAny_holding ?_
  show wpAny _ _ (if (Value.ref a == Value.ref b) = true then _ else _) Q E s
  by_cases hab : (Value.ref a == Value.ref b) = true
  · rw [if_pos hab]
    have e : a = b := by have := eq_of_beq hab; injection this
    subst e
    obtain rfl := hx.inj hy
    exact wpAny_bind (wpAny_rule (wpAny_pure (by simpa using h)))
  · rw [if_neg hab]
    exact wpAny_bind (wpAny_richCompare_same_room (op := .Eq) hx.typeIs hy.typeIs F.slot_tuple_eq
      (wpAny_call_entry F.slot_tuple_eq hx.typeIs F.entry_tuple_eq (nest_eq_tree (by show A.units + 1 < cLine; omega) hx hy ⟨_, rfl, (fun e => nomatch e), wpAny_truthy_bool h⟩) (F.args_tuple_eq_2 _ _)) (by omega))
theorem wpAny_eqIsQuiet_nest {k : NK} {a : Addr} {Q : Bool → Shared → Prop} (hk : IsNest prog w s.heap k a) (h : Q true s) : wpAny (model prog w) A (eqIsQuiet 8 (.ref a)) Q E s := by
  have hT := hk.typeIs
  obtain ⟨o, b, t, n, ho, _, hd, hi⟩ := hk
  unfold eqIsQuiet
  refine wpAny_bind (wpAny_specialOf hT F.slot_tuple_eq.lookup ?_)
  show wpAny _ _ (isInstance (.ref a) (.type "tuple") >>= _) _ _ s
  refine wpAny_bind (wpAny_isInstance hT isSubtype_tuple_tuple ?_)
  simp only [Bool.not_true, Bool.false_eq_true, if_false]
  refine wpAny_bind (wpAny_seqItems ho hd ?_)
  refine wpAny_bind ?_
  show wpAny _ _ (forIn #[Value.ref b, Value.int k.2 t] _ _) _ _ s
  rw [← Array.forIn_toList]
  show wpAny _ _ (forIn [Value.ref b, Value.int k.2 t] _ _) _ _ s
  rw [List.forIn_cons]
  have inner : ∀ {Q : Bool → Shared → Prop} {E : Value → Shared → Prop}, Q true s → wpAny (model prog w) A (eqIsQuiet 7 (.ref b)) Q E s := by
    intro Q E h
    have hT := hi.typeIs
    obtain ⟨o, items, n, ho, _, hd, hi⟩ := hi
    unfold eqIsQuiet
    refine wpAny_bind (wpAny_specialOf hT F.slot_tuple_eq.lookup ?_)
    show wpAny _ _ (isInstance (.ref b) (.type "tuple") >>= _) _ _ s
    refine wpAny_bind (wpAny_isInstance hT isSubtype_tuple_tuple ?_)
    simp only [Bool.not_true, Bool.false_eq_true, if_false]
    refine wpAny_bind (wpAny_seqItems ho hd ?_)
    refine wpAny_bind ?_
    show wpAny _ _ (forIn items _ _) _ _ s
    rw [← Array.forIn_toList]
    refine wpAny_forIn_list _ (fun rest r s' => r.1 = none ∧ s' = s ∧ ∀ v ∈ rest, carriedByValue v = true) _ ?_ ?_ _ _ ⟨rfl, rfl, hi.byValue⟩
    · rintro v rest r s' ⟨hr, rfl, hall⟩
      rw [eqIsQuiet_byValue _ (hall v List.mem_cons_self)]
      refine wpAny_bind (wpAny_pure ?_)
      simp only [Bool.not_true, Bool.false_eq_true, if_false]
      exact wpAny_pure ⟨rfl, rfl, fun u hu' => hall u (List.mem_cons_of_mem _ hu')⟩
    · rintro ⟨r1, r2⟩ s' ⟨hr, rfl, _⟩
      simp only at hr
      subst hr
      exact wpAny_pure h
  refine wpAny_bind (wpAny_bind (inner ?_))
  simp only [Bool.not_true, Bool.false_eq_true, if_false]
  refine wpAny_pure ?_
  dsimp only
  rw [List.forIn_cons]
  rw [eqIsQuiet_byValue _ (v := .int k.2 t) rfl]
  refine wpAny_bind (wpAny_bind (wpAny_pure ?_))
  simp only [Bool.not_true, Bool.false_eq_true, if_false]
  refine wpAny_pure ?_
  dsimp only
  rw [List.forIn_nil]
  exact wpAny_pure (wpAny_pure h)
end
def nestKind (prog : Program) (w : World) : HeapKind prog w NK where
  is := IsNest prog w
  hash := nestHash prog w
  draws := fun k => k.1.length + 3
  room := fun A => A.units + 1 < cLine
  inj := fun hx hy => hx.inj hy
  keeps := fun x ho hd hs => x.keeps ho hd hs
  pyHash := fun hu hk h => wpAny_pyHash_nest hu hk h
  eqBool := fun hu hx hy h => wpAny_eqBool_nest hu hx hy h
  quiet := fun hk h => wpAny_eqIsQuiet_nest hk h
end PD

set_option maxHeartbeats 1000000
namespace PD
open PySem PySem.Spec PyProof.Rows L2
/-! ### dicts: keys ints and texts, tuples of such, (tuple of ints, int) -/
section
variable {X : Cx} {pins : List (Addr × Obj)} {σ : L2.St} {H H' : Hp} {s : Shared} {a b : Addr} {k : NK} {us : List (NK × V)} {bs : List Addr} {y v : V} {o : Option V}
theorem keyN_is {P : Program} {w : World} {h : Heap} (ok : HOk P w H h) (x : KeyN H k b) : IsNest P w h k b := by
  obtain ⟨c, h1, h2⟩ := x
  obtain ⟨_, its, r, ob, e1, e2, n, e3⟩ := (show ObjOk P w H h b (.tup [.ref c, .int k.2]) from ok b _ h1)
  cases r with
  | cons r1 r =>
    cases r with
    | cons r2 r =>
      cases r
      cases r1
      obtain ⟨t, rfl⟩ := r2
      refine ⟨ob, c, t, n, e1, e2, e3, ?_⟩
      obtain ⟨_, js, rj, oc, f1, f2, m, f3⟩ := (show ObjOk P w H h c (.tup (k.1.map V.int)) from ok c _ h2)
      refine ⟨oc, js.toArray, m, f1, f2, f3, ?_⟩
      have go : ∀ (ns : List Int) (us : List Value), Vals (ns.map V.int) us → ItemsAre (intKind P w) ns us := by
        intro ns
        induction ns with
        | nil => intro us r; cases r; exact .nil
        | cons n ns ih =>
          intro us r
          cases r with
          | cons r1 r =>
            obtain ⟨t, rfl⟩ := r1
            exact .cons (by show Value.isInt n (.int n t) = true; simp [Value.isInt]) (ih _ r)
      exact go _ _ rj
abbrev KT3 : List (NK × V) → List (NK × Addr × Value) → Prop := Paired fun p q => p.1 = q.1 ∧ RelV p.2 q.2.2
theorem dn_at {P : Program} {w : World} {h : Heap} (ok : HOk P w H h) (e : H a = some (DnO a us bs)) (kn : KeysN H us bs) :
    us.length ≤ sizeLine ∧ (a == sysModules) = false ∧ ∃ xs, xs.map (·.2.1) = bs ∧ KT3 us xs ∧ h.DictOfH (nestKind P w) a xs := by
  obtain ⟨⟨hl, hs, xs, hb, hx, nd, ob, es, ep, h1, h2, h3, h4⟩, _⟩ := (show ObjOk P w H h a (DnO a us bs) from ok a _ e)
  refine ⟨hl, hs, xs, hb, hx, ob, es, ep, h1, h2, h3, h4, fun x hx' => ?_, nd⟩
  have go : ∀ {l : List (NK × V)} {m : List (NK × Addr × Value)} {cs : List Addr}, KT3 l m → m.map (·.2.1) = cs → KeysN H l cs → ∀ x ∈ m, IsNest P w h x.1 x.2.1 := by
    intro l m cs q
    induction q generalizing cs with
    | nil => intro _ _ x hx; exact nomatch hx
    | @cons p q ps qs hq t ih =>
      intro hc hk x hx
      cases hk with
      | @cons _ c _ cs hk hks =>
        simp only [List.map_cons, List.cons.injEq] at hc
        rcases List.mem_cons.mp hx with e | hx
        · subst e
          rw [← hq.1, hc.1]
          exact keyN_is ok hk
        · exact ih hc.2 hks x hx
  exact go hx hb kn x hx'
theorem KT3.val (k : NK) : ∀ {us : List (NK × V)} {xs : List (NK × Addr × Value)}, KT3 us xs → RelO (valV us k) ((atKey xs k).map (·.2))
  | _, _, .nil => trivial
  | p :: us, q :: xs, .cons h r => by
    have ih := KT3.val k r
    by_cases e : p.1 = k
    · rw [valV_pos e]
      have : atKey (q :: xs) k = some q.2 := by
        unfold atKey
        rw [List.find?_cons_of_pos (by rw [← h.1]; exact decide_eq_true e)]
        rfl
      rw [this]
      exact h.2
    · rw [valV_neg e]
      have : atKey (q :: xs) k = atKey xs k := by
        unfold atKey
        rw [List.find?_cons_of_neg (by rw [← h.1]; simpa using e)]
      rw [this]
      exact ih
def DGetU (H : Hp) (a : Addr) (y : V) (r : Option V) : Prop := DGet H a y r ∨ ∃ us bs k b, H a = some (DnO a us bs) ∧ KeysN H us bs ∧ y = .ref b ∧ KeyN H k b ∧ r = valV us k
def DPutU (H : Hp) (a : Addr) (y v : V) (H' : Hp) : Prop := DPut H a y v H' ∨ ∃ us bs k b, H a = some (DnO a us bs) ∧ KeysN H us bs ∧ y = .ref b ∧ KeyN H k b ∧ us.length < sizeLine ∧ H' = upd H a (DnO a (putK us k v) (if (valV us k).isSome = true then bs else bs ++ [b]))
variable {A : Around} {E : Value → Shared → Prop} {u r : Value}
theorem u_getItem {Q : Value → Shared → Prop} (hu : A.units + 2 < cLine) (I : Inv X pins σ H s) (g : DGetU H a y (some v)) (ry : RelV y u) (h : ∀ w' s', Inv X pins σ H s' → RelV v w' → Q w' s') :
    wpAny (model X.prog X.w) A (getItem (.ref a) u) Q E s := by
  rcases g with g | ⟨us, bs, k, b, e, kn, rfl, kb, l⟩
  · exact d_getItem (by omega) I g ry h
  · cases ry
    obtain ⟨_, _, xs, _, rel, dd⟩ := dn_at I.hok e kn
    obtain ⟨w', hw, rw'⟩ := RelO.some_of (v := v) (o := (atKey xs k).map (·.2)) (by rw [l]; exact rel.val k)
    obtain ⟨p, hp, hp2⟩ := Option.map_eq_some_iff.mp hw
    refine wpAny_getItem_heap (knd := nestKind X.prog X.w) (by show A.units + 1 + 1 < cLine; omega) (keyN_is I.hok kb) dd hp ?_
    rw [hp2]
    exact h w' _ (I.tok _) rw'
theorem u_in {Q : Value → Shared → Prop} (hu : A.units + 2 < cLine) (I : Inv X pins σ H s) (g : DGetU H a y o) (ry : RelV y u) (h : ∀ s', Inv X pins σ H s' → Q (.bool o.isSome) s') :
    wpAny (model X.prog X.w) A (compareOp .In u (.ref a)) Q E s := by
  rcases g with g | ⟨us, bs, k, b, e, kn, rfl, kb, l⟩
  · exact d_in (by omega) I g ry h
  · cases ry
    obtain ⟨_, hd, xs, _, rel, dd⟩ := dn_at I.hok e kn
    refine wpAny_in_heap (knd := nestKind X.prog X.w) (by show A.units + 1 + 1 < cLine; omega) (keyN_is I.hok kb) hd dd ?_
    have q := (rel.val k).isSome_eq
    rw [Option.isSome_map] at q
    rw [← q, ← l]
    exact h _ (I.tok _)
theorem u_notIn {Q : Value → Shared → Prop} (hu : A.units + 2 < cLine) (I : Inv X pins σ H s) (g : DGetU H a y o) (ry : RelV y u) (h : ∀ s', Inv X pins σ H s' → Q (.bool (!o.isSome)) s') :
    wpAny (model X.prog X.w) A (compareOp .NotIn u (.ref a)) Q E s := by
  rcases g with g | ⟨us, bs, k, b, e, kn, rfl, kb, l⟩
  · exact d_notIn (by omega) I g ry h
  · cases ry
    obtain ⟨_, hd, xs, _, rel, dd⟩ := dn_at I.hok e kn
    refine wpAny_notIn_heap (knd := nestKind X.prog X.w) (by show A.units + 1 + 1 < cLine; omega) (keyN_is I.hok kb) hd dd ?_
    have q := (rel.val k).isSome_eq
    rw [Option.isSome_map] at q
    rw [← q, ← l]
    exact h _ (I.tok _)
theorem KT3.put {u : Value} {v : V} (k : NK) (b : Addr) (rv : RelV v u) {us : List (NK × V)} {xs : List (NK × Addr × Value)} (h : KT3 us xs) :
    KT3 (putK us k v) (storedH xs k b u) ∧ (storedH xs k b u).map (·.2.1) = (if (valV us k).isSome = true then xs.map (·.2.1) else xs.map (·.2.1) ++ [b]) := by
  have q := (h.val k).isSome_eq
  rw [Option.isSome_map] at q
  unfold storedH putK
  rw [valV_any, q]
  by_cases hs : (atKey xs k).isSome = true
  · rw [if_pos hs, if_pos hs, if_pos hs]
    clear hs q
    induction h with
    | nil => exact ⟨.nil, rfl⟩
    | @cons p q ps qs hq t ih =>
      obtain ⟨i1, i2⟩ := ih
      simp only [List.map_cons]
      refine ⟨.cons ?_ i1, ?_⟩
      · unfold putAt
        rw [← hq.1]
        by_cases e : p.1 = k
        · rw [if_pos e, if_pos e]; exact ⟨rfl, rv⟩
        · rw [if_neg e, if_neg e]; exact hq
      · rw [i2]
        unfold putAt
        by_cases e : q.1 = k
        · rw [if_pos e]
        · rw [if_neg e]
  · rw [if_neg hs, if_neg hs, if_neg hs]
    refine ⟨?_, by rw [List.map_append]; rfl⟩
    clear hs q
    induction h with
    | nil => exact .cons ⟨rfl, rv⟩ .nil
    | cons hq t ih => exact .cons hq ih
theorem u_setItem {Q : Unit → Shared → Prop} (hu : A.units + 2 < cLine) (I : Inv X pins σ H s) (g : DPutU H a y v H') (ry : RelV y u) (rv : RelV v r) (h : ∀ s', Inv X pins σ H' s' → Q () s') :
    wpAny (model X.prog X.w) A (setItem (.ref a) u r) Q E s := by
  rcases g with g | ⟨us, bs, k, b, e, kn, rfl, kb, l, eH⟩
  · exact d_setItem (by omega) I g ry rv h
  · cases ry
    subst eH
    obtain ⟨z, hd, xs, hb, rel, dd⟩ := dn_at I.hok e kn
    have hz : xs.length ≤ sizeLine := by rw [← Paired.length rel]; exact z
    have hl : (putK us k v).length ≤ sizeLine := by have := length_putK us k v; omega
    refine wpAny_setItem_heap (knd := nestKind X.prog X.w) (hsz := hz) (by show A.units + 1 + 1 < cLine; omega) (keyN_is I.hok kb) dd fun h' dd' hs => h _ ?_
    obtain ⟨q, es, ep, hq, h2, h3, h4, _, h5⟩ := dd'
    obtain ⟨k1, k2⟩ := rel.put k b rv
    refine d_write I (by rw [e]; exact True.intro) hs ⟨q, hq⟩ ⟨⟨hl, hd, _, by rw [k2, hb], k1, h5, q, es, ep, hq, h2, h3, h4⟩, ⟨q, hq⟩, fun h1 h2 ⟨p1, p2, ys, p3, p4, p5, ob, es', ep', g1, g2⟩ keep => ⟨p1, p2, ys, p3, p4, p5, ob, es', ep', keep _ g1, g2⟩⟩
theorem u_typeIs (I : Inv X pins σ H s) (g : DGetU H a y o) : s.TypeIs (.ref a) "dict" := by
  rcases g with g | ⟨us, bs, k, b, e, kn, rfl, kb, l⟩
  · exact dict_typeIs I g
  · obtain ⟨_, _, xs, _, rel, ob, es, ep, h1, h2, _⟩ := dn_at I.hok e kn
    exact ⟨ob, h1, h2.1⟩
end
def uGet (td ty : TE) : TE := fun σ H Q => td σ H fun x H1 => ty σ H1 fun y H2 => ∃ a v, x = .ref a ∧ DGetU H2 a y (some v) ∧ Q v H2
def uIn (ty td : TE) : TE := fun σ H Q => ty σ H fun y H1 => td σ H1 fun x H2 => ∃ a o, x = .ref a ∧ DGetU H2 a y o ∧ Q (.bl o.isSome) H2
def uNotIn (ty td : TE) : TE := fun σ H Q => ty σ H fun y H1 => td σ H1 fun x H2 => ∃ a o, x = .ref a ∧ DGetU H2 a y o ∧ Q (.bl (!o.isSome)) H2
def uPut (td ty tv : TE) : TS := fun D σ H => tv σ H fun v H1 => td σ H1 fun x H2 => ty σ H2 fun y H3 => ∃ a H4, x = .ref a ∧ DPutU H3 a y v H4 ∧ D.nx σ H4
def tDNewN : TE := fun _ H Q => ∀ p, H p = none → Q (.ref p) (upd H p (DnO p [] []))
section
variable {B : Hp} {W : WX} {X : Cx} {o i e value : Expr} {pos pos' tpos : Pos} {td ty tv : TE}
theorem pe_uget (hu : X.A.units + 2 < cLine) (ho : PE X o td) (hi : PE X i ty) (hs : NoSl i) : PE X (.Subscript o i pos) (uGet td ty) := by
  refine ⟨fun pins s σ H Q I h => ?_⟩
  refine subD_of PySem.F.slot_dict_getitem.lookup hs (thn (ho.run pins s σ H _ I h) fun u s1 ⟨x, H1, I1, rx, q1⟩ => thn (hi.run pins s1 σ H1 _ I1 q1) fun iv s2 ⟨y, H2, I2, ry, a, v, ex, g, q2⟩ => ?_)
  subst ex
  obtain rfl : u = Value.ref a := rx
  exact ⟨u_typeIs I2 g, u_getItem hu I2 g ry fun w' s3 I3 rw' => ⟨v, H2, I3, rw', q2⟩⟩
theorem pc_uin (hu : X.A.units + 2 < cLine) (hi : PE X i ty) (ho : PE X o td) : PC X .In i o (uIn ty td) := by
  refine ⟨fun pins s σ H Q I h => ?_⟩
  refine thn (hi.run pins s σ H _ I h) fun iv s1 ⟨y, H1, I1, ry, q1⟩ => thn (ho.run pins s1 σ H1 _ I1 q1) fun u s2 ⟨x, H2, I2, rx, a, ov, ex, g, q2⟩ => ?_
  subst ex
  obtain rfl : u = Value.ref a := rx
  exact u_in hu I2 g ry fun s3 I3 => ⟨.bl ov.isSome, H2, I3, rfl, q2⟩
theorem pc_unotin (hu : X.A.units + 2 < cLine) (hi : PE X i ty) (ho : PE X o td) : PC X .NotIn i o (uNotIn ty td) := by
  refine ⟨fun pins s σ H Q I h => ?_⟩
  refine thn (hi.run pins s σ H _ I h) fun iv s1 ⟨y, H1, I1, ry, q1⟩ => thn (ho.run pins s1 σ H1 _ I1 q1) fun u s2 ⟨x, H2, I2, rx, a, ov, ex, g, q2⟩ => ?_
  subst ex
  obtain rfl : u = Value.ref a := rx
  exact u_notIn hu I2 g ry fun s3 I3 => ⟨.bl (!ov.isSome), H2, I3, rfl, q2⟩
theorem ps_uput (hu : X.A.units + 2 < cLine) (ho : PE X o td) (hi : PE X i ty) (hv : PE X value tv) (hs : swapsWith value (some (.Subscript o i pos')) pos.line X.env = pure false) :
    PS X (.Assign [.Subscript o i pos'] value pos) (uPut td ty tv) := by
  refine ⟨fun pins s σ H D I h => ?_⟩
  refine wpAny_Assign_Subscript (thn (hv.run pins s σ H _ I h) fun r s1 ⟨v, H1, I1, rv, q1⟩ => thn (ho.run pins s1 σ H1 _ I1 q1) fun u s2 ⟨x, H2, I2, rx, q2⟩ => thn (hi.run pins s2 σ H2 _ I2 q2) fun iv s3 ⟨y, H3, I3, ry, a, H4, ex, g, q3⟩ => ?_) hs
  subst ex
  obtain rfl : u = Value.ref a := rx
  exact u_setItem hu I3 g ry rv fun s4 I4 => ⟨σ, H4, I4, q3⟩
theorem pe_dnewN : PE X (.Dict [] [] pos) tDNewN := ⟨fun pins s σ H Q I h =>
  wpAny_Dict_empty ⟨.ref s.heap.objs.size, _, I.laid (a := s.heap.objs.size) (o := DnO s.heap.objs.size [] []) (t' := s.toks) (fun _ _ q => Heap.get?_push_of_some _ q) (Nat.le_refl _)
    ⟨⟨Nat.zero_le _, beq_eq_false_iff_ne.mpr (Ne.symm (Nat.ne_of_lt I.big)), [], rfl, .nil, List.nodup_nil, _, #[], 0, Heap.get?_push_size _ rfl, ⟨rfl, rfl, rfl⟩, rfl, rfl⟩, ⟨_, Heap.get?_push_size _ rfl⟩,
      fun h1 h2 ⟨p1, p2, ys, p3, p4, p5, ob, es', ep', g1, g2⟩ keep => ⟨p1, p2, ys, p3, p4, p5, ob, es', ep', keep _ g1, g2⟩⟩, rfl, h _ (I.hok.fresh (Nat.le_refl _))⟩⟩

/-! ### their meaning -/
def valD {κ : Type} [DecidableEq κ] (kvs : List (κ × D)) (k : κ) : Option D := match kvs with
  | [] => none
  | p :: r => if p.1 = k then some p.2 else valD r k
def repD {κ : Type} [DecidableEq κ] (kvs : List (κ × D)) (k : κ) (d : D) : List (κ × D) := match kvs with
  | [] => []
  | p :: r => (if p.1 = k then (p.1, d) else p) :: repD r k d
def putDk {κ : Type} [DecidableEq κ] (kvs : List (κ × D)) (k : κ) (d : D) : List (κ × D) := match valD kvs k with
  | some _ => repD kvs k d
  | none => kvs ++ [(k, d)]
theorem RKs.val {κ : Type} [DecidableEq κ] {R : Hp} {as : List Addr} (k : κ) : ∀ {us : List (κ × V)} {kvs : List (κ × D)}, RKs R as us kvs → (valD kvs k = none ∧ valV us k = none) ∨ ∃ d v, valD kvs k = some d ∧ valV us k = some v ∧ RD R as v d
  | _, _, .nil => .inl ⟨rfl, rfl⟩
  | p :: us, q :: kvs, .cons h r => by
    unfold valD
    by_cases e : p.1 = k
    · rw [valV_pos e, if_pos (h.1 ▸ e)]
      exact .inr ⟨_, _, rfl, rfl, h.2⟩
    · rw [valV_neg e, if_neg (h.1 ▸ e)]
      exact RKs.val k r
theorem RKs.put {κ : Type} [DecidableEq κ] {R : Hp} {as : List Addr} (k : κ) {v : V} {d : D} (rd : RD R as v d) {us : List (κ × V)} {kvs : List (κ × D)} (h : RKs R as us kvs) : RKs R as (putK us k v) (putDk kvs k d) := by
  unfold putK putDk
  rw [valV_any]
  rcases h.val k with ⟨h1, h2⟩ | ⟨d', v', h1, h2, _⟩
  · rw [h1, h2, if_neg (by exact Bool.false_ne_true)]
    clear h1 h2
    induction h with
    | nil => exact .cons ⟨rfl, rd⟩ .nil
    | cons hq t ih => exact .cons hq ih
  · rw [h1, h2, if_pos (show (some v').isSome = true from rfl)]
    show RKs R as (us.map _) (repD kvs k d)
    clear h1 h2
    induction h with
    | nil => exact .nil
    | @cons p q ps qs hq t ih =>
      unfold repD
      rw [List.map_cons]
      refine .cons ?_ ih
      by_cases e : p.1 = k
      · rw [if_pos e, if_pos (hq.1 ▸ e)]; exact ⟨hq.1, rd⟩
      · rw [if_neg e, if_neg (hq.1 ▸ e)]; exact hq
/-- keys as data -/
def keyD : D → Option Key
  | .int i => some (.inl i)
  | .str x => some (.inr x)
  | _ => none
def keyDs : List D → Option (List Key)
  | [] => some []
  | d :: ds => (match keyD d with
    | some k => (match keyDs ds with
      | some ks => some (k :: ks)
      | none => none)
    | none => none)
def keyT : D → Option (List Key)
  | .tup ds => keyDs ds
  | _ => none
def keyNst : D → Option NK
  | .tup [.tup ds, .int m] => (match intsD ds with
    | some ns => some (ns, m)
    | none => none)
  | _ => none
theorem keyD_ok {R : Hp} {as : List Addr} {v : V} {d : D} {k : Key} (h : RD R as v d) (e : keyD d = some k) : v = kV k := by
  cases h <;> first
    | (cases e; rfl)
    | cases e
theorem keyDs_ok {R : Hp} {as : List Addr} : ∀ {vs : List V} {ds : List D} {ks : List Key}, RDs R as vs ds → keyDs ds = some ks → vs = ks.map kV
  | _, _, _, .nil, e => by cases e; rfl
  | _, d :: ds, ks, .cons h r, e => by
    have e' : (match keyD d with | some k => (match keyDs ds with | some ks => some (k :: ks) | none => none) | none => none) = some ks := e
    split at e'
    · rename_i k e1
      split at e'
      · rename_i ks' e2
        cases e'
        rw [keyD_ok h e1, keyDs_ok r e2]
        rfl
      · cases e'
    · cases e'
theorem PR.key {s : CS} {v : V} {d : D} {k : Key} (h : PR s v d) (e : keyD d = some k) : v = kV k := by
  cases h with
  | rd h => exact keyD_ok h e
  | li h r => cases e
theorem PR.keyT {s : CS} {v : V} {d : D} {k : List Key} (st : Sta B s) (h : PR s v d) (e : PD.keyT d = some k) : ∃ b, v = .ref b ∧ s.H b = some (.tup (k.map kV)) := by
  cases d with
  | tup ds =>
    obtain ⟨b, us, rfl, h1, h2⟩ := h.tup st
    rw [keyDs_ok h2 e] at h1
    exact ⟨b, rfl, h1⟩
  | _ => cases e
theorem PR.keyN {s : CS} {v : V} {d : D} {k : NK} (st : Sta B s) (h : PR s v d) (e : keyNst d = some k) : ∃ b, v = .ref b ∧ KeyN s.R k b := by
  unfold keyNst at e
  split at e
  · rename_i ds m
    split at e
    · rename_i ns e1
      cases e
      cases h with
      | rd h =>
        cases h with
        | tup h1 h2 =>
          cases h2 with
          | cons h3 h4 =>
            cases h4 with
            | cons h5 h6 =>
              cases h6
              cases h5
              cases h3 with
              | tup h7 h8 =>
                rw [intsD_ok h8 e1] at h7
                exact ⟨_, rfl, _, h1, h7⟩
    · cases e
  · cases e
/-- what the dict holds at a key -/
def dget (sto : List O) (d k : D) : Option (Option D) := match d with
  | .o j => (match sto[j]? with
    | some (.dk kvs) => (match keyD k with
      | some k => some (valD kvs k)
      | none => none)
    | some (.dt kvs) => (match PD.keyT k with
      | some k => some (valD kvs k)
      | none => none)
    | some (.dn kvs) => (match keyNst k with
      | some k => some (valD kvs k)
      | none => none)
    | _ => none)
  | _ => none
def dput (sto : List O) (d k x : D) : Option (List O) := match d with
  | .o j => (match sto[j]? with
    | some (.dk kvs) => (match keyD k with
      | some k => if kvs.length < 16777216 then some (sto.set j (.dk (putDk kvs k x))) else none
      | none => none)
    | some (.dt kvs) => (match PD.keyT k with
      | some k => if kvs.length < 16777216 then some (sto.set j (.dt (putDk kvs k x))) else none
      | none => none)
    | some (.dn kvs) => (match keyNst k with
      | some k => if kvs.length < 16777216 then some (sto.set j (.dn (putDk kvs k x))) else none
      | none => none)
    | _ => none)
  | _ => none
theorem rel_val {κ : Type} [DecidableEq κ] {R : Hp} {as : List Addr} {us : List (κ × V)} {kvs : List (κ × D)} (h : RKs R as us kvs) (k : κ) : (valD kvs k).isSome = (valV us k).isSome ∧ ∀ d, valD kvs k = some d → ∃ v, valV us k = some v ∧ RD R as v d := by
  rcases h.val k with ⟨h1, h2⟩ | ⟨d', v', h1, h2, h3⟩
  · exact ⟨by rw [h1, h2]; rfl, fun d e => by rw [h1] at e; cases e⟩
  · exact ⟨by rw [h1, h2]; rfl, fun d e => by rw [h1] at e; cases e; exact ⟨v', h2, h3⟩⟩
theorem dget_ok {s : CS} {x y : V} {d k : D} {r : Option D} (st : Sta B s) (hx : PR s x d) (hy : PR s y k) (e : dget s.w.sto d k = some r) : ∃ a o, x = .ref a ∧ DGetU s.H a y o ∧ r.isSome = o.isSome ∧ ∀ z, r = some z → ∃ v, o = some v ∧ RD s.R s.as v z := by
  unfold dget at e
  split at e
  · rename_i j
    obtain ⟨a, rfl, ha⟩ := hx.o
    split at e
    · rename_i kvs e1
      split at e
      · rename_i k' e2
        cases e
        obtain ⟨_, us, h1, h2⟩ := st.sto j a _ ha e1
        obtain ⟨v1, v2⟩ := rel_val h2 k'
        refine ⟨a, valV us k', rfl, .inl ?_, v1, v2⟩
        rw [hy.key e2]
        exact DGet.k h1
      · cases e
    · rename_i kvs e1
      split at e
      · rename_i k' e2
        cases e
        obtain ⟨_, us, h1, h2⟩ := st.sto j a _ ha e1
        obtain ⟨v1, v2⟩ := rel_val h2 k'
        obtain ⟨b, rfl, hb⟩ := hy.keyT st e2
        exact ⟨a, valV us k', rfl, .inl (DGet.t h1 hb), v1, v2⟩
      · cases e
    · rename_i kvs e1
      split at e
      · rename_i k' e2
        cases e
        obtain ⟨_, us, bs, h1, h2, h3⟩ := st.sto j a _ ha e1
        obtain ⟨v1, v2⟩ := rel_val h2 k'
        obtain ⟨b, rfl, hb⟩ := hy.keyN st e2
        exact ⟨a, valV us k', rfl, .inr ⟨us, bs, k', b, h1, h3.mono st.reg, rfl, hb.mono st.reg, rfl⟩, v1, v2⟩
      · cases e
    · cases e
  · cases e
theorem dput_ok {s : CS} {x y v : V} {d k z : D} {sto' : List O} (st : Sta B s) (hx : PR s x d) (hy : PR s y k) (hz : RD s.R s.as v z) (e : dput s.w.sto d k z = some sto') : ∃ a H', x = .ref a ∧ DPutU s.H a y v H' ∧ Sta B { s with H := H', w := ⟨s.w.env, sto'⟩ } ∧ ∀ s0, Tr s0 s → Tr s0 { s with H := H', w := ⟨s.w.env, sto'⟩ } := by
  unfold dput at e
  split at e
  · rename_i j
    obtain ⟨a, rfl, ha⟩ := hx.o
    split at e
    · rename_i kvs e1
      split at e
      · rename_i k' e2
        split at e
        · rename_i hl
          cases e
          obtain ⟨hR, us, h1, h2⟩ := st.sto j a _ ha e1
          refine ⟨a, _, rfl, .inl (by rw [hy.key e2]; exact DPut.k h1 (by rw [Paired.length h2, sizeLine_eq]; exact hl)), st.stoUpd ha hR ⟨hR, _, upd_same, h2.put k' hz⟩, fun s0 t => t.stoUpd ha⟩
        · cases e
      · cases e
    · rename_i kvs e1
      split at e
      · rename_i k' e2
        split at e
        · rename_i hl
          cases e
          obtain ⟨hR, us, h1, h2⟩ := st.sto j a _ ha e1
          obtain ⟨b, rfl, hb⟩ := hy.keyT st e2
          refine ⟨a, _, rfl, .inl (DPut.t h1 hb (by rw [Paired.length h2, sizeLine_eq]; exact hl)), st.stoUpd ha hR ⟨hR, _, upd_same, h2.put k' hz⟩, fun s0 t => t.stoUpd ha⟩
        · cases e
      · cases e
    · rename_i kvs e1
      split at e
      · rename_i k' e2
        split at e
        · rename_i hl
          cases e
          obtain ⟨hR, us, bs, h1, h2, h3⟩ := st.sto j a _ ha e1
          obtain ⟨b, rfl, hb⟩ := hy.keyN st e2
          refine ⟨a, _, rfl, .inr ⟨us, bs, k', b, h1, h3.mono st.reg, rfl, hb.mono st.reg, by rw [Paired.length h2, sizeLine_eq]; exact hl, rfl⟩, st.stoUpd ha hR ⟨hR, _, _, upd_same, h2.put k' hz, ?_⟩, fun s0 t => t.stoUpd ha⟩
          unfold putK
          rw [valV_any]
          by_cases q : (valV us k').isSome = true
          · rw [if_pos q, if_pos q]
            clear q h1 h2
            induction h3 with
            | nil => exact .nil
            | @cons p b' ps bs' hq t ih =>
              rw [List.map_cons]
              refine .cons ?_ ih
              by_cases e : p.1 = k'
              · rw [if_pos e]; exact hq
              · rw [if_neg e]; exact hq
          · rw [if_neg q, if_neg q]
            clear q h1 h2
            induction h3 with
            | nil => exact .cons hb .nil
            | cons hq t ih => exact .cons hq ih
        · cases e
      · cases e
    · cases e
  · cases e
def mDGet (mo mi : M Op) : M D := bnd mo fun o => bnd mi fun p w => match o.get w, p.get w with
  | some d, some k => (match dget w.sto d k with
    | some (some x) => some (.ok x w)
    | _ => none)
  | _, _ => none
theorem ge_dget {mo mi : M Op} (hu : X.A.units + 2 < cLine) (ho : GP B W X o td mo) (hi : GP B W X i ty mi) (hs : NoSl i) : GE B W X (.Subscript o i pos) (uGet td ty) (mDGet mo mi) := ⟨pe_uget hu ho.pe hi.pe hs, fun s Q st q => by
  refine ho.sp.run st (Tr.refl s) (wpM_bnd.mp q) fun oo s1 st1 t1 es p x rx => ?_
  rw [← es]
  refine hi.sp.run st1 t1 (wpM_bnd.mp p) fun o2 s2 st2 t2 es2 p2 y ry => ?_
  split at p2
  · rename_i d k e1 e2
    split at p2
    · rename_i z e3
      obtain ⟨a, ov, h1, h2, _, h4⟩ := dget_ok st2 (get_ok st2 (rx.tr t2 es2) e1) (get_ok st2 ry e2) e3
      obtain ⟨v, rfl, rv⟩ := h4 z rfl
      exact ⟨a, v, h1, h2, p2 s2 st2 (t1.trans t2) rfl (es2.trans es) v rv⟩
    · exact p2.elim
  · exact p2.elim⟩
def mDIn (neg : Bool) (mi mo : M Op) : M Bool := bnd mi fun p => bnd mo fun o w => match p.get w, o.get w with
  | some k, some d => (match dget w.sto d k with
    | some r => some (.ok (if neg then !r.isSome else r.isSome) w)
    | none => none)
  | _, _ => none
theorem gt_din {mo mi : M Op} (hu : X.A.units + 2 < cLine) (hi : GP B W X i ty mi) (ho : GP B W X o td mo) (h1 : behindInMarks .In o = false := by rfl) : GT B W X (.Compare i [.In] [o] pos) (tB (uIn ty td)) (mDIn false mi mo) := ⟨pt_cmp (pc_uin hu hi.pe ho.pe) h1, fun s Q st q => by
  refine hi.sp.run st (Tr.refl s) (wpM_bnd.mp q) fun oo s1 st1 t1 es p y ry => ?_
  rw [← es]
  refine ho.sp.run st1 t1 (wpM_bnd.mp p) fun o2 s2 st2 t2 es2 p2 x rx => ?_
  split at p2
  · rename_i k d e1 e2
    split at p2
    · rename_i r e3
      obtain ⟨a, ov, h1, h2, h3, _⟩ := dget_ok st2 (get_ok st2 rx e2) (get_ok st2 (ry.tr t2 es2) e1) e3
      refine ⟨a, ov, h1, h2, _, rfl, ?_⟩
      rw [← h3]
      exact p2 s2 st2 (t1.trans t2) rfl (es2.trans es) _ rfl
    · exact p2.elim
  · exact p2.elim⟩
theorem gt_dnotin {mo mi : M Op} (hu : X.A.units + 2 < cLine) (hi : GP B W X i ty mi) (ho : GP B W X o td mo) (h1 : behindInMarks .NotIn o = false := by rfl) : GT B W X (.Compare i [.NotIn] [o] pos) (tB (uNotIn ty td)) (mDIn true mi mo) := ⟨pt_cmp (pc_unotin hu hi.pe ho.pe) h1, fun s Q st q => by
  refine hi.sp.run st (Tr.refl s) (wpM_bnd.mp q) fun oo s1 st1 t1 es p y ry => ?_
  rw [← es]
  refine ho.sp.run st1 t1 (wpM_bnd.mp p) fun o2 s2 st2 t2 es2 p2 x rx => ?_
  split at p2
  · rename_i k d e1 e2
    split at p2
    · rename_i r e3
      obtain ⟨a, ov, h1, h2, h3, _⟩ := dget_ok st2 (get_ok st2 rx e2) (get_ok st2 (ry.tr t2 es2) e1) e3
      refine ⟨a, ov, h1, h2, _, rfl, ?_⟩
      rw [← h3]
      exact p2 s2 st2 (t1.trans t2) rfl (es2.trans es) _ rfl
    · exact p2.elim
  · exact p2.elim⟩
def mDPut (mo mi : M Op) (me : M D) : M Fl := bnd me fun x => bnd mo fun o => bnd mi fun p w => match o.get w, p.get w with
  | some d, some k => (match dput w.sto d k x with
    | some sto' => some (.ok .nx ⟨w.env, sto'⟩)
    | none => none)
  | _, _ => none
theorem gs_dput {mo mi : M Op} {me : M D} (hu : X.A.units + 2 < cLine) (ho : GP B W X o td mo) (hi : GP B W X i ty mi) (hv : GE B W X value tv me) (hs : swapsWith value (some (.Subscript o i pos')) pos.line X.env = pure false := by rfl) :
    GS B W X (.Assign [.Subscript o i pos'] value pos) (uPut td ty tv) (mDPut mo mi me) := ⟨ps_uput hu ho.pe hi.pe hv.pe hs, fun s Dn st q => by
  refine hv.sp.run st (Tr.refl s) (wpM_bnd.mp q) fun z s1 st1 t1 es p v rv => ?_
  rw [← es]
  refine ho.sp.run st1 t1 (wpM_bnd.mp p) fun oo s2 st2 t2 es2 p2 x rx => ?_
  rw [← es2]
  refine hi.sp.run st2 (t1.trans t2) (wpM_bnd.mp p2) fun o2 s3 st3 t3 es3 p3 y ry => ?_
  split at p3
  · rename_i d k e1 e2
    split at p3
    · rename_i sto' e3
      obtain ⟨a, H', h1, h2, h3, h4⟩ := dput_ok st3 (get_ok st3 (rx.tr t3 es3) e1) (get_ok st3 ry e2) ((rv.mono t2.reg t2.pre).mono t3.reg t3.pre) e3
      refine ⟨a, H', h1, h2, ?_⟩
      rw [← es3]
      exact p3 _ h3 (h4 s ((t1.trans t2).trans t3)) rfl
    · exact p3.elim
  · exact p3.elim⟩
/-- {} -/
def mNew (z : O) : M D := fun w => some (.ok (.o w.sto.length) ⟨w.env, w.sto ++ [z]⟩)
theorem sp_new {z : O} {s : CS} {p : Addr} {ho : HO} {Q : VK} (st : Sta B s) (hp : s.H p = none) (hz : OR s.R (s.as ++ [p]) (upd s.H p ho) p z) (q : wpM (mNew z s.w) (fun a w' => ∀ s', Sta B s' → Tr s s' → s'.w = w' → s'.σ = s.σ → ∀ b, relE s s' b a → Q b s'.H) (XP B W s)) : Q (.ref p) (upd s.H p ho) := by
  have st1 := st.addH (o := ho) hp
  have t1 := (Tr.refl s).addH (o := ho) hp
  have st2 := st1.stoNew (z := z) (p := p) (st.freshR hp) (st.freshA hp) (st.freshO hp) (by show upd s.H p ho p ≠ none; rw [upd_same]; exact fun z => by cases z) hz
  refine q _ st2 (t1.stoNew hp) rfl rfl _ (.o ?_)
  rw [← st.len]
  exact List.getElem?_concat_length
theorem ge_newK : GE B W X (.Dict [] [] pos) tDNewK (mNew (.dk [])) := ⟨pe_dnewK, fun s Q st q p hp => sp_new (z := .dk []) (W := W) st hp ⟨st.freshR hp, [], upd_same, .nil⟩ q⟩
theorem ge_newT : GE B W X (.Dict [] [] pos) tDNewT (mNew (.dt [])) := ⟨pe_dnewT, fun s Q st q p hp => sp_new (z := .dt []) (W := W) st hp ⟨st.freshR hp, [], upd_same, .nil⟩ q⟩
theorem ge_newN : GE B W X (.Dict [] [] pos) tDNewN (mNew (.dn [])) := ⟨pe_dnewN, fun s Q st q p hp => sp_new (z := .dn []) (W := W) st hp ⟨st.freshR hp, [], [], upd_same, .nil, .nil⟩ q⟩
/-- list(d), d's keys ints and texts -/
def keyOut : Key → D
  | .inl i => .int i
  | .inr x => .str x
def mListK (mo : M Op) : M RV := bnd mo fun o w => match o.get w with
  | some (.o j) => (match w.sto[j]? with
    | some (.dk kvs) => some (.ok (.l (kvs.map fun kv => keyOut kv.1)) w)
    | _ => none)
  | _ => none
theorem gf_listK {mo : M Op} {p : Pos} (ho : GP B W X o td mo) (hc : X.calm = true) (hg : Gl X "list") (hm : X.mg "list" = none) (he : starEach [o] X.env = (false, eval o X.env) :: starEach [] X.env := by rfl) (hpl : (backTo pos (starEach [] X.env)).any (·.1) = false := by rfl) :
    GF B W X (.Call (.Name "list" p) [o] [] pos) (tCB rListD (tCons td tNil)) (mListK mo) := ⟨pe_callTy (call_list_dK hc) hg hm (by decide +kernel) (pa_cons ho.pe pa_nil he) (by decide) (by decide) he hpl, fun s Q st q => by
  refine ho.sp.run st (Tr.refl s) (wpM_bnd.mp q) fun oo s1 st1 t1 es p x rx => ?_
  split at p
  · rename_i j e1
    split at p
    · rename_i kvs e2
      obtain ⟨a, rfl, ha⟩ := (get_ok st1 rx e1).o
      obtain ⟨_, us, h1, h2⟩ := st1.sto j a _ ha e2
      refine ⟨a, us, rfl, h1, fun q hq => ?_⟩
      have go : ∀ {us : List (Key × V)} {kvs : List (Key × D)}, RKs s1.R s1.as us kvs → RDs s1.R s1.as (us.map fun kv => kV kv.1) (kvs.map fun kv => keyOut kv.1) := by
        intro us kvs h
        induction h with
        | nil => exact .nil
        | @cons p q ps qs hq t ih =>
          rw [List.map_cons, List.map_cons]
          refine .cons ?_ ih
          rw [hq.1]
          cases q.1 with
          | inl i => exact .int i
          | inr x => exact .str x
      exact p { s1 with H := upd s1.H q (.lst (us.map fun kv => kV kv.1)) } (st1.addH hq) (t1.addH hq) rfl es _ ⟨q, rfl, t1.dom q hq, st1.freshO hq, st1.freshR hq, st1.freshA hq, _, upd_same, go h2⟩
    · exact p.elim
  · exact p.elim⟩
end
end PD

set_option maxHeartbeats 1000000
namespace PD
open PySem PySem.Spec PyProof.Rows L2
/-! ### the script; calls of defs that keep their promise; a def of the head's facts -/
section
variable {B : Hp} {W : WX} {X : Cx} {K : PySem.W.Frag} {a b e : Expr} {es : List Expr} {ta tb te : TE} {t : TA} {pos : Pos} {sa : Addr} {ns : List Int}
theorem Rd.mono' {H H' : Hp} {a : Addr} {u : HO} (s : Same H H') (h : Rd H a u) : Rd H' a u := by
  rcases h with h | ⟨o, h⟩
  · exact .inl (s _ _ h)
  · exact .inr ⟨o, s _ _ h⟩
theorem SqL.mono' {H H' : Hp} {a : Addr} {xs : List V} (s : Same H H') (h : SqL K H a xs) : SqL K H' a xs := by
  rcases h with h | h
  · exact .inl (Rd.mono' s h)
  · exact .inr h
theorem Sta.script {s : CS} (st : Sta B s) {xs : List V} (h : SqL K B sa xs) : SqL K s.H sa xs := SqL.mono' (fun b o e => st.reg _ _ (st.base _ _ e)) h
def scLenD (sa : Addr) (n : Nat) : D → Option RV
  | .ref a => if a = sa then some (.d (.int n)) else none
  | _ => none
def scIxD (sa : Addr) (ns : List Int) : D → D → Option RV
  | .ref a, .int i => if a = sa then (atI ns i).map (fun n => RV.d (.int n)) else none
  | _, _ => none
theorem atI_map {α β : Type} (f : α → β) (xs : List α) (i : Int) : atI (xs.map f) i = (atI xs i).map f := by
  unfold atI
  rw [List.length_map]
  cases ixN xs.length i with
  | none => rfl
  | some j => exact List.getElem?_map
def mScIx (sa : Addr) (ns : List Int) (ma mb : M Op) : M RV := m2 (scIxD sa ns) ma mb
theorem gf_scIx {ma mb : M Op} (hS : SqL X.K B sa (ns.map V.int)) (ha : GP B W X a ta ma) (hb : GP B W X b tb mb) (hs : PlainIx b) : GF B W X (.Subscript a b pos) (tOp (rIxL X.K) ta tb) (mScIx sa ns ma mb) := ⟨pe_ix ix_list ha.pe hb.pe hs, fun s Q st q => by
  refine ha.sp.run st (Tr.refl s) (wpM_bnd.mp q) fun o s1 st1 t1 es p v r1 => ?_
  rw [← es]
  refine hb.sp.run st1 t1 (wpM_bnd.mp p) fun o2 s2 st2 t2 es2 p2 u r2 => ?_
  split at p2
  · rename_i d e e1 e2
    split at p2
    · rename_i z e3
      have f1 := get_ok st2 (r1.tr t2 es2) e1
      have f2 := get_ok st2 r2 e2
      unfold scIxD at e3
      split at e3
      · rename_i a' i
        split at e3
        · rename_i ea
          cases ea
          cases h : atI ns i with
          | none => rw [h] at e3; cases e3
          | some n =>
            rw [h] at e3
            cases e3
            rw [f1.ref, f2.int]
            refine ⟨_, _, i, .int n, rfl, rfl, st2.script hS, by rw [atI_map, h]; rfl, ?_⟩
            exact p2 s2 st2 (t1.trans t2) rfl (es2.trans es) _ (.int n)
        · cases e3
      · cases e3
    · exact p2.elim
  · exact p2.elim⟩
def mScLen (sa : Addr) (n : Nat) (ma : M (List Op)) : M RV := mA (f1 (scLenD sa n)) ma
theorem gf_scLen {x : Str} {p : Pos} {ma : M (List Op)} (hS : SqL X.K B sa (ns.map V.int)) (hg : Gl X x) (hm : X.mg x = none) (hv : bootBuiltins x = some (.builtin "len")) (ha : GQ B W X (e :: es) t ma)
    (hn : x ≠ "__name__" := by decide) (hdb : (x == ("__debug__" : Str)) = false := by decide) (he : starEach (e :: es) X.env = (false, eval e X.env) :: starEach es X.env := by rfl) (hpl : (backTo pos (starEach es X.env)).any (·.1) = false := by rfl) :
    GF B W X (.Call (.Name x p) (e :: es) [] pos) (tCB (fun xs H Q => ∃ x n, xs = [x] ∧ LenV X.K x H n ∧ Q (.int n) H) t) (mScLen sa ns.length ma) := ⟨pe_callB call_len hg hm hv ha.pa hn hdb he hpl, fun s Q st q => by
  refine ha.sp.run st (Tr.refl s) (wpM_bnd.mp q) fun os s1 st1 t1 es p vs r1 => ?_
  split at p
  · rename_i ds e1
    split at p
    · rename_i z e2
      have r := gets_ok st1 r1 e1
      obtain ⟨d, rfl, ef⟩ := f1_some e2
      obtain ⟨v, rfl, r9⟩ := PRs.one r
      unfold scLenD at ef
      split at ef
      · split at ef
        · rename_i ea
          cases ea
          cases ef
          rw [r9.ref]
          refine ⟨_, ns.length, rfl, .inl ⟨_, st1.script hS, by rw [List.length_map]⟩, ?_⟩
          exact p s1 st1 t1 rfl es _ (.int _)
        · cases ef
      · cases ef
    · exact p.elim
  · exact p.elim⟩
def mScSlice (sa : Addr) (ns : List Int) (m : M Op) (l h : M (Option Int)) : M RV := bnd m fun o => bnd l fun lo => bnd h fun hi w => match o.get w with
  | some (.ref a) => if a = sa then some (.ok (.l (cutD (ns.map D.int) lo hi)) w) else none
  | _ => none
theorem gf_scSlice {lo hi : Option Expr} {tl th : TO} {m : M Op} {ml mh : M (Option Int)} {p2 : Pos} (hS : SqL X.K B sa (ns.map V.int)) (he : GP B W X e te m) (hl : GO B W X lo tl ml) (hh : GO B W X hi th mh) : GF B W X (.Subscript e (.Slice lo hi none p2) pos) (tSl (rSlL X.K) te tl th) (mScSlice sa ns m ml mh) := ⟨pe_slice sl_list he.pe hl.po hh.po, fun s Q st q => by
  refine he.sp.run st (Tr.refl s) (wpM_bnd.mp q) fun o s1 st1 t1 es p v r => ?_
  rw [← es]
  refine hl.sp.run st1 t1 (wpM_bnd.mp p) fun l s2 st2 t2 es2 p2 l' r2 => ?_
  rw [show l' = l from r2, ← es2]
  refine hh.sp.run st2 (t1.trans t2) (wpM_bnd.mp p2) fun h s3 st3 t3 es3 p3 h' r3 => ?_
  rw [show h' = h from r3]
  split at p3
  · rename_i a' e1
    split at p3
    · rename_i ea
      cases ea
      rw [(get_ok st3 ((r.tr t2 es2).tr t3 es3) e1).ref]
      refine ⟨_, _, rfl, st3.script hS, fun p hp => ?_⟩
      have t4 := (t1.trans t2).trans t3
      exact p3 { s3 with H := upd s3.H p (.lst (cutV (ns.map V.int) l h)) } (st3.addH hp) (t4.addH hp) rfl (es3.trans (es2.trans es)) _ ⟨p, rfl, t4.dom p hp, st3.freshO hp, st3.freshR hp, st3.freshA hp, _, upd_same, (RDs.of_ints (R := s3.R) (as := s3.as) ns).cut l h⟩
    · exact p3.elim
  · exact p3.elim⟩
theorem un65 {k : Nat} {A : Around} (r : Room k A) : A.units + 65 < cLine := by have := r.un; omega
theorem un2 {k : Nat} {A : Around} (r : Room k A) : A.units + 2 < cLine := by have := r.un; omega
/-! the same in a comprehension's block: its K by name -/
section
variable {K' : PySem.W.Frag}
theorem kop_eq (hK : X.K = K') (hu : X.A.units + 64 < cLine) : OpR X (compareOp .Eq) (rEqD K') := hK ▸ op_eqD hu
theorem kop_ne (hK : X.K = K') (hu : X.A.units + 64 < cLine) : OpR X (compareOp .NotEq) (rNeD K') := hK ▸ op_neD hu
theorem kop_in (hK : X.K = K') (hu : X.A.units + 65 < cLine) : OpR X (compareOp .In) (rInB K') := hK ▸ op_inB hu
theorem kop_notIn (hK : X.K = K') (hu : X.A.units + 65 < cLine) : OpR X (compareOp .NotIn) (rNotInB K') := hK ▸ op_notInB hu
theorem kcr_len (hK : X.K = K') : CallR X (.builtin "len") (fun xs H Q => ∃ x n, xs = [x] ∧ LenV K' x H n ∧ Q (.int n) H) := hK ▸ call_len
theorem kcr_sum (hK : X.K = K') (hc : X.calm = true) : CallR X (.builtin "sum") (rSum K') := hK ▸ cr_sum hc
theorem kcr_any (hK : X.K = K') (hc : X.calm = true) : CallR X (.builtin "any") (rAny K') := hK ▸ cr_any hc
theorem kcr_all (hK : X.K = K') (hc : X.calm = true) : CallR X (.builtin "all") (rAll K') := hK ▸ cr_all hc
theorem kcr_max (hK : X.K = K') (hc : X.calm = true) : CallR X (.builtin "max") (rMax K') := hK ▸ cr_max hc
theorem kcr_min (hK : X.K = K') (hc : X.calm = true) : CallR X (.builtin "min") (rMin K') := hK ▸ cr_min hc
theorem kcr_sorted (hK : X.K = K') : CallR X (.builtin "sorted") (rSortedI K') := hK ▸ cr_sortedI
theorem kcr_list (hK : X.K = K') : CallR X (.type "list") (fun xs H Q => ∃ p ys, xs = [V.ref p] ∧ (SqL K' H p ys ∨ SqT K' H p ys) ∧ ∀ l, H l = none → Q (.ref l) (upd H l (.lst ys))) := hK ▸ call_list_of
theorem kcr_tuple (hK : X.K = K') : CallR X (.type "tuple") (fun xs H Q => ∃ p ys, xs = [V.ref p] ∧ ((SqL K' H p ys ∧ ∀ l, H l = none → Q (.ref l) (upd H l (.tup ys))) ∨ (SqT K' H p ys ∧ Q (.ref p) H))) := hK ▸ call_tuple_of
theorem gf_ixK {ma mb : M Op} (hK : X.K = K') (ha : GP B W X a ta ma) (hb : GP B W X b tb mb) (hs : PlainIx b) : GF B W X (.Subscript a b pos) (tOp (rIxLT K') ta tb) (m2 ixD ma mb) := hK ▸ gf_ix ha hb hs
theorem gf_sliceK {lo hi : Option Expr} {tl th : TO} {m : M Op} {ml mh : M (Option Int)} {p2 : Pos} (hK : X.K = K') (he : GP B W X e te m) (hl : GO B W X lo tl ml) (hh : GO B W X hi th mh) : GF B W X (.Subscript e (.Slice lo hi none p2) pos) (tSl (rSlL K') te tl th) (mSlice m ml mh) := hK ▸ gf_slice he hl hh
theorem gt_truK {ma : M Op} (hK : X.K = K') (ha : GP B W X a ta ma) (he : ∀ whole, isTrue a X.env whole = (do let v ← whole; standAt a.pos; holding [v] (truthy v)) := by intro _; rfl) : GT B W X a (fun σ H Q => ta σ H fun x H' => ∃ k, TruV K' x H' k ∧ Q k H') (mTru ma) := hK ▸ gt_tru ha he
theorem gi_listK' {tg : Expr} {me : M D} (hK : X.K = K') (h : GE B W X e te me) : GI B W X tg e (iList K' te) (iLst me) := hK ▸ gi_list h
theorem gf_isiK {x y : Str} {p p' : Pos} {ma : M Op} (T : Ty) (hK : X.K = K') (hg : Gl X x) (hm : X.mg x = none) (hv : bootBuiltins x = some (.builtin "isinstance")) (hg' : Gl X y) (hm' : X.mg y = none) (hv' : bootBuiltins y = some (.type T.name)) (ha : GP B W X a ta ma)
    (hn : x ≠ "__name__" := by decide) (hdb : (x == ("__debug__" : Str)) = false := by decide) (hn' : y ≠ "__name__" := by decide) (hdb' : (y == ("__debug__" : Str)) = false := by decide)
    (hs1 : starEach [a, .Name y p'] X.env = (false, eval a X.env) :: starEach [.Name y p'] X.env := by rfl) (hs2 : starEach [.Name y p'] X.env = (false, eval (.Name y p') X.env) :: starEach [] X.env := by rfl) (hpl : (backTo pos (starEach [.Name y p'] X.env)).any (·.1) = false := by rfl) :
    GF B W X (.Call (.Name x p) [a, .Name y p'] [] pos) (tCB (rIsi K') (tCons ta (tCons (tC (.ty T.name)) tNil))) (mIsi T ma) := hK ▸ gf_isi T hg hm hv hg' hm' hv' ha hn hdb hn' hdb' hs1 hs2 hpl
end
/-! calls -/
theorem ge_callH {k n : Nat} {f : Addr} {m : Fn} {x : Str} {p : Pos} {ma : M (List D)} (F : HeldF B X.prog X.w X.K X.mg X.base k f n m) (hr : Room k X.A) (hg : Gl X x) (hm : X.mg x = some (.ref f))
    (ha : GA B W X (e :: es) t ma) (hdb : (x == ("__debug__" : Str)) = false := by decide) (he : starEach (e :: es) X.env = (false, eval e X.env) :: starEach es X.env := by rfl) (hpl : (backTo pos (starEach es X.env)).any (·.1) = false := by rfl) :
    GE B W X (.Call (.Name x p) (e :: es) [] pos) (tCall (spOf B n m) [] E0 t) (mCall n m ma) := by
  obtain ⟨fd, ps, h1, h2, h3⟩ := F.ex
  exact ge_call (CX := CX0) h1 hr hg hm h2 h3 ha hdb he hpl
theorem ge_callH0 {k n : Nat} {f : Addr} {m : Fn} {x : Str} {p : Pos} (F : HeldF B X.prog X.w X.K X.mg X.base k f n m) (hr : Room k X.A) (hg : Gl X x) (hm : X.mg x = some (.ref f))
    (hdb : (x == ("__debug__" : Str)) = false := by decide) : GE B W X (.Call (.Name x p) [] [] pos) (tCall (spOf B n m) [] E0 tNil) (mCall n m aNil) := by
  obtain ⟨fd, ps, h1, h2, h3⟩ := F.ex
  exact ge_call0 h1 hr hg hm h2 h3 hdb
theorem HeldF.mono {P : Program} {w : World} {mg : Str → Option Value} {base : Heap} {k k' : Nat} {f : Addr} {n : Nat} {m : Fn} (F : HeldF B P w K mg base k f n m) (h : k ≤ k') : HeldF B P w K mg base k' f n m := by
  obtain ⟨fd, ps, h1, h2, h3⟩ := F.ex
  exact ⟨fd, ps, h1.mono h, h2, h3⟩
/-- one def of several that a local name may hold -/
def tab1 (f : Addr) (n : Nat) (m : Fn) : FTab := fun g => if g = f then some (n, m) else none
theorem tab1_ok {P : Program} {w : World} {mg : Str → Option Value} {base : Heap} {k : Nat} {f : Addr} {n : Nat} {m : Fn} (F : HeldF B P w K mg base k f n m) : ∀ g n' m', tab1 f n m g = some (n', m') → HeldF B P w K mg base k g n' m' := by
  intro g n' m' h
  unfold tab1 at h
  split at h
  · rename_i e
    cases e
    cases h
    exact F
  · cases h
theorem fn_okD {P : Program} {w : World} {mg : Str → Option Value} {base : Heap} {x qual : Str} {pa : Arguments} {bo : List Stmt} {sc : Scope} {f : Addr} {fd : FuncData} {N ps : List Str} {k n : Nat} {m : M Fl} (F : FunD K x qual pa bo sc [] [] f fd) (S : FnScope N ps sc) (hn : ps.length = n) (hN : n ≤ N.length)
    (hb : ∀ (cdv : Value) (A : Around) (outer : List Env) (s : Shared) (H : Hp) (E : XK), Room k (A.deeper (envOfC qual sc s.heap.objs.size f cdv)) →
      ∃ t, GSs B W0 (cxOf CX0 P w K mg base N qual sc f cdv A outer s H E).nox bo t m) : FnOk P w K mg base CX0 (k + 1) f fd ps (spOf B n (mFn N.length n m)) := by
  refine F.ok S (fun vs H Q E h => by rw [h.1, hn]) fun cdv A outer s H vs Q E hr h => ?_
  obtain ⟨t, hG⟩ := hb cdv A outer s H E hr
  obtain ⟨hl, s1, rfl, eσ, ee, st1, ds, r, hw⟩ := h
  refine ⟨t, hG.ps.nox, ?_⟩
  unfold mFn at hw
  have hd : ds.length = n := by rw [← r.length]; exact hl
  rw [if_pos hd] at hw
  obtain ⟨st2, t2⟩ := st1.enter r hd hN
  have bs : bareS s1 = s1 := by
    obtain ⟨R, as, ⟨en, sto⟩, σ, H⟩ := s1
    cases eσ
    cases ee
    rfl
  rw [bs] at t2
  refine hG.sp _ _ st2 ?_
  cases hm : m ⟨ds.map SV.d ++ List.replicate (N.length - n) SV.un, s1.w.sto⟩ with
  | none => rw [hm] at hw; exact hw.elim
  | some z => cases z with
    | ex x w' => rw [hm] at hw; exact hw.elim
    | ok fl w' =>
      rw [hm] at hw
      cases fl with
      | nx =>
        intro s' st' t' ew
        exact hw (bareS s') st'.bare (t2.trans t').bare (by rw [← ew]; rfl) rfl _ .non
      | ret d =>
        intro s' st' t' ew v rv
        exact hw (bareS s') st'.bare (t2.trans t').bare (by rw [← ew]; rfl) rfl v rv
      | brk => exact hw.elim
      | cnt => exact hw.elim
theorem held {P : Program} {w : World} {mg : Str → Option Value} {base : Heap} {x qual : Str} {pa : Arguments} {bo : List Stmt} {sc : Scope} {f : Addr} {fd : FuncData} {N ps : List Str} {k n : Nat} {m : M Fl} (F : FunD K x qual pa bo sc [] [] f fd) (S : FnScope N ps sc) (hn : ps.length = n) (hN : n ≤ N.length)
    (hbi : ∀ (kV doc pm : Value) (an : Option Addr) (cdv ct : Value) (us : List Value), us.length = ps.length → bindArgs (PySem.W.fnOf x qual pa bo sc .none kV doc pm an cdv ct) ⟨us, []⟩ = pure (ps.zip us))
    (hb : ∀ (cdv : Value) (A : Around) (outer : List Env) (s : Shared) (H : Hp) (E : XK), Room k (A.deeper (envOfC qual sc s.heap.objs.size f cdv)) →
      ∃ t, GSs B W0 (cxOf CX0 P w K mg base N qual sc f cdv A outer s H E).nox bo t m) : HeldF B P w K mg base (k + 1) f n (mFn N.length n m) :=
  ⟨fd, ps, fn_okD F S hn hN hb, F.kp, F.bindsN hbi⟩
theorem held_none {P : Program} {w : World} {mg : Str → Option Value} {base : Heap} {x qual : Str} {pa : Arguments} {bo : List Stmt} {sc : Scope} {f : Addr} {fd : FuncData} {ps : List Str} {k n : Nat} (F : FunD K x qual pa bo sc [] [] f fd) (hn : ps.length = n)
    (hbi : ∀ (kV doc pm : Value) (an : Option Addr) (cdv ct : Value) (us : List Value), us.length = ps.length → bindArgs (PySem.W.fnOf x qual pa bo sc .none kV doc pm an cdv ct) ⟨us, []⟩ = pure (ps.zip us)) : HeldF B P w K mg base k f n (fun _ _ => none) :=
  ⟨fd, ps, fn_none hn, F.kp, F.bindsN hbi⟩
end
end PD

set_option maxHeartbeats 1000000
namespace PD
open PySem PySem.Spec PyProof.Rows L2
/-! ### meanings read by weakest preconditions (no exceptions) -/
def wp {α : Type} (m : M α) (w : Wd) (Q : α → Wd → Prop) : Prop := match m w with
  | some (.ok a w') => Q a w'
  | _ => False
section
variable {α β : Type} {w : Wd}
theorem wp_ok {m : M α} {Q : α → Wd → Prop} (h : wp m w Q) : ∃ a w', m w = some (.ok a w') ∧ Q a w' := by
  unfold wp at h
  split at h
  · rename_i a w' e
    exact ⟨a, w', e, h⟩
  · exact h.elim
theorem wp_of {m : M α} {Q : α → Wd → Prop} {a : α} {w' : Wd} (e : m w = some (.ok a w')) (h : Q a w') : wp m w Q := by
  unfold wp; rw [e]; exact h
theorem wp_mono {m : M α} {Q Q' : α → Wd → Prop} (h : wp m w Q) (hq : ∀ a w', Q a w' → Q' a w') : wp m w Q' := by
  obtain ⟨a, w', e, q⟩ := wp_ok h
  exact wp_of e (hq _ _ q)
theorem wp_bnd {m : M α} {f : α → M β} {Q : β → Wd → Prop} : wp (bnd m f) w Q = wp m w fun a w1 => wp (f a) w1 Q := by
  unfold wp bnd
  cases m w with
  | none => rfl
  | some r => cases r <;> rfl
theorem wp_eta {m : M α} {Q : α → Wd → Prop} : wp m w Q = (match m w with | some (.ok a w') => Q a w' | _ => False) := rfl
theorem wp_pure {a : α} {Q : α → Wd → Prop} : wp (mpure a) w Q = Q a w := rfl
theorem wp_mVar {i : Nat} {Q : D → Wd → Prop} : wp (mVar i) w Q = (match w.env[i]? with
  | some (.d x) => Q x w
  | some (.own xs) => Q (.lst xs) (setW w i (.d (.lst xs)))
  | _ => False) := by
  unfold wp mVar
  cases w.env[i]? with
  | none => rfl
  | some x => cases x <;> rfl
theorem wp_oVar {i : Nat} {Q : Op → Wd → Prop} : wp (oVar i) w Q = (match w.env[i]? with
  | some (.d _) => Q (.s i) w
  | some (.own _) => Q (.s i) w
  | _ => False) := by
  unfold wp oVar
  cases w.env[i]? with
  | none => rfl
  | some x => cases x <;> rfl
theorem wp_oE {m : M D} {Q : Op → Wd → Prop} : wp (oE m) w Q = wp m w fun d w1 => Q (.v d) w1 := by unfold oE; rw [wp_bnd]; rfl
theorem wp_mFrz {m : M RV} {Q : D → Wd → Prop} : wp (mFrz m) w Q = wp m w fun d w1 => Q d.toD w1 := by unfold mFrz; rw [wp_bnd]; rfl
theorem wp_mRV {m : M D} {Q : RV → Wd → Prop} : wp (mRV m) w Q = wp m w fun d w1 => Q (.d d) w1 := by unfold mRV; rw [wp_bnd]; rfl
theorem wp_m1 {f : D → Option RV} {ma : M Op} {Q : RV → Wd → Prop} : wp (m1 f ma) w Q = wp ma w fun o w1 => (match o.get w1 with
  | some d => (match f d with
    | some z => Q z w1
    | none => False)
  | none => False) := by
  unfold m1; rw [wp_bnd]
  congr 1; funext o w1
  unfold wp
  try dsimp only
  cases o.get w1 with
  | none => rfl
  | some d => dsimp only; cases f d <;> rfl
theorem wp_m2 {f : D → D → Option RV} {ma mb : M Op} {Q : RV → Wd → Prop} : wp (m2 f ma mb) w Q = wp ma w fun o w1 => wp mb w1 fun p w2 => (match o.get w2, p.get w2 with
  | some d, some e => (match f d e with
    | some z => Q z w2
    | none => False)
  | _, _ => False) := by
  unfold m2; rw [wp_bnd]
  congr 1; funext o w1
  rw [wp_bnd]
  congr 1; funext p w2
  unfold wp
  try dsimp only
  cases o.get w2 with
  | none => rfl
  | some d => cases p.get w2 with
    | none => rfl
    | some e => dsimp only; cases f d e <;> rfl
theorem wp_mB {m : M RV} {Q : Bool → Wd → Prop} : wp (mB m) w Q = wp m w fun z w1 => (match asB z with
  | some b => Q b w1
  | none => False) := by
  unfold mB; rw [wp_bnd]
  congr 1; funext z w1
  unfold wp
  try dsimp only
  cases asB z <;> rfl
theorem wp_mChain {f g : D → D → Option RV} {ma mb mc : M Op} {Q : RV → Wd → Prop} : wp (mChain f g ma mb mc) w Q = wp ma w fun o w1 => wp mb w1 fun p w2 => (match o.get w2, p.get w2 with
  | some d, some e => (match f d e with
    | some z => (match asB z with
      | some true => wp mc w2 fun q w3 => (match p.get w3, q.get w3 with
        | some d2, some e2 => (match g d2 e2 with
          | some z => Q z w3
          | none => False)
        | _, _ => False)
      | some false => Q (.d (.bl false)) w2
      | none => False)
    | none => False)
  | _, _ => False) := by
  unfold mChain; rw [wp_bnd]
  congr 1; funext o w1
  rw [wp_bnd]
  congr 1; funext p w2
  rw [wp_eta]
  try dsimp only
  cases o.get w2 with
  | none => rfl
  | some d => cases p.get w2 with
    | none => rfl
    | some e =>
      dsimp only
      cases f d e with
      | none => rfl
      | some z =>
        dsimp only
        cases asB z with
        | none => rfl
        | some b => cases b with
          | false => rfl
          | true =>
            dsimp only
            show wp (bnd mc _) w2 Q = _
            rw [wp_bnd]
            congr 1; funext q w3
            unfold wp
            try dsimp only
            cases p.get w3 with
            | none => rfl
            | some d2 => cases q.get w3 with
              | none => rfl
              | some e2 => dsimp only; cases g d2 e2 <;> rfl
theorem wp_mAnd {m n : M Bool} {Q : Bool → Wd → Prop} : wp (mAnd m n) w Q = wp m w fun b w1 => if b = true then wp n w1 Q else Q false w1 := by
  unfold mAnd; rw [wp_bnd]; congr 1; funext b w1; cases b <;> rfl
theorem wp_mOr {m n : M Bool} {Q : Bool → Wd → Prop} : wp (mOr m n) w Q = wp m w fun b w1 => if b = true then Q true w1 else wp n w1 Q := by
  unfold mOr; rw [wp_bnd]; congr 1; funext b w1; cases b <;> rfl
theorem wp_mNot {m : M Bool} {Q : Bool → Wd → Prop} : wp (mNot m) w Q = wp m w fun b w1 => Q (!b) w1 := by unfold mNot; rw [wp_bnd]; rfl
theorem wp_mTru {m : M Op} {Q : Bool → Wd → Prop} : wp (mTru m) w Q = wp m w fun o w1 => (match o.get w1 with
  | some d => (match truD w1.sto d with
    | some b => Q b w1
    | none => False)
  | none => False) := by
  unfold mTru; rw [wp_bnd]; congr 1; funext o w1
  unfold wp
  try dsimp only
  cases o.get w1 with
  | none => rfl
  | some d => dsimp only; cases truD w1.sto d <;> rfl
theorem wp_mIf {c : M Bool} {m n : M α} {Q : α → Wd → Prop} : wp (mIf c m n) w Q = wp c w fun b w1 => if b = true then wp m w1 Q else wp n w1 Q := by
  unfold mIf; rw [wp_bnd]; congr 1; funext b w1; cases b <;> rfl
theorem wp_mAndV {ma mb : M D} {Q : D → Wd → Prop} : wp (mAndV ma mb) w Q = wp ma w fun d w1 => (match truD w1.sto (rs w1.sto d) with
  | some true => wp mb w1 Q
  | some false => Q d w1
  | none => False) := by
  unfold mAndV; rw [wp_bnd]; congr 1; funext d w1
  rw [wp_eta]
  try dsimp only
  cases truD w1.sto (rs w1.sto d) with
  | none => rfl
  | some b => cases b <;> rfl
theorem wp_mOrV {ma mb : M D} {Q : D → Wd → Prop} : wp (mOrV ma mb) w Q = wp ma w fun d w1 => (match truD w1.sto (rs w1.sto d) with
  | some true => Q d w1
  | some false => wp mb w1 Q
  | none => False) := by
  unfold mOrV; rw [wp_bnd]; congr 1; funext d w1
  rw [wp_eta]
  try dsimp only
  cases truD w1.sto (rs w1.sto d) with
  | none => rfl
  | some b => cases b <;> rfl
theorem wp_mNotV {ma : M D} {Q : D → Wd → Prop} : wp (mNotV ma) w Q = wp ma w fun d w1 => (match truD w1.sto (rs w1.sto d) with
  | some b => Q (.bl (!b)) w1
  | none => False) := by
  unfold mNotV; rw [wp_bnd]; congr 1; funext d w1
  unfold wp
  try dsimp only
  cases truD w1.sto (rs w1.sto d) <;> rfl
theorem wp_aNil {Q : List D → Wd → Prop} : wp aNil w Q = Q [] w := rfl
theorem wp_aCons {m : M D} {r : M (List D)} {Q : List D → Wd → Prop} : wp (aCons m r) w Q = wp m w fun d w1 => wp r w1 fun ds w2 => Q (d :: ds) w2 := by
  unfold aCons; rw [wp_bnd]; congr 1; funext d w1; rw [wp_bnd]; rfl
theorem wp_qNil {Q : List Op → Wd → Prop} : wp qNil w Q = Q [] w := rfl
theorem wp_qCons {m : M Op} {r : M (List Op)} {Q : List Op → Wd → Prop} : wp (qCons m r) w Q = wp m w fun d w1 => wp r w1 fun ds w2 => Q (d :: ds) w2 := by
  unfold qCons; rw [wp_bnd]; congr 1; funext d w1; rw [wp_bnd]; rfl
theorem wp_mA {f : List D → Option RV} {ma : M (List Op)} {Q : RV → Wd → Prop} : wp (mA f ma) w Q = wp ma w fun os w1 => (match gets w1 os with
  | some ds => (match f ds with
    | some z => Q z w1
    | none => False)
  | none => False) := by
  unfold mA; rw [wp_bnd]; congr 1; funext os w1
  unfold wp
  try dsimp only
  cases gets w1 os with
  | none => rfl
  | some d => dsimp only; cases f d <;> rfl
theorem wp_mTup {m : M (List D)} {Q : D → Wd → Prop} : wp (mTup m) w Q = wp m w fun ds w1 => ds.length ≤ 16777216 ∧ Q (.tup ds) w1 := by
  unfold mTup; rw [wp_bnd]; congr 1; funext ds w1
  unfold wp
  try dsimp only
  by_cases h : ds.length ≤ 16777216
  · rw [if_pos h]; exact propext ⟨fun q => ⟨h, q⟩, fun q => q.2⟩
  · rw [if_neg h]; exact propext ⟨fun q => q.elim, fun q => h q.1⟩
theorem wp_mLst {m : M (List D)} {Q : RV → Wd → Prop} : wp (mLst m) w Q = wp m w fun ds w1 => ds.length ≤ 16777216 ∧ Q (.l ds) w1 := by
  unfold mLst; rw [wp_bnd]; congr 1; funext ds w1
  unfold wp
  try dsimp only
  by_cases h : ds.length ≤ 16777216
  · rw [if_pos h]; exact propext ⟨fun q => ⟨h, q⟩, fun q => q.2⟩
  · rw [if_neg h]; exact propext ⟨fun q => q.elim, fun q => h q.1⟩
theorem wp_mIsi {T : Ty} {ma : M Op} {Q : RV → Wd → Prop} : wp (mIsi T ma) w Q = wp ma w fun o w1 => (match o.get w1 with
  | some d => (match isiD T d with
    | some b => Q (.d (.bl b)) w1
    | none => False)
  | none => False) := by
  unfold mIsi; rw [wp_bnd]; congr 1; funext o w1
  unfold wp
  try dsimp only
  cases o.get w1 with
  | none => rfl
  | some d => dsimp only; cases isiD T d <;> rfl
theorem wp_mPart {m : M Op} {Q : Option Int → Wd → Prop} : wp (mPart m) w Q = wp m w fun o w1 => (match o.get w1 with
  | some (.int i) => Q (some i) w1
  | _ => False) := by
  unfold mPart; rw [wp_bnd]; congr 1; funext o w1
  unfold wp
  try dsimp only
  cases o.get w1 with
  | none => rfl
  | some d => cases d <;> rfl
theorem wp_mSlice {m : M Op} {l h : M (Option Int)} {Q : RV → Wd → Prop} : wp (mSlice m l h) w Q = wp m w fun o w1 => wp l w1 fun lo w2 => wp h w2 fun hi w3 => (match o.get w3 with
  | some (.lst xs) => Q (.l (cutD xs lo hi)) w3
  | _ => False) := by
  unfold mSlice; rw [wp_bnd]; congr 1; funext o w1
  rw [wp_bnd]; congr 1; funext lo w2
  rw [wp_bnd]; congr 1; funext hi w3
  unfold wp
  try dsimp only
  cases o.get w3 with
  | none => rfl
  | some d => cases d <;> rfl
theorem wp_mRg1 {m : M Op} {Q : Int × Int → Wd → Prop} : wp (mRg1 m) w Q = wp m w fun o w1 => (match o.get w1 with
  | some (.int i) => Q (0, i) w1
  | _ => False) := by
  unfold mRg1; rw [wp_bnd]; congr 1; funext o w1
  unfold wp
  try dsimp only
  cases o.get w1 with
  | none => rfl
  | some d => cases d <;> rfl
theorem wp_mRg2 {m n : M Op} {Q : Int × Int → Wd → Prop} : wp (mRg2 m n) w Q = wp m w fun o w1 => wp n w1 fun p w2 => (match o.get w2, p.get w2 with
  | some (.int i), some (.int j) => Q (i, j) w2
  | _, _ => False) := by
  unfold mRg2; rw [wp_bnd]; congr 1; funext o w1
  rw [wp_bnd]; congr 1; funext p w2
  unfold wp
  try dsimp only
  cases o.get w2 with
  | none => rfl
  | some d => cases p.get w2 with
    | none => cases d <;> rfl
    | some e => cases d <;> first | rfl | (cases e <;> rfl)
theorem wp_mRgL {m : M (Int × Int)} {Q : RV → Wd → Prop} : wp (mRgL m) w Q = wp m w fun ab w1 => rgOk ab.1 ab.2 = true ∧ Q (.l (rgD ab.1 ab.2)) w1 := by
  unfold mRgL; rw [wp_bnd]; congr 1; funext ab w1
  unfold wp
  try dsimp only
  by_cases h : rgOk ab.1 ab.2 = true
  · rw [if_pos h]; exact propext ⟨fun q => ⟨h, q⟩, fun q => q.2⟩
  · rw [if_neg h]; exact propext ⟨fun q => q.elim, fun q => h q.1⟩
theorem wp_iRg {m : M (Int × Int)} {Q : List D → Wd → Prop} : wp (iRg m) w Q = wp m w fun ab w1 => rgOk2 ab.1 ab.2 = true ∧ Q (rgD ab.1 ab.2) w1 := by
  unfold iRg; rw [wp_bnd]; congr 1; funext ab w1
  unfold wp
  try dsimp only
  by_cases h : rgOk2 ab.1 ab.2 = true
  · rw [if_pos h]; exact propext ⟨fun q => ⟨h, q⟩, fun q => q.2⟩
  · rw [if_neg h]; exact propext ⟨fun q => q.elim, fun q => h q.1⟩
theorem wp_iLst {m : M D} {Q : List D → Wd → Prop} : wp (iLst m) w Q = wp m w fun d w1 => (match d with
  | .lst ds => Q ds w1
  | _ => False) := by
  unfold iLst; rw [wp_bnd]; congr 1; funext d w1
  unfold wp
  try dsimp only
  cases d <;> rfl
theorem wp_mApp {mo : M Op} {me : M D} {Q : D → Wd → Prop} : wp (mApp mo me) w Q = wp mo w fun o w1 => (match listAt o w1 with
  | none => False
  | some _ => wp me w1 fun d w2 => (match listAt o w2 with
    | some xs => xs.length < 16777216 ∧ Q .non (putAtL o w2 (xs ++ [d]))
    | none => False)) := by
  unfold mApp; rw [wp_bnd]; congr 1; funext o w1
  rw [wp_eta]
  try dsimp only
  cases listAt o w1 with
  | none => rfl
  | some xs =>
    show wp (bnd me _) w1 Q = _
    rw [wp_bnd]
    congr 1; funext d w2
    unfold wp
    try dsimp only
    cases listAt o w2 with
    | none => rfl
    | some ys =>
      dsimp only
      by_cases h : ys.length < 16777216
      · rw [if_pos h]; exact propext ⟨fun q => ⟨h, q⟩, fun q => q.2⟩
      · rw [if_neg h]; exact propext ⟨fun q => q.elim, fun q => h q.1⟩
theorem wp_mSeq {m n : M Fl} {Q : Fl → Wd → Prop} : wp (mSeq m n) w Q = wp m w fun fl w1 => (match fl with
  | .nx => wp n w1 Q
  | .ret d => Q (.ret d) w1
  | .brk => Q .brk w1
  | .cnt => Q .cnt w1) := by
  unfold mSeq; rw [wp_bnd]; congr 1; funext fl w1; cases fl <;> rfl
theorem wp_mExpr {m : M D} {Q : Fl → Wd → Prop} : wp (mExpr m) w Q = wp m w fun _ w1 => Q .nx w1 := by unfold mExpr; rw [wp_bnd]; rfl
theorem wp_mRet {m : M D} {Q : Fl → Wd → Prop} : wp (mRet m) w Q = wp m w fun d w1 => Q (.ret d) w1 := by unfold mRet; rw [wp_bnd]; rfl
theorem wp_mSet {i : Nat} {m : M RV} {Q : Fl → Wd → Prop} : wp (mSet i m) w Q = wp m w fun z w1 => Q .nx (stV i z w1) := by unfold mSet; rw [wp_bnd]; rfl
theorem wp_mAsg {m : M D} {g : D → M Unit} {Q : Fl → Wd → Prop} : wp (mAsg m g) w Q = wp m w fun d w1 => wp (g d) w1 fun _ w2 => Q .nx w2 := by
  unfold mAsg; rw [wp_bnd]; congr 1; funext d w1; rw [wp_bnd]; rfl
theorem wp_mgName {i : Nat} {d : D} {Q : Unit → Wd → Prop} : wp (mgName i d) w Q = Q () (setW w i (.d d)) := rfl
theorem wp_mgNil {Q : Unit → Wd → Prop} : wp (mgNil []) w Q = Q () w := rfl
theorem wp_mgCons {m : D → M Unit} {r : List D → M Unit} {d : D} {ds : List D} {Q : Unit → Wd → Prop} : wp (mgCons m r (d :: ds)) w Q = wp (m d) w fun _ w1 => wp (r ds) w1 Q := by
  show wp (bnd (m d) _) w Q = _; rw [wp_bnd]
theorem wp_mgTup {n : Nat} {m : List D → M Unit} {ds : List D} {Q : Unit → Wd → Prop} : wp (mgTup n m (.tup ds)) w Q = (ds.length = n ∧ wp (m ds) w Q) := by
  show wp (if ds.length = n then m ds else fun _ => none) w Q = _
  by_cases h : ds.length = n
  · rw [if_pos h]; exact propext ⟨fun q => ⟨h, q⟩, fun q => q.2⟩
  · rw [if_neg h]; exact propext ⟨fun q => q.elim, fun q => h q.1⟩
theorem wp_mgSub {mo mi : M Op} {d : D} {Q : Unit → Wd → Prop} : wp (mgSub mo mi d) w Q = wp mo w fun o w1 => wp mi w1 fun p w2 => (match listAt o w2, p.get w2 with
  | some xs, some (.int k) => (match ixN xs.length k with
    | some j => Q () (putAtL o w2 (xs.set j d))
    | none => False)
  | _, _ => False) := by
  unfold mgSub; rw [wp_bnd]; congr 1; funext o w1
  rw [wp_bnd]; congr 1; funext p w2
  unfold wp
  try dsimp only
  cases listAt o w2 with
  | none => rfl
  | some xs => cases p.get w2 with
    | none => rfl
    | some e => cases e with
      | int k => dsimp only; cases ixN xs.length k <;> rfl
      | _ => rfl
theorem wp_mAug {i : Nat} {g : Int → Int → Int} {me : M Op} {Q : Fl → Wd → Prop} : wp (mAug i g me) w Q = (match w.env[i]? with
  | some (.d (.int x)) => wp me w fun o w' => (match o.get w' with
    | some (.int y) => Q .nx (setW w' i (.d (.int (g x y))))
    | _ => False)
  | _ => False) := by
  rw [wp_eta]
  unfold mAug
  try dsimp only
  cases w.env[i]? with
  | none => rfl
  | some x => cases x with
    | un => rfl
    | own _ => rfl
    | d y => cases y with
      | int y =>
        show wp (bnd me _) w Q = _
        rw [wp_bnd]; congr 1; funext o w'
        unfold wp
        try dsimp only
        cases o.get w' with
        | none => rfl
        | some z => cases z <;> rfl
      | _ => rfl
theorem wp_mAugS {g : Int → Int → Int} {mo mi me : M Op} {Q : Fl → Wd → Prop} : wp (mAugS g mo mi me) w Q = wp mo w fun o w1 => wp mi w1 fun p w2 => (match listAt o w2, p.get w2 with
  | some xs, some (.int k) => (match atI xs k with
    | some (.int x) => wp me w2 fun r w' => (match listAt o w', r.get w' with
      | some ys, some (.int y) => (match ixN ys.length k with
        | some j => Q .nx (putAtL o w' (ys.set j (.int (g x y))))
        | none => False)
      | _, _ => False)
    | _ => False)
  | _, _ => False) := by
  unfold mAugS; rw [wp_bnd]; congr 1; funext o w1
  rw [wp_bnd]; congr 1; funext p w2
  rw [wp_eta]
  try dsimp only
  cases listAt o w2 with
  | none => rfl
  | some xs => cases p.get w2 with
    | none => rfl
    | some e => cases e with
      | int k =>
        dsimp only
        cases atI xs k with
        | none => rfl
        | some y => cases y with
          | int x =>
            show wp (bnd me _) w2 Q = _
            rw [wp_bnd]; congr 1; funext r w'
            unfold wp
            try dsimp only
            cases listAt o w' with
            | none => rfl
            | some ys => cases r.get w' with
              | none => rfl
              | some z => cases z with
                | int y => dsimp only; cases ixN ys.length k <;> rfl
                | _ => rfl
          | _ => rfl
      | _ => rfl
theorem wp_mFor {mi : M (List D)} {mg : D → M Unit} {mb : M Fl} {Q : Fl → Wd → Prop} : wp (mFor mi mg mb) w Q = wp mi w fun ds w1 => wp (forD (fun d => bnd (mg d) fun _ => mb) ds) w1 Q := by unfold mFor; rw [wp_bnd]
/-- a for loop by an invariant -/
theorem wp_forI {f : D → M Fl} (I : Nat → Wd → Prop) {Q : Fl → Wd → Prop} : ∀ {ds : List D} {w : Wd} (k : Nat), I k w →
    (∀ i d w, ds[i]? = some d → I (k + i) w → wp (f d) w fun fl w' => match fl with
      | .nx => I (k + i + 1) w'
      | .cnt => I (k + i + 1) w'
      | .brk => Q .nx w'
      | .ret r => Q (.ret r) w') → (∀ w, I (k + ds.length) w → Q .nx w) → wp (forD f ds) w Q
  | [], w, k, h0, _, hq => by
    show Q .nx w
    exact hq w h0
  | d :: ds, w, k, h0, hs, hq => by
    obtain ⟨fl, w', e, h⟩ := wp_ok (hs 0 d w rfl h0)
    have rest : I (k + 1) w' → wp (forD f ds) w' Q := fun h1 => wp_forI I (k + 1) h1 (fun i d w hd hi => by
      have h2 := hs (i + 1) d w hd (by rw [show k + (i + 1) = k + 1 + i by omega]; exact hi)
      rw [show k + (i + 1) + 1 = k + 1 + i + 1 by omega] at h2
      exact h2) (fun w hw => hq w (by rw [List.length_cons, show k + (ds.length + 1) = k + 1 + ds.length by omega]; exact hw))
    unfold wp forD
    skip
    rw [e]
    cases fl with
    | nx => exact rest h
    | cnt => exact rest h
    | brk => exact h
    | ret r => exact h
theorem wp_for {f : D → M Fl} {ds : List D} {Q : Fl → Wd → Prop} (I : Nat → Wd → Prop) (h0 : I 0 w)
    (hs : ∀ i d w, ds[i]? = some d → I i w → wp (f d) w fun fl w' => match fl with
      | .nx => I (i + 1) w'
      | .cnt => I (i + 1) w'
      | .brk => Q .nx w'
      | .ret r => Q (.ret r) w') (hq : ∀ w, I ds.length w → Q .nx w) : wp (forD f ds) w Q :=
  wp_forI I 0 h0 (fun i d w hd hi => by
    rw [Nat.zero_add] at hi ⊢
    exact hs i d w hd hi) fun w hw => hq w (by rw [Nat.zero_add] at hw; exact hw)
theorem wp_mLc {vs : List Nat} {mi : M (List D)} {mg : D → M Unit} {mt : M Bool} {me : M D} {Q : RV → Wd → Prop} : wp (mLc vs mi mg mt me) w Q = wp mi w fun ds w1 => wp (lcD vs (fun d => bnd (mg d) fun _ => mt) me ds []) w1 fun acc w2 => Q (.l acc) ⟨backE w1.env w2.env vs, w2.sto⟩ := by
  unfold mLc; rw [wp_bnd]; congr 1; funext ds w1
  unfold wp
  dsimp only
  cases lcD vs (fun d => bnd (mg d) fun _ => mt) me ds [] w1 with
  | none => rfl
  | some r => cases r <;> rfl
/-- a comprehension whose turns change nothing but its own names -/
theorem wp_lcE {vs : List Nat} {f : D → M Bool} {me : M D} {E0 : List SV} {st : List O} (keep : D → Bool) (g : D → D) {Q : List D → Wd → Prop} : ∀ {ds acc : List D} {w : Wd}, wipeE w.env vs = E0 → w.sto = st → acc.length + ds.length ≤ 16777216 →
    (∀ d ∈ ds, wp (f d) ⟨E0, st⟩ fun b w1 => b = keep d ∧ (if b = true then wp me w1 fun y w2 => y = g d ∧ wipeE w2.env vs = E0 ∧ w2.sto = st else wipeE w1.env vs = E0 ∧ w1.sto = st)) →
    (∀ w2 : Wd, wipeE w2.env vs = E0 → w2.sto = st → Q (acc ++ (ds.filter keep).map g) w2) → wp (lcD vs f me ds acc) w Q
  | [], acc, w, h1, h2, _, _, hq => by
    show Q acc w
    have := hq w h1 h2
    simpa using this
  | d :: ds, acc, w, h1, h2, hl, hs, hq => by
    show wp (bnd (f d) _) (wipeW vs w) Q
    rw [wp_bnd, show wipeW vs w = ⟨E0, st⟩ by unfold wipeW; rw [h1, h2]]
    refine wp_mono (hs d (List.mem_cons_self ..)) fun b w1 ⟨hb, h⟩ => ?_
    have hl' : acc.length + (ds.length + 1) ≤ 16777216 := hl
    cases b with
    | true =>
      rw [if_pos rfl] at h ⊢
      rw [wp_bnd]
      refine wp_mono h fun y w2 ⟨e1, e2, e3⟩ => ?_
      unfold wp
      dsimp only
      rw [if_pos (by omega)]
      refine wp_lcE keep g e2 e3 (by rw [List.length_append, List.length_singleton]; omega) (fun d hd => hs d (List.mem_cons_of_mem _ hd)) fun w3 q1 q2 => ?_
      have := hq w3 q1 q2
      rw [List.filter_cons, if_pos hb.symm, List.map_cons, ← e1] at this
      rw [List.append_assoc]
      exact this
    | false =>
      rw [if_neg Bool.false_ne_true] at h ⊢
      refine wp_lcE keep g h.1 h.2 (by omega) (fun d hd => hs d (List.mem_cons_of_mem _ hd)) fun w3 q1 q2 => ?_
      have := hq w3 q1 q2
      rw [List.filter_cons, if_neg (by rw [← hb]; exact Bool.false_ne_true)] at this
      exact this
/-! calls -/
theorem wp_mCall {n : Nat} {m : Fn} {ma : M (List D)} {Q : D → Wd → Prop} : wp (mCall n m ma) w Q = wp ma w fun ds w1 => ds.length = n ∧ wp (m ds) ⟨[], w1.sto⟩ fun d w2 => Q d ⟨w1.env, w2.sto⟩ := by
  unfold mCall; rw [wp_bnd]; congr 1; funext ds w1
  unfold wp callW
  dsimp only
  by_cases h : ds.length = n
  · rw [if_pos h]
    cases m ds ⟨[], w1.sto⟩ with
    | none => exact propext ⟨fun q => q.elim, fun q => q.2⟩
    | some r => cases r with
      | ok d w2 => exact propext ⟨fun q => ⟨h, q⟩, fun q => q.2⟩
      | ex x w2 => exact propext ⟨fun q => q.elim, fun q => q.2⟩
  · rw [if_neg h]; exact propext ⟨fun q => q.elim, fun q => h q.1⟩
theorem wp_mFn {l n : Nat} {body : M Fl} {ds : List D} {Q : D → Wd → Prop} : wp (mFn l n body ds) w Q = (ds.length = n ∧ wp body ⟨ds.map SV.d ++ List.replicate (l - n) SV.un, w.sto⟩ fun fl w' => (match fl with
  | .nx => Q .non ⟨[], w'.sto⟩
  | .ret d => Q d ⟨[], w'.sto⟩
  | _ => False)) := by
  unfold wp mFn
  dsimp only
  by_cases h : ds.length = n
  · rw [if_pos h]
    cases body ⟨ds.map SV.d ++ List.replicate (l - n) SV.un, w.sto⟩ with
    | none => exact propext ⟨fun q => q.elim, fun q => q.2⟩
    | some r => cases r with
      | ok fl w2 => cases fl with
        | nx => exact propext ⟨fun q => ⟨h, q⟩, fun q => q.2⟩
        | ret d => exact propext ⟨fun q => ⟨h, q⟩, fun q => q.2⟩
        | brk => exact propext ⟨fun q => q.elim, fun q => q.2⟩
        | cnt => exact propext ⟨fun q => q.elim, fun q => q.2⟩
      | ex x w2 => exact propext ⟨fun q => q.elim, fun q => q.2⟩
  · rw [if_neg h]; exact propext ⟨fun q => q.elim, fun q => h q.1⟩
theorem wp_mCallL {i : Nat} {T : FTab} {ma : M (List D)} {Q : D → Wd → Prop} : wp (mCallL i T ma) w Q = (match w.env[i]? with
  | some (.d (.ref f)) => (match T f with
    | some (n, m) => wp (mCall n m ma) w Q
    | none => False)
  | _ => False) := by
  unfold wp mCallL
  cases w.env[i]? with
  | none => rfl
  | some x => cases x with
    | un => rfl
    | own _ => rfl
    | d y => cases y with
      | ref f =>
        dsimp only
        cases T f <;> rfl
      | _ => rfl
theorem tab1_self (f : Addr) (n : Nat) (m : Fn) : tab1 f n m f = some (n, m) := if_pos rfl
theorem wp_mAlloc {m : M RV} {Q : D → Wd → Prop} : wp (mAlloc m) w Q = wp m w fun z w1 => (match z with
  | .l xs => Q (.o w1.sto.length) ⟨w1.env, w1.sto ++ [.lst xs]⟩
  | _ => False) := by
  unfold mAlloc; rw [wp_bnd]; congr 1; funext z w1; cases z <;> rfl
theorem wp_mNew {z : O} {Q : D → Wd → Prop} : wp (mNew z) w Q = Q (.o w.sto.length) ⟨w.env, w.sto ++ [z]⟩ := rfl
theorem wp_mDGet {mo mi : M Op} {Q : D → Wd → Prop} : wp (mDGet mo mi) w Q = wp mo w fun o w1 => wp mi w1 fun p w2 => (match o.get w2, p.get w2 with
  | some d, some k => (match dget w2.sto d k with
    | some (some x) => Q x w2
    | _ => False)
  | _, _ => False) := by
  unfold mDGet; rw [wp_bnd]; congr 1; funext o w1
  rw [wp_bnd]; congr 1; funext p w2
  unfold wp
  try dsimp only
  cases o.get w2 with
  | none => rfl
  | some d => cases p.get w2 with
    | none => rfl
    | some k => dsimp only; cases dget w2.sto d k with
      | none => rfl
      | some r => cases r <;> rfl
theorem wp_mDIn {neg : Bool} {mi mo : M Op} {Q : Bool → Wd → Prop} : wp (mDIn neg mi mo) w Q = wp mi w fun p w1 => wp mo w1 fun o w2 => (match p.get w2, o.get w2 with
  | some k, some d => (match dget w2.sto d k with
    | some r => Q (if neg then !r.isSome else r.isSome) w2
    | none => False)
  | _, _ => False) := by
  unfold mDIn; rw [wp_bnd]; congr 1; funext o w1
  rw [wp_bnd]; congr 1; funext p w2
  unfold wp
  try dsimp only
  cases o.get w2 with
  | none => rfl
  | some d => cases p.get w2 with
    | none => rfl
    | some k => dsimp only; cases dget w2.sto k d <;> rfl
theorem wp_mDPut {mo mi : M Op} {me : M D} {Q : Fl → Wd → Prop} : wp (mDPut mo mi me) w Q = wp me w fun x w0 => wp mo w0 fun o w1 => wp mi w1 fun p w2 => (match o.get w2, p.get w2 with
  | some d, some k => (match dput w2.sto d k x with
    | some sto' => Q .nx ⟨w2.env, sto'⟩
    | none => False)
  | _, _ => False) := by
  unfold mDPut; rw [wp_bnd]; congr 1; funext x w0
  rw [wp_bnd]; congr 1; funext o w1
  rw [wp_bnd]; congr 1; funext p w2
  unfold wp
  try dsimp only
  cases o.get w2 with
  | none => rfl
  | some d => cases p.get w2 with
    | none => rfl
    | some k => dsimp only; cases dput w2.sto d k x <;> rfl
theorem wp_mListK {mo : M Op} {Q : RV → Wd → Prop} : wp (mListK mo) w Q = wp mo w fun o w1 => (match o.get w1 with
  | some (.o j) => (match w1.sto[j]? with
    | some (.dk kvs) => Q (.l (kvs.map fun kv => keyOut kv.1)) w1
    | _ => False)
  | _ => False) := by
  unfold mListK; rw [wp_bnd]; congr 1; funext o w1
  unfold wp
  try dsimp only
  cases o.get w1 with
  | none => rfl
  | some d => cases d with
    | o j =>
      dsimp only
      cases w1.sto[j]? with
      | none => rfl
      | some x => cases x <;> rfl
    | _ => rfl
theorem wp_mPopAt {mo mi : M Op} {Q : D → Wd → Prop} : wp (mPopAt mo mi) w Q = wp mo w fun o w0 => (match listAt o w0 with
  | none => False
  | some _ => wp mi w0 fun p w => (match listAt o w, p.get w with
    | some xs, some (.int i) => (match ixN xs.length i with
      | some j => (match xs[j]? with
        | some d => (-(2 ^ 62) ≤ i ∧ i ≤ 2 ^ 62) ∧ Q d (putAtL o w (xs.eraseIdx j))
        | none => False)
      | none => False)
    | _, _ => False)) := by
  unfold mPopAt; rw [wp_bnd]; congr 1; funext o w1
  rw [wp_eta]
  try dsimp only
  cases listAt o w1 with
  | none => rfl
  | some xs =>
    show wp (bnd mi _) w1 Q = _
    rw [wp_bnd]
    congr 1; funext p w2
    unfold wp
    try dsimp only
    cases listAt o w2 with
    | none => rfl
    | some ys => cases p.get w2 with
      | none => rfl
      | some e => cases e with
        | int i =>
          dsimp only
          cases ixN ys.length i with
          | none => rfl
          | some j =>
            dsimp only
            cases ys[j]? with
            | none => rfl
            | some d =>
              dsimp only
              by_cases h : -(2 ^ 62) ≤ i ∧ i ≤ 2 ^ 62
              · rw [if_pos h]; exact propext ⟨fun q => ⟨h, q⟩, fun q => q.2⟩
              · rw [if_neg h]; exact propext ⟨fun q => q.elim, fun q => h q.1⟩
        | _ => rfl
theorem wp_mScIx {sa : Addr} {ns : List Int} {ma mb : M Op} {Q : RV → Wd → Prop} : wp (mScIx sa ns ma mb) w Q = wp (m2 (scIxD sa ns) ma mb) w Q := rfl
theorem wp_mScLen {sa : Addr} {n : Nat} {ma : M (List Op)} {Q : RV → Wd → Prop} : wp (mScLen sa n ma) w Q = wp (mA (f1 (scLenD sa n)) ma) w Q := rfl
theorem wp_mScSlice {sa : Addr} {ns : List Int} {m : M Op} {l h : M (Option Int)} {Q : RV → Wd → Prop} : wp (mScSlice sa ns m l h) w Q = wp m w fun o w1 => wp l w1 fun lo w2 => wp h w2 fun hi w3 => (match o.get w3 with
  | some (.ref a) => a = sa ∧ Q (.l (cutD (ns.map D.int) lo hi)) w3
  | _ => False) := by
  unfold mScSlice; rw [wp_bnd]; congr 1; funext o w1
  rw [wp_bnd]; congr 1; funext lo w2
  rw [wp_bnd]; congr 1; funext hi w3
  unfold wp
  try dsimp only
  cases o.get w3 with
  | none => rfl
  | some d => cases d with
    | ref a =>
      dsimp only
      by_cases h : a = sa
      · rw [if_pos h]; exact propext ⟨fun q => ⟨h, q⟩, fun q => q.2⟩
      · rw [if_neg h]; exact propext ⟨fun q => q.elim, fun q => h q.1⟩
    | _ => rfl
end
end PD

set_option maxHeartbeats 1000000
namespace PD
open PySem PySem.Spec PyProof.Rows L2
/-! ### what comes behind a call or a loop, kept shut (simp does not look into instances) -/
class Cont (α : Type) where
  q : α → Wd → Prop
structure wpc {α : Type} (m : M α) (w : Wd) [c : Cont α] : Prop where
  h : wp m w c.q
theorem wpc_i {α : Type} {m : M α} {w : Wd} {Q : α → Wd → Prop} (h : wp m w Q) : @wpc α m w ⟨Q⟩ := @wpc.mk _ _ _ ⟨Q⟩ h
theorem wpc_g {α : Type} {m : M α} {w : Wd} {Q : α → Wd → Prop} (R : α → Wd → Prop) (h : wp m w R) (hq : ∀ a w', R a w' → Q a w') : @wpc α m w ⟨Q⟩ := @wpc.mk _ _ _ ⟨Q⟩ (wp_mono h hq)
theorem wpc_o {α : Type} {m : M α} {w : Wd} {Q : α → Wd → Prop} (h : @wpc α m w ⟨Q⟩) : wp m w Q := @wpc.h α m w ⟨Q⟩ h
class LoopC where
  f : D → M Fl
  q : Fl → Wd → Prop
structure wpf (ds : List D) (w : Wd) [c : LoopC] : Prop where
  h : wp (forD c.f ds) w c.q
theorem wpf_i {f : D → M Fl} {ds : List D} {w : Wd} {Q : Fl → Wd → Prop} (h : wp (forD f ds) w Q) : @wpf ds w ⟨f, Q⟩ := @wpf.mk _ _ ⟨f, Q⟩ h
theorem wpf_g {f : D → M Fl} {ds : List D} {w : Wd} {Q : Fl → Wd → Prop} (R : Fl → Wd → Prop) (h : wp (forD f ds) w R) (hq : ∀ a w', R a w' → Q a w') : @wpf ds w ⟨f, Q⟩ := @wpf.mk _ _ ⟨f, Q⟩ (wp_mono h hq)
theorem wpf_o {f : D → M Fl} {ds : List D} {w : Wd} {Q : Fl → Wd → Prop} (h : @wpf ds w ⟨f, Q⟩) : wp (forD f ds) w Q := @wpf.h ds w ⟨f, Q⟩ h
class CompC where
  vs : List Nat
  f : D → M Bool
  me : M D
  q : List D → Wd → Prop
structure wpl (ds : List D) (w : Wd) [c : CompC] : Prop where
  h : wp (lcD c.vs c.f c.me ds []) w c.q
theorem wpl_i {vs : List Nat} {f : D → M Bool} {me : M D} {ds : List D} {w : Wd} {Q : List D → Wd → Prop} (h : wp (lcD vs f me ds []) w Q) : @wpl ds w ⟨vs, f, me, Q⟩ := @wpl.mk _ _ ⟨vs, f, me, Q⟩ h
theorem wpl_g {vs : List Nat} {f : D → M Bool} {me : M D} {ds : List D} {w : Wd} {Q : List D → Wd → Prop} (R : List D → Wd → Prop) (h : wp (lcD vs f me ds []) w R) (hq : ∀ a w', R a w' → Q a w') : @wpl ds w ⟨vs, f, me, Q⟩ := @wpl.mk _ _ ⟨vs, f, me, Q⟩ (wp_mono h hq)
theorem wpl_o {vs : List Nat} {f : D → M Bool} {me : M D} {ds : List D} {w : Wd} {Q : List D → Wd → Prop} (h : @wpl ds w ⟨vs, f, me, Q⟩) : wp (lcD vs f me ds []) w Q := @wpl.h ds w ⟨vs, f, me, Q⟩ h
theorem max2_eq (i j : Int) : max2D [.int i, .int j] = some (.d (.int (imax i j))) := rfl
theorem min2_eq (i j : Int) : min2D [.int i, .int j] = some (.d (.int (imin i j))) := rfl
/-- a goal, kept shut -/
structure Go (P : Prop) : Prop where
  h : P
theorem wpc_e {α : Type} {m : M α} {w : Wd} {Q : α → Wd → Prop} (v : α) (w2 : Wd) (h : wp m w fun d w' => d = v ∧ w' = w2) (hq : Go (Q v w2)) : @wpc α m w ⟨Q⟩ :=
  wpc_i (wp_mono h fun a w' q => by rw [q.1, q.2]; exact hq.h)
theorem wpc_x {α ι : Type} {m : M α} {w : Wd} {Q : α → Wd → Prop} (v : ι → α) (w2 : ι → Wd) (h : wp m w fun d w' => ∃ i, d = v i ∧ w' = w2 i) (hq : ∀ i, Go (Q (v i) (w2 i))) : @wpc α m w ⟨Q⟩ :=
  wpc_i (wp_mono h fun a w' ⟨i, q⟩ => by rw [q.1, q.2]; exact (hq i).h)
theorem wpf_x {ι : Type} {f : D → M Fl} {ds : List D} {w : Wd} {Q : Fl → Wd → Prop} (v : ι → Fl) (w2 : ι → Wd) (h : wp (forD f ds) w fun d w' => ∃ i, d = v i ∧ w' = w2 i) (hq : ∀ i, Go (Q (v i) (w2 i))) : @wpf ds w ⟨f, Q⟩ :=
  wpf_i (wp_mono h fun a w' ⟨i, q⟩ => by rw [q.1, q.2]; exact (hq i).h)
theorem wpl_x {ι : Type} {vs : List Nat} {f : D → M Bool} {me : M D} {ds : List D} {w : Wd} {Q : List D → Wd → Prop} (v : ι → List D) (w2 : ι → Wd) (h : wp (lcD vs f me ds []) w fun d w' => ∃ i, d = v i ∧ w' = w2 i) (hq : ∀ i, Go (Q (v i) (w2 i))) : @wpl ds w ⟨vs, f, me, Q⟩ :=
  wpl_i (wp_mono h fun a w' ⟨i, q⟩ => by rw [q.1, q.2]; exact (hq i).h)
section
variable {w : Wd}
theorem wx_mCall {n : Nat} {m : Fn} {ma : M (List D)} {Q : D → Wd → Prop} : wp (mCall n m ma) w Q = wp ma w fun ds w1 => ds.length = n ∧ @wpc D (m ds) ⟨[], w1.sto⟩ ⟨fun d w2 => Q d ⟨w1.env, w2.sto⟩⟩ := by
  rw [wp_mCall]
  congr 1; funext ds w1
  exact propext ⟨fun q => ⟨q.1, wpc_i q.2⟩, fun q => ⟨q.1, wpc_o q.2⟩⟩
theorem wx_mCallL {i n : Nat} {f : Addr} {m : Fn} {ma : M (List D)} {Q : D → Wd → Prop} (h : w.env[i]? = some (.d (.ref f))) : wp (mCallL i (tab1 f n m) ma) w Q = wp (mCall n m ma) w Q := by
  rw [wp_mCallL, h]
  dsimp only
  rw [tab1_self]
theorem wx_mFor {mi : M (List D)} {mg : D → M Unit} {mb : M Fl} {Q : Fl → Wd → Prop} : wp (mFor mi mg mb) w Q = wp mi w fun ds w1 => @wpf ds w1 ⟨fun d => bnd (mg d) fun _ => mb, Q⟩ := by
  rw [wp_mFor]
  congr 1; funext ds w1
  exact propext ⟨fun q => wpf_i q, fun q => wpf_o q⟩
theorem wx_mLc {vs : List Nat} {mi : M (List D)} {mg : D → M Unit} {mt : M Bool} {me : M D} {Q : RV → Wd → Prop} : wp (mLc vs mi mg mt me) w Q = wp mi w fun ds w1 => @wpl ds w1 ⟨vs, fun d => bnd (mg d) fun _ => mt, me, fun acc w2 => Q (.l acc) ⟨backE w1.env w2.env vs, w2.sto⟩⟩ := by
  rw [wp_mLc]
  congr 1; funext ds w1
  exact propext ⟨fun q => wpl_i q, fun q => wpl_o q⟩
end
end PD

set_option maxHeartbeats 4000000
namespace K73
open PySem PySem.Spec PyProof.Rows L2 PD
/-! printed by gen.py -/
def topS (i : Nat) : Stmt := PySem.Challenge.pw_cleanhands_k73_whole_the_built_opener_na.main.body.getD i (.Pass ⟨0, 0, 0, 0⟩)
abbrev s_check_most : Stmt := topS 7
abbrev s_check_each : Stmt := topS 8
abbrev s_check_row : Stmt := topS 10
abbrev s_hands_named : Stmt := topS 11
abbrev s_amounts_before : Stmt := topS 12
abbrev s_side_number : Stmt := topS 13
abbrev s_cut_number : Stmt := topS 14
abbrev s_best_cut : Stmt := topS 15
abbrev s_opening_number : Stmt := topS 16
abbrev s_openings_due : Stmt := topS 17
abbrev s_stretches_along : Stmt := topS 18
abbrev s_opener_opens : Stmt := topS 20
abbrev s_opener_told : Stmt := topS 21
abbrev s_opened_table : Stmt := topS 22
abbrev s_short_stretches : Stmt := topS 23
abbrev s_built_acts : Stmt := topS 24
abbrev s_built_opener : Stmt := topS 25
abbrev s_law_purse : Stmt := topS 27
abbrev s_law_draw : Stmt := topS 28
abbrev s_law_mix : Stmt := topS 29
abbrev s_law_matches : Stmt := topS 30
abbrev s_law_opening : Stmt := topS 31
abbrev s_law_whole_number : Stmt := topS 32
abbrev s_law_deed : Stmt := topS 33
abbrev s_law_all_takings : Stmt := topS 34
abbrev s_law_drawn_takings : Stmt := topS 35
abbrev s_law_records : Stmt := topS 36
abbrev s_law_small_row : Stmt := topS 37
abbrev s_law : Stmt := topS 38
/-! meanings -/
def m_check_most : Fn := mFn 3 3 (mIf (mB (m2 fGt (oVar 1) (oVar 2))) (fun _ => none) (mpure .nx))
def m_check_each : Fn := mFn 4 3 (mFor (iLst (mVar 1)) (mgName 3) (mIf (mB (m2 fGt (oVar 3) (oVar 2))) (fun _ => none) (mpure .nx)))
def m_check_row : Fn := mFn 3 2 (mSeq (mExpr (mCall 3 (m_check_most) (aCons (mpure (D.str "pockets")) (aCons (mFrz (mA (f1 lenD) (qCons (oVar 0) qNil))) (aCons (mpure (D.int 10)) aNil)))))
    (mSeq (mExpr (mCall 3 (m_check_each) (aCons (mpure (D.str "pocket")) (aCons (mVar 0) (aCons (mpure (D.int 6)) aNil)))))
    (mSeq (mFor (iRg (mRg1 (oE (mFrz (mA (f1 lenD) (qCons (oVar 0) qNil)))))) (mgName 2) (mIf (mB (m2 fLt (oE (mFrz (m2 ixD (oVar 0) (oVar 2)))) (oE (mpure (D.int 0))))) (fun _ => none) (mpure .nx)))
    (mIf (mOr (mB (m2 fEq (oE (mFrz (mA (f1 lenD) (qCons (oVar 0) qNil)))) (oE (mpure (D.int 0))))) (mNot (mB (mChain fLe fLe (oE (mpure (D.int 1))) (oVar 1) (oE (mFrz (mA (f1 sumD) (qCons (oVar 0) qNil)))))))) (fun _ => none) (mpure .nx)))))
def m_hands_named : Fn := mFn 6 4 (mSeq (mIf (mB (m2 fEq (oVar 3) (oE (mpure (D.int 0))))) (mRet (mFrz (mLst aNil))) (mpure .nx))
    (mSeq (mSet 4 (m2 fSub (oE (mFrz (mA (f1 sumD) (qCons (oE (mFrz (mSlice (oVar 0) (mPart (oVar 1)) (mPart (oVar 2))))) qNil)))) (oVar 3)))
    (mRet (mFrz (mLc [5] (iRg (mRg2 (oVar 1) (oVar 2))) (mgName 5) (mB (m2 fGt (oE (mFrz (m2 ixD (oVar 0) (oVar 5)))) (oVar 4))) (mFrz (m2 fAdd (oVar 5) (oE (mpure (D.int 1))))))))))
def m_amounts_before : Fn := mFn 6 5 (mSeq (mSet 5 (mA (max2D) (qCons (oE (mpure (D.int 0))) (qCons (oE (mFrz (m2 fSub (oVar 4) (oE (mFrz (mA (f1 sumD) (qCons (oE (mFrz (mSlice (oVar 0) (mPart (oVar 2)) (mPart (oVar 3))))) qNil))))))) qNil))))
    (mRet (mTup (aCons (mVar 5) (aCons (mFrz (mA (min2D) (qCons (oVar 4) (qCons (oE (mFrz (mA (f1 sumD) (qCons (oE (mFrz (mSlice (oVar 0) (mPart (oVar 1)) (mPart (oVar 2))))) qNil)))) qNil)))) aNil)))))
def m_side_number (on : Fn) : Fn := mFn 8 7 (mSeq (mSet 7 (mLst aNil))
    (mSeq (mIf (mB (m2 fGt (oVar 5) (oE (mpure (D.int 0))))) (mExpr (mApp (oVar 7) (mCall 5 on (aCons (mVar 0) (aCons (mVar 1) (aCons (mVar 2) (aCons (mVar 5) (aCons (mVar 6) aNil)))))))) (mpure .nx))
    (mSeq (mIf (mB (m2 fGt (oVar 4) (oVar 5))) (mExpr (mApp (oVar 7) (mCall 5 on (aCons (mVar 0) (aCons (mVar 2) (aCons (mVar 3) (aCons (mFrz (m2 fSub (oVar 4) (oVar 5))) (aCons (mVar 6) aNil)))))))) (mpure .nx))
    (mRet (mFrz (mA (f1 minD) (qCons (oVar 7) qNil)))))))
def m_cut_number (on : Fn) : Fn := mFn 10 6 (mSeq (mAsg (mCall 5 (m_amounts_before) (aCons (mVar 0) (aCons (mVar 1) (aCons (mVar 2) (aCons (mVar 3) (aCons (mVar 4) aNil)))))) (mgTup 2 (mgCons (mgName 6) (mgCons (mgName 7) mgNil))))
    (mSeq (mSet 8 (mRV (mpure (D.int 0))))
    (mSeq (mFor (iRg (mRg2 (oVar 6) (oE (mFrz (m2 fAdd (oVar 7) (oE (mpure (D.int 1)))))))) (mgName 9) (mSet 8 (mA (max2D) (qCons (oVar 8) (qCons (oE (mCall 7 (m_side_number on) (aCons (mVar 0) (aCons (mVar 1) (aCons (mVar 2) (aCons (mVar 3) (aCons (mVar 4) (aCons (mVar 9) (aCons (mVar 5) aNil))))))))) qNil)))))
    (mRet (mVar 8)))))
def m_best_cut (on : Fn) : Fn := mFn 8 5 (mSeq (mSet 5 (mRV (mpure D.non)))
    (mSeq (mFor (iRg (mRg2 (oE (mFrz (m2 fAdd (oVar 1) (oE (mpure (D.int 1)))))) (oVar 2))) (mgName 6) (mSeq (mSet 7 (mRV (mCall 6 (m_cut_number on) (aCons (mVar 0) (aCons (mVar 1) (aCons (mVar 6) (aCons (mVar 2) (aCons (mVar 3) (aCons (mVar 4) aNil)))))))))
    (mIf (mOr (mB (m2 fIsN (oVar 5) (oE (mpure D.non)))) (mB (m2 fLt (oVar 7) (oE (mFrz (m2 ixD (oVar 5) (oE (mpure (D.int 0))))))))) (mSet 5 (mRV (mTup (aCons (mVar 7) (aCons (mVar 6) aNil))))) (mpure .nx))))
    (mRet (mVar 5))))
def m_opening_number : Nat → Fn
  | 0 => fun _ _ => none
  | fu + 1 => mFn 6 5 (mSeq (mSet 5 (mRV (mTup (aCons (mVar 1) (aCons (mVar 2) (aCons (mVar 3) aNil))))))
    (mSeq (mIf (mDIn true (oVar 5) (oVar 4)) (mIf (mB (m2 fNe (oE (mCall 4 (m_hands_named) (aCons (mVar 0) (aCons (mVar 1) (aCons (mVar 2) (aCons (mVar 3) aNil)))))) (oE (mFrz (mLst aNil))))) (mDPut (oVar 4) (oVar 5) (mpure (D.int 0))) (mDPut (oVar 4) (oVar 5) (mFrz (m2 fAdd (oE (mpure (D.int 1))) (oE (mFrz (m2 ixD (oE (mCall 5 (m_best_cut (m_opening_number fu)) (aCons (mVar 0) (aCons (mVar 1) (aCons (mVar 2) (aCons (mVar 3) (aCons (mVar 4) aNil))))))) (oE (mpure (D.int 0)))))))))) (mpure .nx))
    (mRet (mDGet (oVar 4) (oVar 5)))))
def m_openings_due : Fn := mFn 2 2 (mSeq (mExpr (mCall 2 (m_check_row) (aCons (mVar 0) (aCons (mVar 1) aNil))))
    (mRet (mCall 5 (m_opening_number 12) (aCons (mVar 0) (aCons (mpure (D.int 0)) (aCons (mFrz (mA (f1 lenD) (qCons (oVar 0) qNil))) (aCons (mVar 1) (aCons (mNew (.dt [])) aNil))))))))
def m_stretches_along : Fn := mFn 7 3 (mSeq (mSet 3 (mLst aNil))
    (mSeq (mSet 4 (mRV (mpure (D.int 0))))
    (mSeq (mSet 5 (mRV (mpure (D.int 0))))
    (mSeq (mFor (iLst (mFrz (mA (f1 sortedD) (qCons (oE (mFrz (mListK (oVar 2)))) qNil)))) (mgName 6) (mSeq (mExpr (mApp (oVar 3) (mTup (aCons (mVar 4) (aCons (mVar 6) (aCons (mFrz (m2 fSub (oE (mDGet (oVar 2) (oVar 6))) (oVar 5))) aNil))))))
    (mSeq (mSet 4 (mRV (mVar 6)))
    (mSet 5 (mRV (mDGet (oVar 2) (oVar 6)))))))
    (mSeq (mExpr (mApp (oVar 3) (mTup (aCons (mVar 4) (aCons (mFrz (mA (f1 lenD) (qCons (oVar 0) qNil))) (aCons (mFrz (m2 fSub (oVar 1) (oVar 5))) aNil))))))
    (mRet (mVar 3)))))))
def m_opener_opens : Fn := mFn 2 2 (mRet (mTup (aCons (mFrz (mA (f1 listD) (qCons (oVar 0) qNil))) (aCons (mVar 1) (aCons (mFrz (mLst aNil)) aNil)))))
def m_opener_told : Fn := mFn 3 3 (mRet (mTup (aCons (mFrz (m2 ixD (oVar 0) (oE (mpure (D.int 0))))) (aCons (mFrz (m2 ixD (oVar 0) (oE (mpure (D.int 1))))) (aCons (mFrz (m2 fAdd (oE (mFrz (m2 ixD (oVar 0) (oE (mpure (D.int 2)))))) (oE (mFrz (mLst (aCons (mTup (aCons (mVar 1) (aCons (mVar 2) aNil))) aNil)))))) aNil)))))
def m_opened_table : Fn := mFn 4 1 (mSeq (mSet 1 (mRV (mNew (.dk []))))
    (mSeq (mFor (iLst (mVar 0)) (mgTup 2 (mgCons (mgName 2) (mgCons (mgName 3) mgNil))) (mDPut (oVar 1) (oVar 2) (mVar 3)))
    (mRet (mVar 1))))
def m_short_stretches : Fn := mFn 4 3 (mRet (mFrz (mLc [3] (iLst (mCall 3 (m_stretches_along) (aCons (mVar 0) (aCons (mVar 1) (aCons (mVar 2) aNil))))) (mgName 3) (mB (m2 fGt (oE (mFrz (m2 ixD (oVar 3) (oE (mpure (D.int 2)))))) (oE (mpure (D.int 0))))) (mVar 3))))
def m_built_acts : Fn := mFn 10 1 (mSeq (mAsg (mVar 0) (mgTup 3 (mgCons (mgName 1) (mgCons (mgName 2) (mgCons (mgName 3) mgNil)))))
    (mSeq (mSet 4 (mRV (mNew (.dt []))))
    (mSeq (mSet 5 (mRV (mpure D.non)))
    (mSeq (mFor (iLst (mCall 3 (m_short_stretches) (aCons (mVar 1) (aCons (mVar 2) (aCons (mCall 1 (m_opened_table) (aCons (mVar 3) aNil)) aNil))))) (mgTup 3 (mgCons (mgName 6) (mgCons (mgName 7) (mgCons (mgName 8) mgNil)))) (mSeq (mSet 9 (mRV (mCall 5 (m_opening_number 12) (aCons (mVar 1) (aCons (mVar 6) (aCons (mVar 7) (aCons (mVar 8) (aCons (mVar 4) aNil))))))))
    (mIf (mOr (mB (m2 fIsN (oVar 5) (oE (mpure D.non)))) (mB (m2 fLt (oVar 9) (oE (mFrz (m2 ixD (oVar 5) (oE (mpure (D.int 0))))))))) (mSet 5 (mRV (mTup (aCons (mVar 9) (aCons (mVar 6) (aCons (mVar 7) (aCons (mVar 8) aNil))))))) (mpure .nx))))
    (mSeq (mAsg (mVar 5) (mgTup 4 (mgCons (mgName 9) (mgCons (mgName 6) (mgCons (mgName 7) (mgCons (mgName 8) mgNil))))))
    (mSeq (mIf (mB (m2 fEq (oVar 9) (oE (mpure (D.int 0))))) (mRet (mTup (aCons (mVar 0) (aCons (mTup (aCons (mpure (D.str "name")) (aCons (mFrz (m2 ixD (oE (mCall 4 (m_hands_named) (aCons (mVar 1) (aCons (mVar 6) (aCons (mVar 7) (aCons (mVar 8) aNil)))))) (oE (mpure (D.int 0))))) aNil))) aNil)))) (mpure .nx))
    (mRet (mTup (aCons (mVar 0) (aCons (mTup (aCons (mpure (D.str "open")) (aCons (mFrz (m2 ixD (oE (mCall 5 (m_best_cut (m_opening_number 12)) (aCons (mVar 1) (aCons (mVar 6) (aCons (mVar 7) (aCons (mVar 8) (aCons (mVar 4) aNil))))))) (oE (mpure (D.int 1))))) aNil))) aNil))))))))))
def m_built_opener (ad : Str → Addr) : Fn := mFn 0 0 (mRet (mFrz (mLst (aCons (mpure (D.ref (ad "opener_opens"))) (aCons (mpure (D.ref (ad "built_acts"))) (aCons (mpure (D.ref (ad "opener_told"))) aNil))))))
def m_law_purse (sa : Addr) (ns : List Int) : Fn := mFn 5 2 (mSeq (mSet 2 (mRV (mIf (mB (m2 fLt (oVar 1) (oE (mFrz (mScLen sa ns.length (qCons (oVar 0) qNil)))))) (mFrz (mA (f1 intD) (qCons (oE (mFrz (mScIx sa ns (oVar 0) (oVar 1)))) qNil))) (mFrz (m2 fMul (oE (mpure (D.int 31))) (oE (mFrz (mA (f1 sumD) (qCons (oE (mFrz (mLc [4] (iLst (mFrz (mScSlice sa ns (oVar 0) (mpure none) (mPart (oE (mpure (D.int 4))))))) (mgName 4) (mpure true) (mFrz (mA (f1 intD) (qCons (oVar 4) qNil)))))) qNil)))))))))
    (mSeq (mSet 3 (m2 fAdd (oE (mFrz (m2 fMul (oE (mpure (D.int 2))) (oE (mFrz (mA (f1 absD) (qCons (oVar 2) qNil))))))) (oE (mIf (mB (m2 fLt (oVar 2) (oE (mpure (D.int 0))))) (mpure (D.int 1)) (mpure (D.int 0))))))
    (mRet (mAlloc (mLst (aCons (mIf (mB (m2 fGe (oVar 3) (oE (mFrz (m2 fPow (oE (mpure (D.int 10))) (oE (mpure (D.int 18)))))))) (mVar 3) (mpure (D.int 0))) (aCons (mFrz (m2 fMod (oE (mFrz (mA (f1 intD) (qCons (oE (mFrz (m2 fAdd (oE (mFrz (m2 fAdd (oVar 3) (oE (mFrz (m2 fMul (oVar 1) (oE (mpure (D.int 104729))))))))) (oE (mpure (D.int 12345)))))) qNil)))) (oE (mpure (D.int 2147483629))))) (aCons (mVar 1) aNil))))))))
def m_law_draw : Fn := mFn 3 2 (mSeq (mIf (mB (m2 fGt (oE (mFrz (m2 ixD (oVar 0) (oE (mpure (D.int 0)))))) (oE (mpure (D.int 0))))) (mSeq (mSet 2 (m2 fMod (oE (mFrz (mA (f1 intD) (qCons (oE (mFrz (m2 ixD (oVar 0) (oE (mpure (D.int 0)))))) qNil)))) (oVar 1)))
    (mSeq (mAsg (mFrz (m2 fDiv (oE (mFrz (m2 ixD (oVar 0) (oE (mpure (D.int 0)))))) (oVar 1))) (mgSub (oVar 0) (oE (mpure (D.int 0)))))
    (mRet (mVar 2)))) (mpure .nx))
    (mSeq (mAugS (fun i j => i + j) (oVar 0) (oE (mpure (D.int 2))) (oE (mpure (D.int 1))))
    (mSeq (mAsg (mFrz (m2 fMod (oE (mFrz (mA (f1 intD) (qCons (oE (mFrz (m2 fAdd (oE (mFrz (m2 fMul (oE (mFrz (m2 ixD (oVar 0) (oE (mpure (D.int 1)))))) (oE (mpure (D.int 48271)))))) (oE (mFrz (m2 fMul (oE (mFrz (m2 ixD (oVar 0) (oE (mpure (D.int 2)))))) (oE (mpure (D.int 69621))))))))) qNil)))) (oE (mpure (D.int 2147483647))))) (mgSub (oVar 0) (oE (mpure (D.int 1)))))
    (mRet (mFrz (m2 fMod (oE (mFrz (m2 fDiv (oE (mFrz (m2 fMod (oE (mFrz (mA (f1 intD) (qCons (oE (mFrz (m2 fAdd (oE (mFrz (m2 fMul (oE (mFrz (m2 ixD (oVar 0) (oE (mpure (D.int 1)))))) (oE (mpure (D.int 16807)))))) (oE (mFrz (m2 fMul (oE (mFrz (m2 ixD (oVar 0) (oE (mpure (D.int 2)))))) (oE (mpure (D.int 7919))))))))) qNil)))) (oE (mpure (D.int 2147483629)))))) (oE (mpure (D.int 8)))))) (oVar 1)))))))
def m_law_mix : Fn := mFn 5 2 (mSeq (mSet 2 (mA (f1 listD) (qCons (oVar 1) qNil)))
    (mSeq (mSet 3 (mLst aNil))
    (mSeq (mFor (iRg (mRg1 (oE (mFrz (mA (f1 lenD) (qCons (oVar 1) qNil)))))) (mgName 4) (mExpr (mApp (oVar 3) (mPopAt (oVar 2) (oE (mCall 2 (m_law_draw) (aCons (mVar 0) (aCons (mFrz (mA (f1 lenD) (qCons (oVar 2) qNil))) aNil))))))))
    (mRet (mVar 3)))))
def m_law_matches : Nat → Fn
  | 0 => fun _ _ => none
  | fu + 1 => mFn 3 2 (mSeq (mIf (mOr (mB (m2 fIsN (oVar 1) (oE (mpure D.non)))) (mB (m2 fIsN (oVar 0) (oE (mpure D.non))))) (mRet (mAndV (mFrz (m2 fIsN (oVar 1) (oE (mpure D.non)))) (mFrz (m2 fIsN (oVar 0) (oE (mpure D.non)))))) (mpure .nx))
    (mSeq (mIf (mOr (mTru (oE (mFrz (mIsi .bool (oVar 1))))) (mTru (oE (mFrz (mIsi .bool (oVar 0)))))) (mRet (mAndV (mFrz (mIsi .bool (oVar 1))) (mAndV (mFrz (mIsi .bool (oVar 0))) (mFrz (m2 fEq (oVar 0) (oVar 1)))))) (mpure .nx))
    (mSeq (mIf (mTru (oE (mFrz (mIsi .int (oVar 1))))) (mRet (mAndV (mFrz (mIsi .int (oVar 0))) (mFrz (m2 fEq (oVar 0) (oVar 1))))) (mpure .nx))
    (mSeq (mIf (mTru (oE (mFrz (mIsi .str (oVar 1))))) (mRet (mAndV (mFrz (mIsi .str (oVar 0))) (mFrz (m2 fEq (oVar 0) (oVar 1))))) (mpure .nx))
    (mSeq (mIf (mAnd (mTru (oE (mFrz (mIsi .tuple (oVar 1))))) (mNot (mTru (oE (mFrz (mIsi .tuple (oVar 0))))))) (mRet (mpure (D.bl false))) (mpure .nx))
    (mSeq (mIf (mAnd (mTru (oE (mFrz (mIsi .list (oVar 1))))) (mNot (mTru (oE (mFrz (mIsi .list (oVar 0))))))) (mRet (mpure (D.bl false))) (mpure .nx))
    (mSeq (mIf (mB (m2 fNe (oE (mFrz (mA (f1 lenD) (qCons (oVar 0) qNil)))) (oE (mFrz (mA (f1 lenD) (qCons (oVar 1) qNil)))))) (mRet (mpure (D.bl false))) (mpure .nx))
    (mSeq (mFor (iRg (mRg1 (oE (mFrz (mA (f1 lenD) (qCons (oVar 1) qNil)))))) (mgName 2) (mIf (mNot (mTru (oE (mCall 2 (m_law_matches fu) (aCons (mFrz (m2 ixD (oVar 0) (oVar 2))) (aCons (mFrz (m2 ixD (oVar 1) (oVar 2))) aNil)))))) (mRet (mpure (D.bl false))) (mpure .nx)))
    (mRet (mpure (D.bl true)))))))))))
def m_law_opening : Nat → Fn
  | 0 => fun _ _ => none
  | fu + 1 => mFn 11 3 (mSeq (mSet 3 (mRV (mTup (aCons (mFrz (mA (f1 tupleD) (qCons (oVar 0) qNil))) (aCons (mVar 1) aNil)))))
    (mSeq (mIf (mDIn false (oVar 3) (oVar 2)) (mRet (mDGet (oVar 2) (oVar 3))) (mpure .nx))
    (mSeq (mSet 4 (mRV (mpure (D.int 0))))
    (mSeq (mIf (mB (m2 fLe (oE (mFrz (mA (f1 maxD) (qCons (oVar 0) qNil)))) (oE (mFrz (m2 fSub (oE (mFrz (mA (f1 sumD) (qCons (oVar 0) qNil)))) (oVar 1)))))) (mSeq (mSet 4 (m1 fNeg (oE (mpure (D.int 1)))))
    (mFor (iRg (mRg2 (oE (mpure (D.int 1))) (oE (mFrz (mA (f1 lenD) (qCons (oVar 0) qNil)))))) (mgName 5) (mSeq (mSet 6 (mRV (mFrz (mSlice (oVar 0) (mpure none) (mPart (oVar 5))))))
    (mSeq (mSet 7 (mRV (mFrz (mSlice (oVar 0) (mPart (oVar 5)) (mpure none)))))
    (mSeq (mSet 8 (mRV (mpure (D.int 0))))
    (mSeq (mFor (iRg (mRg2 (oE (mFrz (mA (max2D) (qCons (oE (mpure (D.int 0))) (qCons (oE (mFrz (m2 fSub (oVar 1) (oE (mFrz (mA (f1 sumD) (qCons (oVar 7) qNil))))))) qNil))))) (oE (mFrz (m2 fAdd (oE (mFrz (mA (min2D) (qCons (oVar 1) (qCons (oE (mFrz (mA (f1 sumD) (qCons (oVar 6) qNil)))) qNil))))) (oE (mpure (D.int 1)))))))) (mgName 9) (mSeq (mSet 10 (mLst aNil))
    (mSeq (mIf (mB (m2 fGt (oVar 9) (oE (mpure (D.int 0))))) (mExpr (mApp (oVar 10) (mCall 3 (m_law_opening fu) (aCons (mVar 6) (aCons (mVar 9) (aCons (mVar 2) aNil)))))) (mpure .nx))
    (mSeq (mIf (mB (m2 fGt (oVar 1) (oVar 9))) (mExpr (mApp (oVar 10) (mCall 3 (m_law_opening fu) (aCons (mVar 7) (aCons (mFrz (m2 fSub (oVar 1) (oVar 9))) (aCons (mVar 2) aNil)))))) (mpure .nx))
    (mSet 8 (mA (max2D) (qCons (oVar 8) (qCons (oE (mFrz (mA (f1 minD) (qCons (oVar 10) qNil)))) qNil))))))))
    (mIf (mOr (mB (m2 fLt (oVar 4) (oE (mpure (D.int 0))))) (mB (m2 fLt (oE (mFrz (m2 fAdd (oVar 8) (oE (mpure (D.int 1)))))) (oVar 4)))) (mSet 4 (m2 fAdd (oVar 8) (oE (mpure (D.int 1))))) (mpure .nx)))))))) (mpure .nx))
    (mSeq (mDPut (oVar 2) (oVar 3) (mVar 4))
    (mRet (mVar 4)))))))
def m_law_whole_number : Fn := mFn 1 1 (mRet (mAndV (mFrz (mIsi .int (oVar 0))) (mNotV (mFrz (mIsi .bool (oVar 0))))))
def m_law_deed : Fn := mFn 1 1 (mSeq (mIf (mOr (mNot (mTru (oE (mFrz (mIsi .tuple (oVar 0)))))) (mOr (mB (m2 fNe (oE (mFrz (mA (f1 lenD) (qCons (oVar 0) qNil)))) (oE (mpure (D.int 2))))) (mNot (mTru (oE (mFrz (mIsi .tuple (oE (mFrz (m2 ixD (oVar 0) (oE (mpure (D.int 1))))))))))))) (mRet (mpure D.non)) (mpure .nx))
    (mRet (mFrz (m2 ixD (oVar 0) (oE (mpure (D.int 1)))))))
def m_law_all_takings : Fn := mFn 9 2 (mSeq (mSet 2 (mRV (mFrz (mLst (aCons (mFrz (mLst aNil)) aNil)))))
    (mSeq (mFor (iRg (mRg1 (oE (mFrz (mA (f1 lenD) (qCons (oVar 0) qNil)))))) (mgName 3) (mSeq (mSet 4 (mLst aNil))
    (mSeq (mFor (iLst (mVar 2)) (mgName 5) (mSeq (mSet 6 (m2 fSub (oVar 1) (oE (mFrz (mA (f1 sumD) (qCons (oVar 5) qNil))))))
    (mSeq (mSet 7 (mA (max2D) (qCons (oE (mpure (D.int 0))) (qCons (oE (mFrz (m2 fSub (oVar 6) (oE (mFrz (mA (f1 sumD) (qCons (oE (mFrz (mSlice (oVar 0) (mPart (oE (mFrz (m2 fAdd (oVar 3) (oE (mpure (D.int 1))))))) (mpure none)))) qNil))))))) qNil))))
    (mSet 4 (m2 fAdd (oVar 4) (oE (mFrz (mLc [8] (iRg (mRg2 (oVar 7) (oE (mFrz (m2 fAdd (oE (mFrz (mA (min2D) (qCons (oVar 6) (qCons (oE (mFrz (m2 ixD (oVar 0) (oVar 3)))) qNil))))) (oE (mpure (D.int 1)))))))) (mgName 8) (mpure true) (mFrz (m2 fAdd (oVar 5) (oE (mFrz (mLst (aCons (mVar 8) aNil))))))))))))))
    (mSet 2 (mRV (mVar 4))))))
    (mRet (mVar 2))))
def m_law_drawn_takings : Fn := mFn 10 3 (mSeq (mSet 3 (mLc [9] (iLst (mVar 1)) (mgName 9) (mpure true) (mpure (D.int 0))))
    (mSeq (mSet 4 (mRV (mCall 2 (m_law_mix) (aCons (mVar 0) (aCons (mFrz (mRgL (mRg1 (oE (mFrz (mA (f1 lenD) (qCons (oVar 1) qNil))))))) aNil)))))
    (mSeq (mSet 5 (mRV (mVar 2)))
    (mSeq (mFor (iLst (mVar 4)) (mgName 6) (mSeq (mSet 7 (mA (min3D) (qCons (oVar 5) (qCons (oE (mFrz (m2 ixD (oVar 1) (oVar 6)))) (qCons (oE (mFrz (m2 fAdd (oE (mpure (D.int 1))) (oE (mCall 2 (m_law_draw) (aCons (mVar 0) (aCons (mpure (D.int 4)) aNil))))))) qNil)))))
    (mSeq (mAsg (mVar 7) (mgSub (oVar 3) (oVar 6)))
    (mAug 5 (fun i j => i - j) (oVar 7)))))
    (mSeq (mFor (iLst (mVar 4)) (mgName 6) (mSeq (mSet 8 (mA (min2D) (qCons (oVar 5) (qCons (oE (mFrz (m2 fSub (oE (mFrz (m2 ixD (oVar 1) (oVar 6)))) (oE (mFrz (m2 ixD (oVar 3) (oVar 6))))))) qNil))))
    (mSeq (mAsg (mFrz (m2 fAdd (oE (mFrz (m2 ixD (oVar 3) (oVar 6)))) (oVar 8))) (mgSub (oVar 3) (oVar 6)))
    (mAug 5 (fun i j => i - j) (oVar 8)))))
    (mRet (mVar 3)))))))
def m_law_records (ad : Str → Addr) : Fn := mFn 12 4 (mSeq (mSet 4 (m2 ixD (oVar 0) (oE (mpure (D.int 0)))))
    (mSeq (mSet 5 (m2 ixD (oVar 0) (oE (mpure (D.int 1)))))
    (mSeq (mSet 6 (m2 ixD (oVar 0) (oE (mpure (D.int 2)))))
    (mSeq (mSet 7 (mRV (mCallL 4 (tab1 (ad "opener_opens") 2 (m_opener_opens)) (aCons (mFrz (mA (f1 listD) (qCons (oVar 1) qNil))) (aCons (mVar 2) aNil)))))
    (mSeq (mSet 8 (mLst aNil))
    (mSeq (mFor (iRg (mRg1 (oE (mFrz (m2 fAdd (oE (mFrz (mA (f1 lenD) (qCons (oVar 1) qNil)))) (oE (mpure (D.int 1)))))))) (mgName 9) (mSeq (mSet 10 (mRV (mCallL 5 (tab1 (ad "built_acts") 1 (m_built_acts)) (aCons (mVar 7) aNil))))
    (mSeq (mSet 11 (mRV (mCall 1 (m_law_deed) (aCons (mVar 10) aNil))))
    (mSeq (mIf (mOr (mB (m2 fIsN (oVar 11) (oE (mpure D.non)))) (mOr (mB (m2 fNe (oE (mFrz (mA (f1 lenD) (qCons (oVar 11) qNil)))) (oE (mpure (D.int 2))))) (mNot (mTru (oE (mCall 1 (m_law_whole_number) (aCons (mFrz (m2 ixD (oVar 11) (oE (mpure (D.int 1))))) aNil))))))) (mRet (mpure D.non)) (mpure .nx))
    (mSeq (mSet 7 (m2 ixD (oVar 10) (oE (mpure (D.int 0)))))
    (mSeq (mIf (mB (m2 fEq (oE (mFrz (m2 ixD (oVar 11) (oE (mpure (D.int 0)))))) (oE (mpure (D.str "name"))))) (mRet (mIf (mAnd (mB (mChain fLe fLe (oE (mpure (D.int 1))) (oE (mFrz (m2 ixD (oVar 11) (oE (mpure (D.int 1)))))) (oE (mFrz (mA (f1 lenD) (qCons (oVar 1) qNil)))))) (mB (m2 fGt (oE (mFrz (m2 ixD (oVar 3) (oE (mFrz (m2 fSub (oE (mFrz (m2 ixD (oVar 11) (oE (mpure (D.int 1)))))) (oE (mpure (D.int 1))))))))) (oE (mpure (D.int 0)))))) (mFrz (mA (f1 lenD) (qCons (oVar 8) qNil))) (mpure D.non))) (mpure .nx))
    (mSeq (mIf (mOr (mB (m2 fNe (oE (mFrz (m2 ixD (oVar 11) (oE (mpure (D.int 0)))))) (oE (mpure (D.str "open"))))) (mOr (mNot (mB (mChain fLe fLt (oE (mpure (D.int 1))) (oE (mFrz (m2 ixD (oVar 11) (oE (mpure (D.int 1)))))) (oE (mFrz (mA (f1 lenD) (qCons (oVar 1) qNil))))))) (mB (m2 fIn (oE (mFrz (m2 ixD (oVar 11) (oE (mpure (D.int 1)))))) (oVar 8))))) (mRet (mpure D.non)) (mpure .nx))
    (mSeq (mExpr (mApp (oVar 8) (mFrz (m2 ixD (oVar 11) (oE (mpure (D.int 1)))))))
    (mSet 7 (mRV (mCallL 6 (tab1 (ad "opener_told") 3 (m_opener_told)) (aCons (mVar 7) (aCons (mFrz (m2 ixD (oVar 11) (oE (mpure (D.int 1))))) (aCons (mFrz (mA (f1 sumD) (qCons (oE (mFrz (mSlice (oVar 3) (mpure none) (mPart (oE (mFrz (m2 ixD (oVar 11) (oE (mpure (D.int 1)))))))))) qNil))) aNil))))))))))))))
    (mRet (mpure D.non))))))))
def m_law_small_row : Fn := mFn 8 1 (mSeq (mSet 1 (m2 fAdd (oE (mpure (D.int 1))) (oE (mCall 2 (m_law_draw) (aCons (mVar 0) (aCons (mpure (D.int 4)) aNil))))))
    (mSeq (mSet 2 (mRV (mIf (mB (m2 fLt (oVar 1) (oE (mpure (D.int 4))))) (mpure (D.int 3)) (mpure (D.int 2)))))
    (mSeq (mSet 3 (mRV (mCall 2 (m_law_draw) (aCons (mVar 0) (aCons (mpure (D.int 3)) aNil)))))
    (mSeq (mSet 4 (m2 fAdd (oE (mpure (D.int 1))) (oE (mCall 2 (m_law_draw) (aCons (mVar 0) (aCons (mVar 2) aNil))))))
    (mSeq (mSet 5 (mLst aNil))
    (mSeq (mFor (iRg (mRg1 (oVar 1))) (mgName 6) (mExpr (mApp (oVar 5) (mIf (mB (m2 fEq (oVar 3) (oE (mpure (D.int 0))))) (mVar 4) (mCall 2 (m_law_draw) (aCons (mVar 0) (aCons (mFrz (m2 fAdd (oVar 2) (oE (mpure (D.int 1))))) aNil)))))))
    (mSeq (mIf (mB (m2 fEq (oE (mFrz (mA (f1 sumD) (qCons (oVar 5) qNil)))) (oE (mpure (D.int 0))))) (mSet 5 (mLc [7] (iLst (mVar 5)) (mgName 7) (mpure true) (mpure (D.int 1)))) (mpure .nx))
    (mRet (mVar 5)))))))))
def m_law (ad : Str → Addr) (sa : Addr) (ns : List Int) : Fn := mFn 12 1 (mSeq (mSet 1 (mRV (mCall 2 (m_law_purse sa ns) (aCons (mVar 0) (aCons (mpure (D.int 0)) aNil)))))
    (mSeq (mSet 2 (mRV (mCall 1 (m_law_small_row) (aCons (mVar 1) aNil))))
    (mSeq (mSet 3 (m2 fAdd (oE (mpure (D.int 1))) (oE (mCall 2 (m_law_draw) (aCons (mVar 1) (aCons (mFrz (mA (f1 sumD) (qCons (oVar 2) qNil))) aNil))))))
    (mSeq (mSet 4 (mRV (mCall 3 (m_law_opening 12) (aCons (mVar 2) (aCons (mVar 3) (aCons (mNew (.dn [])) aNil))))))
    (mSeq (mSet 5 (mRV (mCall 0 (m_built_opener ad) aNil)))
    (mSeq (mSet 6 (mRV (mpure (D.int 0))))
    (mSeq (mFor (iLst (mCall 2 (m_law_all_takings) (aCons (mVar 2) (aCons (mVar 3) aNil)))) (mgName 7) (mSeq (mSet 8 (mRV (mCall 4 (m_law_records ad) (aCons (mVar 5) (aCons (mVar 2) (aCons (mVar 3) (aCons (mVar 7) aNil)))))))
    (mSeq (mIf (mOr (mB (m2 fIsN (oVar 8) (oE (mpure D.non)))) (mB (m2 fGt (oVar 8) (oVar 4)))) (mRet (mpure (D.bl false))) (mpure .nx))
    (mSet 6 (mA (max2D) (qCons (oVar 6) (qCons (oVar 8) qNil)))))))
    (mSeq (mIf (mOr (mB (m2 fNe (oVar 6) (oVar 4))) (mNot (mTru (oE (mCall 2 (m_law_matches 2) (aCons (mCall 2 (m_openings_due) (aCons (mVar 2) (aCons (mVar 3) aNil))) (aCons (mVar 4) aNil))))))) (mRet (mpure (D.bl false))) (mpure .nx))
    (mSeq (mSet 9 (mLst aNil))
    (mSeq (mFor (iRg (mRg1 (oE (mFrz (m2 fAdd (oE (mpure (D.int 5))) (oE (mCall 2 (m_law_draw) (aCons (mVar 1) (aCons (mpure (D.int 2)) aNil))))))))) (mgName 10) (mExpr (mApp (oVar 9) (mFrz (m2 fAdd (oE (mpure (D.int 1))) (oE (mCall 2 (m_law_draw) (aCons (mVar 1) (aCons (mpure (D.int 3)) aNil)))))))))
    (mSeq (mSet 3 (m2 fAdd (oE (mpure (D.int 1))) (oE (mCall 2 (m_law_draw) (aCons (mVar 1) (aCons (mFrz (mA (f1 sumD) (qCons (oVar 9) qNil))) aNil))))))
    (mSeq (mSet 4 (mRV (mCall 3 (m_law_opening 12) (aCons (mVar 9) (aCons (mVar 3) (aCons (mNew (.dn [])) aNil))))))
    (mSeq (mFor (iRg (mRg1 (oE (mpure (D.int 5))))) (mgName 11) (mSeq (mSet 8 (mRV (mCall 4 (m_law_records ad) (aCons (mVar 5) (aCons (mVar 9) (aCons (mVar 3) (aCons (mCall 3 (m_law_drawn_takings) (aCons (mVar 1) (aCons (mVar 9) (aCons (mVar 3) aNil)))) aNil)))))))
    (mIf (mOr (mB (m2 fIsN (oVar 8) (oE (mpure D.non)))) (mB (m2 fGt (oVar 8) (oVar 4)))) (mRet (mpure (D.bl false))) (mpure .nx))))
    (mRet (mpure (D.bl true))))))))))))))))
/-! facts of the head -/
structure Gx (K : PySem.W.Frag) (mg : Str → Option Value) : Prop where
  n_abs : mg "abs" = none
  n_bool : mg "bool" = none
  n_int : mg "int" = none
  n_isinstance : mg "isinstance" = none
  n_len : mg "len" = none
  n_list : mg "list" = none
  n_max : mg "max" = none
  n_min : mg "min" = none
  n_range : mg "range" = none
  n_sorted : mg "sorted" = none
  n_str : mg "str" = none
  n_sum : mg "sum" = none
  n_tuple : mg "tuple" = none
  i_POCKET : ∃ t, mg "POCKET" = some (.int 6 t)
  i_POCKETS : ∃ t, mg "POCKETS" = some (.int 10 t)
  g_check_most : mg "check_most" = some (.ref (He.ga K "check_most"))
  F_check_most : ∃ fd, FunD K "check_most" "check_most" (defArgs s_check_most) (defBody s_check_most) (defScope s_check_most) [] [] (He.ga K "check_most") fd
  g_check_each : mg "check_each" = some (.ref (He.ga K "check_each"))
  F_check_each : ∃ fd, FunD K "check_each" "check_each" (defArgs s_check_each) (defBody s_check_each) (defScope s_check_each) [] [] (He.ga K "check_each") fd
  g_check_row : mg "check_row" = some (.ref (He.ga K "check_row"))
  F_check_row : ∃ fd, FunD K "check_row" "check_row" (defArgs s_check_row) (defBody s_check_row) (defScope s_check_row) [] [] (He.ga K "check_row") fd
  g_hands_named : mg "hands_named" = some (.ref (He.ga K "hands_named"))
  F_hands_named : ∃ fd, FunD K "hands_named" "hands_named" (defArgs s_hands_named) (defBody s_hands_named) (defScope s_hands_named) [] [] (He.ga K "hands_named") fd
  g_amounts_before : mg "amounts_before" = some (.ref (He.ga K "amounts_before"))
  F_amounts_before : ∃ fd, FunD K "amounts_before" "amounts_before" (defArgs s_amounts_before) (defBody s_amounts_before) (defScope s_amounts_before) [] [] (He.ga K "amounts_before") fd
  g_side_number : mg "side_number" = some (.ref (He.ga K "side_number"))
  F_side_number : ∃ fd, FunD K "side_number" "side_number" (defArgs s_side_number) (defBody s_side_number) (defScope s_side_number) [] [] (He.ga K "side_number") fd
  g_cut_number : mg "cut_number" = some (.ref (He.ga K "cut_number"))
  F_cut_number : ∃ fd, FunD K "cut_number" "cut_number" (defArgs s_cut_number) (defBody s_cut_number) (defScope s_cut_number) [] [] (He.ga K "cut_number") fd
  g_best_cut : mg "best_cut" = some (.ref (He.ga K "best_cut"))
  F_best_cut : ∃ fd, FunD K "best_cut" "best_cut" (defArgs s_best_cut) (defBody s_best_cut) (defScope s_best_cut) [] [] (He.ga K "best_cut") fd
  g_opening_number : mg "opening_number" = some (.ref (He.ga K "opening_number"))
  F_opening_number : ∃ fd, FunD K "opening_number" "opening_number" (defArgs s_opening_number) (defBody s_opening_number) (defScope s_opening_number) [] [] (He.ga K "opening_number") fd
  g_openings_due : mg "openings_due" = some (.ref (He.ga K "openings_due"))
  F_openings_due : ∃ fd, FunD K "openings_due" "openings_due" (defArgs s_openings_due) (defBody s_openings_due) (defScope s_openings_due) [] [] (He.ga K "openings_due") fd
  g_stretches_along : mg "stretches_along" = some (.ref (He.ga K "stretches_along"))
  F_stretches_along : ∃ fd, FunD K "stretches_along" "stretches_along" (defArgs s_stretches_along) (defBody s_stretches_along) (defScope s_stretches_along) [] [] (He.ga K "stretches_along") fd
  g_opener_opens : mg "opener_opens" = some (.ref (He.ga K "opener_opens"))
  F_opener_opens : ∃ fd, FunD K "opener_opens" "opener_opens" (defArgs s_opener_opens) (defBody s_opener_opens) (defScope s_opener_opens) [] [] (He.ga K "opener_opens") fd
  g_opener_told : mg "opener_told" = some (.ref (He.ga K "opener_told"))
  F_opener_told : ∃ fd, FunD K "opener_told" "opener_told" (defArgs s_opener_told) (defBody s_opener_told) (defScope s_opener_told) [] [] (He.ga K "opener_told") fd
  g_opened_table : mg "opened_table" = some (.ref (He.ga K "opened_table"))
  F_opened_table : ∃ fd, FunD K "opened_table" "opened_table" (defArgs s_opened_table) (defBody s_opened_table) (defScope s_opened_table) [] [] (He.ga K "opened_table") fd
  g_short_stretches : mg "short_stretches" = some (.ref (He.ga K "short_stretches"))
  F_short_stretches : ∃ fd, FunD K "short_stretches" "short_stretches" (defArgs s_short_stretches) (defBody s_short_stretches) (defScope s_short_stretches) [] [] (He.ga K "short_stretches") fd
  g_built_acts : mg "built_acts" = some (.ref (He.ga K "built_acts"))
  F_built_acts : ∃ fd, FunD K "built_acts" "built_acts" (defArgs s_built_acts) (defBody s_built_acts) (defScope s_built_acts) [] [] (He.ga K "built_acts") fd
  g_built_opener : mg "built_opener" = some (.ref (He.ga K "built_opener"))
  F_built_opener : ∃ fd, FunD K "built_opener" "built_opener" (defArgs s_built_opener) (defBody s_built_opener) (defScope s_built_opener) [] [] (He.ga K "built_opener") fd
  g_law_purse : mg "_law_purse" = some (.ref (He.ga K "_law_purse"))
  F_law_purse : ∃ fd, FunD K "_law_purse" "_law_purse" (defArgs s_law_purse) (defBody s_law_purse) (defScope s_law_purse) [] [] (He.ga K "_law_purse") fd
  g_law_draw : mg "_law_draw" = some (.ref (He.ga K "_law_draw"))
  F_law_draw : ∃ fd, FunD K "_law_draw" "_law_draw" (defArgs s_law_draw) (defBody s_law_draw) (defScope s_law_draw) [] [] (He.ga K "_law_draw") fd
  g_law_mix : mg "_law_mix" = some (.ref (He.ga K "_law_mix"))
  F_law_mix : ∃ fd, FunD K "_law_mix" "_law_mix" (defArgs s_law_mix) (defBody s_law_mix) (defScope s_law_mix) [] [] (He.ga K "_law_mix") fd
  g_law_matches : mg "_law_matches" = some (.ref (He.ga K "_law_matches"))
  F_law_matches : ∃ fd, FunD K "_law_matches" "_law_matches" (defArgs s_law_matches) (defBody s_law_matches) (defScope s_law_matches) [] [] (He.ga K "_law_matches") fd
  g_law_opening : mg "_law_opening" = some (.ref (He.ga K "_law_opening"))
  F_law_opening : ∃ fd, FunD K "_law_opening" "_law_opening" (defArgs s_law_opening) (defBody s_law_opening) (defScope s_law_opening) [] [] (He.ga K "_law_opening") fd
  g_law_whole_number : mg "_law_whole_number" = some (.ref (He.ga K "_law_whole_number"))
  F_law_whole_number : ∃ fd, FunD K "_law_whole_number" "_law_whole_number" (defArgs s_law_whole_number) (defBody s_law_whole_number) (defScope s_law_whole_number) [] [] (He.ga K "_law_whole_number") fd
  g_law_deed : mg "_law_deed" = some (.ref (He.ga K "_law_deed"))
  F_law_deed : ∃ fd, FunD K "_law_deed" "_law_deed" (defArgs s_law_deed) (defBody s_law_deed) (defScope s_law_deed) [] [] (He.ga K "_law_deed") fd
  g_law_all_takings : mg "_law_all_takings" = some (.ref (He.ga K "_law_all_takings"))
  F_law_all_takings : ∃ fd, FunD K "_law_all_takings" "_law_all_takings" (defArgs s_law_all_takings) (defBody s_law_all_takings) (defScope s_law_all_takings) [] [] (He.ga K "_law_all_takings") fd
  g_law_drawn_takings : mg "_law_drawn_takings" = some (.ref (He.ga K "_law_drawn_takings"))
  F_law_drawn_takings : ∃ fd, FunD K "_law_drawn_takings" "_law_drawn_takings" (defArgs s_law_drawn_takings) (defBody s_law_drawn_takings) (defScope s_law_drawn_takings) [] [] (He.ga K "_law_drawn_takings") fd
  g_law_records : mg "_law_records" = some (.ref (He.ga K "_law_records"))
  F_law_records : ∃ fd, FunD K "_law_records" "_law_records" (defArgs s_law_records) (defBody s_law_records) (defScope s_law_records) [] [] (He.ga K "_law_records") fd
  g_law_small_row : mg "_law_small_row" = some (.ref (He.ga K "_law_small_row"))
  F_law_small_row : ∃ fd, FunD K "_law_small_row" "_law_small_row" (defArgs s_law_small_row) (defBody s_law_small_row) (defScope s_law_small_row) [] [] (He.ga K "_law_small_row") fd
  g_law : mg "law" = some (.ref (He.ga K "law"))
  F_law : ∃ fd, FunD K "law" "law" (defArgs s_law) (defBody s_law) (defScope s_law) [] [] (He.ga K "law") fd
/-! each def keeps its meaning -/
theorem sc_check_most : FnScope ["what", "number", "most"] ["what", "number", "most"] (defScope s_check_most) := ⟨rfl, rfl, rfl, by decide +kernel, rfl, by decide +kernel, by decide +kernel⟩
theorem sc_check_each : FnScope ["what", "numbers", "most", "number"] ["what", "numbers", "most"] (defScope s_check_each) := ⟨rfl, rfl, rfl, by decide +kernel, rfl, by decide +kernel, by decide +kernel⟩
theorem sc_check_row : FnScope ["pockets", "missing", "at"] ["pockets", "missing"] (defScope s_check_row) := ⟨rfl, rfl, rfl, by decide +kernel, rfl, by decide +kernel, by decide +kernel⟩
theorem sc_hands_named : FnScope ["pockets", "low", "high", "amount", "slack", "at"] ["pockets", "low", "high", "amount"] (defScope s_hands_named) := ⟨rfl, rfl, rfl, by decide +kernel, rfl, by decide +kernel, by decide +kernel⟩
theorem sc_amounts_before : FnScope ["pockets", "low", "cut", "high", "amount", "least"] ["pockets", "low", "cut", "high", "amount"] (defScope s_amounts_before) := ⟨rfl, rfl, rfl, by decide +kernel, rfl, by decide +kernel, by decide +kernel⟩
theorem sc_side_number : FnScope ["pockets", "low", "cut", "high", "amount", "before", "table", "numbers"] ["pockets", "low", "cut", "high", "amount", "before", "table"] (defScope s_side_number) := ⟨rfl, rfl, rfl, by decide +kernel, rfl, by decide +kernel, by decide +kernel⟩
theorem sc_cut_number : FnScope ["pockets", "low", "cut", "high", "amount", "table", "least", "most", "worst", "before"] ["pockets", "low", "cut", "high", "amount", "table"] (defScope s_cut_number) := ⟨rfl, rfl, rfl, by decide +kernel, rfl, by decide +kernel, by decide +kernel⟩
theorem sc_best_cut : FnScope ["pockets", "low", "high", "amount", "table", "best", "cut", "number"] ["pockets", "low", "high", "amount", "table"] (defScope s_best_cut) := ⟨rfl, rfl, rfl, by decide +kernel, rfl, by decide +kernel, by decide +kernel⟩
theorem sc_opening_number : FnScope ["pockets", "low", "high", "amount", "table", "key"] ["pockets", "low", "high", "amount", "table"] (defScope s_opening_number) := ⟨rfl, rfl, rfl, by decide +kernel, rfl, by decide +kernel, by decide +kernel⟩
theorem sc_openings_due : FnScope ["pockets", "missing"] ["pockets", "missing"] (defScope s_openings_due) := ⟨rfl, rfl, rfl, by decide +kernel, rfl, by decide +kernel, by decide +kernel⟩
theorem sc_stretches_along : FnScope ["pockets", "missing", "opened", "found", "low", "known", "place"] ["pockets", "missing", "opened"] (defScope s_stretches_along) := ⟨rfl, rfl, rfl, by decide +kernel, rfl, by decide +kernel, by decide +kernel⟩
theorem sc_opener_opens : FnScope ["pockets", "missing"] ["pockets", "missing"] (defScope s_opener_opens) := ⟨rfl, rfl, rfl, by decide +kernel, rfl, by decide +kernel, by decide +kernel⟩
theorem sc_opener_told : FnScope ["state", "place", "amount"] ["state", "place", "amount"] (defScope s_opener_told) := ⟨rfl, rfl, rfl, by decide +kernel, rfl, by decide +kernel, by decide +kernel⟩
theorem sc_opened_table : FnScope ["rows", "table", "place", "amount"] ["rows"] (defScope s_opened_table) := ⟨rfl, rfl, rfl, by decide +kernel, rfl, by decide +kernel, by decide +kernel⟩
theorem sc_short_stretches : FnScope ["pockets", "missing", "opened", "one"] ["pockets", "missing", "opened"] (defScope s_short_stretches) := ⟨rfl, rfl, rfl, by decide +kernel, rfl, by decide +kernel, by decide +kernel⟩
theorem sc_built_acts : FnScope ["state", "pockets", "missing", "rows", "table", "best", "low", "high", "amount", "number"] ["state"] (defScope s_built_acts) := ⟨rfl, rfl, rfl, by decide +kernel, rfl, by decide +kernel, by decide +kernel⟩
theorem sc_built_opener : FnScope [] [] (defScope s_built_opener) := ⟨rfl, rfl, rfl, by decide +kernel, rfl, by decide +kernel, by decide +kernel⟩
theorem sc_law_purse : FnScope ["script", "at", "cell", "size", "one"] ["script", "at"] (defScope s_law_purse) := ⟨rfl, rfl, rfl, by decide +kernel, rfl, by decide +kernel, by decide +kernel⟩
theorem sc_law_draw : FnScope ["purse", "many", "found"] ["purse", "many"] (defScope s_law_draw) := ⟨rfl, rfl, rfl, by decide +kernel, rfl, by decide +kernel, by decide +kernel⟩
theorem sc_law_mix : FnScope ["purse", "things", "left", "mixed", "turn"] ["purse", "things"] (defScope s_law_mix) := ⟨rfl, rfl, rfl, by decide +kernel, rfl, by decide +kernel, by decide +kernel⟩
theorem sc_law_matches : FnScope ["answer", "due", "at"] ["answer", "due"] (defScope s_law_matches) := ⟨rfl, rfl, rfl, by decide +kernel, rfl, by decide +kernel, by decide +kernel⟩
theorem sc_law_opening : FnScope ["pockets", "missing", "table", "key", "best", "cut", "left", "right", "worst", "before", "sides"] ["pockets", "missing", "table"] (defScope s_law_opening) := ⟨rfl, rfl, rfl, by decide +kernel, rfl, by decide +kernel, by decide +kernel⟩
theorem sc_law_whole_number : FnScope ["thing"] ["thing"] (defScope s_law_whole_number) := ⟨rfl, rfl, rfl, by decide +kernel, rfl, by decide +kernel, by decide +kernel⟩
theorem sc_law_deed : FnScope ["answer"] ["answer"] (defScope s_law_deed) := ⟨rfl, rfl, rfl, by decide +kernel, rfl, by decide +kernel, by decide +kernel⟩
theorem sc_law_all_takings : FnScope ["pockets", "missing", "found", "at", "longer", "one", "left", "least", "taken"] ["pockets", "missing"] (defScope s_law_all_takings) := ⟨rfl, rfl, rfl, by decide +kernel, rfl, by decide +kernel, by decide +kernel⟩
theorem sc_law_drawn_takings : FnScope ["purse", "pockets", "missing", "takings", "order", "left", "at", "some", "more", "pocket"] ["purse", "pockets", "missing"] (defScope s_law_drawn_takings) := ⟨rfl, rfl, rfl, by decide +kernel, rfl, by decide +kernel, by decide +kernel⟩
theorem sc_law_records : FnScope ["opener", "pockets", "missing", "takings", "opens", "acts", "told", "state", "opened", "turn", "answer", "deed"] ["opener", "pockets", "missing", "takings"] (defScope s_law_records) := ⟨rfl, rfl, rfl, by decide +kernel, rfl, by decide +kernel, by decide +kernel⟩
theorem sc_law_small_row : FnScope ["purse", "many", "top", "same", "first", "pockets", "at", "pocket"] ["purse"] (defScope s_law_small_row) := ⟨rfl, rfl, rfl, by decide +kernel, rfl, by decide +kernel, by decide +kernel⟩
theorem sc_law : FnScope ["script", "purse", "pockets", "missing", "least", "opener", "worst", "takings", "records", "wider", "at", "turn"] ["script"] (defScope s_law) := ⟨rfl, rfl, rfl, by decide +kernel, rfl, by decide +kernel, by decide +kernel⟩
section
variable {B : Hp} {P : Program} {w : World} {K : PySem.W.Frag} {mg : Str → Option Value} {base : Heap} {sa : Addr} {ns : List Int}
theorem ok_check_most (Γ : Gx K mg) : HeldF B P w K mg base 1 (He.ga K "check_most") 3 (m_check_most) := by
  obtain ⟨fd, F⟩ := Γ.F_check_most
  exact held (k := 0) (ps := ["what", "number", "most"]) F sc_check_most rfl (by decide) (fun _ _ _ _ _ _ us hl => match us, hl with | [_, _, _], _ => rfl) fun cdv A outer s H E hr => ⟨_, (gss_one (gs_if (gt_cmp ok_gt op_gt (gp_var 1 (pv 1)) (gp_var 2 (pv 2)) rfl) (gss_one gs_never) gss_nil))⟩
theorem ok_check_each (Γ : Gx K mg) : HeldF B P w K mg base 1 (He.ga K "check_each") 3 (m_check_each) := by
  obtain ⟨fd, F⟩ := Γ.F_check_each
  exact held (k := 0) (ps := ["what", "numbers", "most"]) F sc_check_each rfl (by decide) (fun _ _ _ _ _ _ us hl => match us, hl with | [_, _, _], _ => rfl) fun cdv A outer s H E hr => ⟨_, (gss_one (gs_for (gi_list (ge_var 1 (pv 1))) (gg_name (vs := [3]) (i := 3) (by decide) sc_check_each.nd rfl (Or.inl rfl)) (gss_one (gs_if (gt_cmp ok_gt op_gt (gp_var 3 (pv 3)) (gp_var 2 (pv 2)) rfl) (gss_one gs_never) gss_nil)) PassesOwn.never rfl))⟩
theorem ok_check_row (Γ : Gx K mg) : HeldF B P w K mg base 2 (He.ga K "check_row") 2 (m_check_row) := by
  obtain ⟨fd, F⟩ := Γ.F_check_row
  exact held (k := 1) (ps := ["pockets", "missing"]) F sc_check_row rfl (by decide) (fun _ _ _ _ _ _ us hl => match us, hl with | [_, _], _ => rfl) fun cdv A outer s H E hr => ⟨_, (gss_cons (gs_expr (ge_callH (ok_check_most Γ) (hr.mono (by first | decide | omega)) rfl Γ.g_check_most (ga_cons ge_str (ga_cons (ge_f (gf_callB ok_len call_len rfl Γ.n_len (by decide +kernel) (gq_cons (gp_var 0 (pv 0)) gq_nil))) (ga_cons (ge_globI rfl Γ.i_POCKETS) ga_nil)))))
    (gss_cons (gs_expr (ge_callH (ok_check_each Γ) (hr.mono (by first | decide | omega)) rfl Γ.g_check_each (ga_cons ge_str (ga_cons (ge_var 0 (pv 0)) (ga_cons (ge_globI rfl Γ.i_POCKET) ga_nil)))))
    (gss_cons (gs_for (gi_range1 (gp_f (gf_callB ok_len call_len rfl Γ.n_len (by decide +kernel) (gq_cons (gp_var 0 (pv 0)) gq_nil))) rfl Γ.n_range) (gg_name (vs := [2]) (i := 2) (by decide) sc_check_row.nd rfl (Or.inl rfl)) (gss_one (gs_if (gt_cmp ok_lt op_lt (gp_f (gf_ix (gp_var 0 (pv 0)) (gp_var 2 (pv 2)) (fun _ _ => rfl))) (gp_e ge_int) rfl) (gss_one gs_never) gss_nil)) PassesOwn.never rfl)
    (gss_one (gs_if (gt_w (gw_or (gt_cmp ok_eq (op_eqD (Room.units hr)) (gp_f (gf_callB ok_len call_len rfl Γ.n_len (by decide +kernel) (gq_cons (gp_var 0 (pv 0)) gq_nil))) (gp_e ge_int) rfl) (gw_or1 (gt_not (gt_chain ok_le ok_le op_le op_le (gp_e ge_int) (gp_var 1 (pv 1)) (gp_f (gf_callB ok_sum (cr_sum rfl) rfl Γ.n_sum (by decide +kernel) (gq_cons (gp_var 0 (pv 0)) gq_nil)))))))) (gss_one gs_never) gss_nil)))))⟩
theorem ok_hands_named (Γ : Gx K mg) : HeldF B P w K mg base 1 (He.ga K "hands_named") 4 (m_hands_named) := by
  obtain ⟨fd, F⟩ := Γ.F_hands_named
  exact held (k := 0) (ps := ["pockets", "low", "high", "amount"]) F sc_hands_named rfl (by decide) (fun _ _ _ _ _ _ us hl => match us, hl with | [_, _, _, _], _ => rfl) fun cdv A outer s H E hr => ⟨_, (gss_cons (gs_if (gt_cmp ok_eq (op_eqD (Room.units hr)) (gp_var 3 (pv 3)) (gp_e ge_int) rfl) (gss_one (gs_ret (ge_f (gf_lst ga_nil)))) gss_nil)
    (gss_cons (gs_set (i := 4) (gf_op ok_sub op_sub (gp_f (gf_callB ok_sum (cr_sum rfl) rfl Γ.n_sum (by decide +kernel) (gq_cons (gp_f (gf_slice (gp_var 0 (pv 0)) (go_some (gp_var 1 (pv 1))) (go_some (gp_var 2 (pv 2))))) gq_nil))) (gp_var 3 (pv 3))) sc_hands_named.nd rfl (Or.inr rfl))
    (gss_one (gs_ret (ge_f (gf_lc (own := [("at", 5)]) (gi_range2 (gp_var 1 (pv 1)) (gp_var 2 (pv 2)) rfl Γ.n_range) rfl sc_hands_named.nd (blkOk_by (N := ["pockets", "low", "high", "amount", "slack", "at"]) (sc := defScope s_hands_named) (by decide +kernel)) (fun _ _ _ _ _ => (gg_name (vs := [5]) (i := 5) (by decide) sc_hands_named.nd rfl (by first | exact Or.inl rfl | exact Or.inr rfl))) (fun _ _ _ _ _ => (gts_one (gt_cmp ok_gt op_gt (gp_f (gf_ixK (K' := K) rfl (gp_var 0 (pv 0)) (gp_var 5 (pv 5)) (fun _ _ => rfl))) (gp_var 4 (pv 4)) rfl))) (fun _ _ _ _ _ => (ge_f (gf_op ok_add op_addD (gp_var 5 (pv 5)) (gp_e ge_int))))))))))⟩
theorem ok_amounts_before (Γ : Gx K mg) : HeldF B P w K mg base 1 (He.ga K "amounts_before") 5 (m_amounts_before) := by
  obtain ⟨fd, F⟩ := Γ.F_amounts_before
  exact held (k := 0) (ps := ["pockets", "low", "cut", "high", "amount"]) F sc_amounts_before rfl (by decide) (fun _ _ _ _ _ _ us hl => match us, hl with | [_, _, _, _, _], _ => rfl) fun cdv A outer s H E hr => ⟨_, (gss_cons (gs_set (i := 5) (gf_callB ok_max2 (call_max2 rfl) rfl Γ.n_max (by decide +kernel) (gq_cons (gp_e ge_int) (gq_cons (gp_f (gf_op ok_sub op_sub (gp_var 4 (pv 4)) (gp_f (gf_callB ok_sum (cr_sum rfl) rfl Γ.n_sum (by decide +kernel) (gq_cons (gp_f (gf_slice (gp_var 0 (pv 0)) (go_some (gp_var 2 (pv 2))) (go_some (gp_var 3 (pv 3))))) gq_nil))))) gq_nil))) sc_amounts_before.nd rfl (Or.inl rfl))
    (gss_one (gs_ret (ge_tup (ga_cons (ge_var 5 (pv 5)) (ga_cons (ge_f (gf_callB ok_min2 (call_min2 rfl) rfl Γ.n_min (by decide +kernel) (gq_cons (gp_var 4 (pv 4)) (gq_cons (gp_f (gf_callB ok_sum (cr_sum rfl) rfl Γ.n_sum (by decide +kernel) (gq_cons (gp_f (gf_slice (gp_var 0 (pv 0)) (go_some (gp_var 1 (pv 1))) (go_some (gp_var 2 (pv 2))))) gq_nil))) gq_nil)))) ga_nil))))))⟩
theorem ok_side_number (Γ : Gx K mg) {k : Nat} (hk : 1 ≤ k) {on : Fn} (h_on : HeldF B P w K mg base k (He.ga K "opening_number") 5 on) : HeldF B P w K mg base (k + 1) (He.ga K "side_number") 7 (m_side_number on) := by
  obtain ⟨fd, F⟩ := Γ.F_side_number
  exact held (k := k + 0) (ps := ["pockets", "low", "cut", "high", "amount", "before", "table"]) F sc_side_number rfl (by decide) (fun _ _ _ _ _ _ us hl => match us, hl with | [_, _, _, _, _, _, _], _ => rfl) fun cdv A outer s H E hr => ⟨_, (gss_cons (gs_set (i := 7) (gf_lst ga_nil) sc_side_number.nd rfl (Or.inl rfl))
    (gss_cons (gs_if (gt_cmp ok_gt op_gt (gp_var 5 (pv 5)) (gp_e ge_int) rfl) (gss_one (gs_expr (ge_append (gp_var 7 (pv 7)) (ge_callH h_on (hr.mono (by first | decide | omega)) rfl Γ.g_opening_number (ga_cons (ge_var 0 (pv 0)) (ga_cons (ge_var 1 (pv 1)) (ga_cons (ge_var 2 (pv 2)) (ga_cons (ge_var 5 (pv 5)) (ga_cons (ge_var 6 (pv 6)) ga_nil))))))))) gss_nil)
    (gss_cons (gs_if (gt_cmp ok_gt op_gt (gp_var 4 (pv 4)) (gp_var 5 (pv 5)) rfl) (gss_one (gs_expr (ge_append (gp_var 7 (pv 7)) (ge_callH h_on (hr.mono (by first | decide | omega)) rfl Γ.g_opening_number (ga_cons (ge_var 0 (pv 0)) (ga_cons (ge_var 2 (pv 2)) (ga_cons (ge_var 3 (pv 3)) (ga_cons (ge_f (gf_op ok_sub op_sub (gp_var 4 (pv 4)) (gp_var 5 (pv 5)))) (ga_cons (ge_var 6 (pv 6)) ga_nil))))))))) gss_nil)
    (gss_one (gs_ret (ge_f (gf_callB ok_min (cr_min rfl) rfl Γ.n_min (by decide +kernel) (gq_cons (gp_var 7 (pv 7)) gq_nil))))))))⟩
theorem ok_cut_number (Γ : Gx K mg) {k : Nat} (hk : 1 ≤ k) {on : Fn} (h_on : HeldF B P w K mg base k (He.ga K "opening_number") 5 on) : HeldF B P w K mg base (k + 2) (He.ga K "cut_number") 6 (m_cut_number on) := by
  obtain ⟨fd, F⟩ := Γ.F_cut_number
  exact held (k := k + 1) (ps := ["pockets", "low", "cut", "high", "amount", "table"]) F sc_cut_number rfl (by decide) (fun _ _ _ _ _ _ us hl => match us, hl with | [_, _, _, _, _, _], _ => rfl) fun cdv A outer s H E hr => ⟨_, (gss_cons (gs_asg (ge_callH (ok_amounts_before Γ) (hr.mono (by first | decide | omega)) rfl Γ.g_amounts_before (ga_cons (ge_var 0 (pv 0)) (ga_cons (ge_var 1 (pv 1)) (ga_cons (ge_var 2 (pv 2)) (ga_cons (ge_var 3 (pv 3)) (ga_cons (ge_var 4 (pv 4)) ga_nil)))))) (gg_tup (ggs_cons (gg_name (vs := [6, 7]) (i := 6) (by decide) sc_cut_number.nd rfl (Or.inl rfl)) (ggs_cons (gg_name (vs := [6, 7]) (i := 7) (by decide) sc_cut_number.nd rfl (Or.inl rfl)) ggs_nil)) rfl))
    (gss_cons (gs_set (i := 8) (gf_e ge_int) sc_cut_number.nd rfl (Or.inl rfl))
    (gss_cons (gs_for (gi_range2 (gp_var 6 (pv 6)) (gp_f (gf_op ok_add op_addD (gp_var 7 (pv 7)) (gp_e ge_int))) rfl Γ.n_range) (gg_name (vs := [9]) (i := 9) (by decide) sc_cut_number.nd rfl (Or.inl rfl)) (gss_one (gs_set (i := 8) (gf_callB ok_max2 (call_max2 rfl) rfl Γ.n_max (by decide +kernel) (gq_cons (gp_var 8 (pv 8)) (gq_cons (gp_e (ge_callH (ok_side_number Γ hk h_on) (hr.mono (by first | decide | omega)) rfl Γ.g_side_number (ga_cons (ge_var 0 (pv 0)) (ga_cons (ge_var 1 (pv 1)) (ga_cons (ge_var 2 (pv 2)) (ga_cons (ge_var 3 (pv 3)) (ga_cons (ge_var 4 (pv 4)) (ga_cons (ge_var 9 (pv 9)) (ga_cons (ge_var 5 (pv 5)) ga_nil))))))))) gq_nil))) sc_cut_number.nd rfl (Or.inl rfl))) PassesOwn.never rfl)
    (gss_one (gs_ret (ge_var 8 (pv 8)))))))⟩
theorem ok_best_cut (Γ : Gx K mg) {k : Nat} (hk : 1 ≤ k) {on : Fn} (h_on : HeldF B P w K mg base k (He.ga K "opening_number") 5 on) : HeldF B P w K mg base (k + 3) (He.ga K "best_cut") 5 (m_best_cut on) := by
  obtain ⟨fd, F⟩ := Γ.F_best_cut
  exact held (k := k + 2) (ps := ["pockets", "low", "high", "amount", "table"]) F sc_best_cut rfl (by decide) (fun _ _ _ _ _ _ us hl => match us, hl with | [_, _, _, _, _], _ => rfl) fun cdv A outer s H E hr => ⟨_, (gss_cons (gs_set (i := 5) (gf_e ge_non) sc_best_cut.nd rfl (Or.inl rfl))
    (gss_cons (gs_for (gi_range2 (gp_f (gf_op ok_add op_addD (gp_var 1 (pv 1)) (gp_e ge_int))) (gp_var 2 (pv 2)) rfl Γ.n_range) (gg_name (vs := [6]) (i := 6) (by decide) sc_best_cut.nd rfl (Or.inl rfl)) (gss_cons (gs_set (i := 7) (gf_e (ge_callH (ok_cut_number Γ hk h_on) (hr.mono (by first | decide | omega)) rfl Γ.g_cut_number (ga_cons (ge_var 0 (pv 0)) (ga_cons (ge_var 1 (pv 1)) (ga_cons (ge_var 6 (pv 6)) (ga_cons (ge_var 2 (pv 2)) (ga_cons (ge_var 3 (pv 3)) (ga_cons (ge_var 4 (pv 4)) ga_nil)))))))) sc_best_cut.nd rfl (Or.inl rfl))
    (gss_one (gs_if (gt_w (gw_or (gt_cmp ok_isN op_isN (gp_var 5 (pv 5)) (gp_e ge_non) rfl) (gw_or1 (gt_cmp ok_lt op_lt (gp_var 7 (pv 7)) (gp_f (gf_ix (gp_var 5 (pv 5)) (gp_e ge_int) (fun _ _ => rfl))) rfl)))) (gss_one (gs_set (i := 5) (gf_e (ge_tup (ga_cons (ge_var 7 (pv 7)) (ga_cons (ge_var 6 (pv 6)) ga_nil)))) sc_best_cut.nd rfl (Or.inl rfl))) gss_nil))) PassesOwn.never rfl)
    (gss_one (gs_ret (ge_var 5 (pv 5))))))⟩
theorem ok_opening_number (Γ : Gx K mg) : ∀ fu, HeldF B P w K mg base (4 * fu + 1) (He.ga K "opening_number") 5 (m_opening_number fu)
  | 0 => by
    obtain ⟨fd, F⟩ := Γ.F_opening_number
    exact held_none (ps := ["pockets", "low", "high", "amount", "table"]) F rfl (fun _ _ _ _ _ _ us hl => match us, hl with | [_, _, _, _, _], _ => rfl)
  | fu + 1 => by
    obtain ⟨fd, F⟩ := Γ.F_opening_number
    have ih := ok_opening_number Γ fu
    exact HeldF.mono (k := 4 * fu + 1 + 3 + 1) (held (ps := ["pockets", "low", "high", "amount", "table"]) F sc_opening_number rfl (by decide) (fun _ _ _ _ _ _ us hl => match us, hl with | [_, _, _, _, _], _ => rfl) fun cdv A outer s H E hr => ⟨_, (gss_cons (gs_set (i := 5) (gf_e (ge_tup (ga_cons (ge_var 1 (pv 1)) (ga_cons (ge_var 2 (pv 2)) (ga_cons (ge_var 3 (pv 3)) ga_nil))))) sc_opening_number.nd rfl (Or.inl rfl))
    (gss_cons (gs_if (gt_dnotin (un2 hr) (gp_var 5 (pv 5)) (gp_var 4 (pv 4))) (gss_one (gs_if (gt_cmp ok_ne (op_neD (Room.units hr)) (gp_e (ge_callH (ok_hands_named Γ) (hr.mono (by first | decide | omega)) rfl Γ.g_hands_named (ga_cons (ge_var 0 (pv 0)) (ga_cons (ge_var 1 (pv 1)) (ga_cons (ge_var 2 (pv 2)) (ga_cons (ge_var 3 (pv 3)) ga_nil)))))) (gp_f (gf_lst ga_nil)) rfl) (gss_one (gs_dput (un2 hr) (gp_var 4 (pv 4)) (gp_var 5 (pv 5)) ge_int)) (gss_one (gs_dput (un2 hr) (gp_var 4 (pv 4)) (gp_var 5 (pv 5)) (ge_f (gf_op ok_add op_addD (gp_e ge_int) (gp_f (gf_ix (gp_e (ge_callH (ok_best_cut Γ (by omega) ih) (hr.mono (by first | decide | omega)) rfl Γ.g_best_cut (ga_cons (ge_var 0 (pv 0)) (ga_cons (ge_var 1 (pv 1)) (ga_cons (ge_var 2 (pv 2)) (ga_cons (ge_var 3 (pv 3)) (ga_cons (ge_var 4 (pv 4)) ga_nil))))))) (gp_e ge_int) (fun _ _ => rfl))))))))) gss_nil)
    (gss_one (gs_ret (ge_dget (un2 hr) (gp_var 4 (pv 4)) (gp_var 5 (pv 5)) (fun _ _ => rfl))))))⟩) (by omega)
theorem ok_openings_due (Γ : Gx K mg) : HeldF B P w K mg base 50 (He.ga K "openings_due") 2 (m_openings_due) := by
  obtain ⟨fd, F⟩ := Γ.F_openings_due
  exact held (k := 49) (ps := ["pockets", "missing"]) F sc_openings_due rfl (by decide) (fun _ _ _ _ _ _ us hl => match us, hl with | [_, _], _ => rfl) fun cdv A outer s H E hr => ⟨_, (gss_cons (gs_expr (ge_callH (ok_check_row Γ) (hr.mono (by first | decide | omega)) rfl Γ.g_check_row (ga_cons (ge_var 0 (pv 0)) (ga_cons (ge_var 1 (pv 1)) ga_nil))))
    (gss_one (gs_ret (ge_callH (ok_opening_number Γ 12) (hr.mono (by first | decide | omega)) rfl Γ.g_opening_number (ga_cons (ge_var 0 (pv 0)) (ga_cons ge_int (ga_cons (ge_f (gf_callB ok_len call_len rfl Γ.n_len (by decide +kernel) (gq_cons (gp_var 0 (pv 0)) gq_nil))) (ga_cons (ge_var 1 (pv 1)) (ga_cons ge_newT ga_nil)))))))))⟩
theorem ok_stretches_along (Γ : Gx K mg) : HeldF B P w K mg base 1 (He.ga K "stretches_along") 3 (m_stretches_along) := by
  obtain ⟨fd, F⟩ := Γ.F_stretches_along
  exact held (k := 0) (ps := ["pockets", "missing", "opened"]) F sc_stretches_along rfl (by decide) (fun _ _ _ _ _ _ us hl => match us, hl with | [_, _, _], _ => rfl) fun cdv A outer s H E hr => ⟨_, (gss_cons (gs_set (i := 3) (gf_lst ga_nil) sc_stretches_along.nd rfl (Or.inl rfl))
    (gss_cons (gs_set (i := 4) (gf_e ge_int) sc_stretches_along.nd rfl (Or.inl rfl))
    (gss_cons (gs_set (i := 5) (gf_e ge_int) sc_stretches_along.nd rfl (Or.inl rfl))
    (gss_cons (gs_for (gi_list (ge_f (gf_callB ok_sorted cr_sortedI rfl Γ.n_sorted (by decide +kernel) (gq_cons (gp_f (gf_listK (gp_var 2 (pv 2)) rfl rfl Γ.n_list)) gq_nil)))) (gg_name (vs := [6]) (i := 6) (by decide) sc_stretches_along.nd rfl (Or.inl rfl)) (gss_cons (gs_expr (ge_append (gp_var 3 (pv 3)) (ge_tup (ga_cons (ge_var 4 (pv 4)) (ga_cons (ge_var 6 (pv 6)) (ga_cons (ge_f (gf_op ok_sub op_sub (gp_e (ge_dget (un2 hr) (gp_var 2 (pv 2)) (gp_var 6 (pv 6)) (fun _ _ => rfl))) (gp_var 5 (pv 5)))) ga_nil))))))
    (gss_cons (gs_set (i := 4) (gf_e (ge_var 6 (pv 6))) sc_stretches_along.nd rfl (Or.inl rfl))
    (gss_one (gs_set (i := 5) (gf_e (ge_dget (un2 hr) (gp_var 2 (pv 2)) (gp_var 6 (pv 6)) (fun _ _ => rfl))) sc_stretches_along.nd rfl (Or.inl rfl))))) PassesOwn.never rfl)
    (gss_cons (gs_expr (ge_append (gp_var 3 (pv 3)) (ge_tup (ga_cons (ge_var 4 (pv 4)) (ga_cons (ge_f (gf_callB ok_len call_len rfl Γ.n_len (by decide +kernel) (gq_cons (gp_var 0 (pv 0)) gq_nil))) (ga_cons (ge_f (gf_op ok_sub op_sub (gp_var 1 (pv 1)) (gp_var 5 (pv 5)))) ga_nil))))))
    (gss_one (gs_ret (ge_var 3 (pv 3)))))))))⟩
theorem ok_opener_opens (Γ : Gx K mg) : HeldF B P w K mg base 1 (He.ga K "opener_opens") 2 (m_opener_opens) := by
  obtain ⟨fd, F⟩ := Γ.F_opener_opens
  exact held (k := 0) (ps := ["pockets", "missing"]) F sc_opener_opens rfl (by decide) (fun _ _ _ _ _ _ us hl => match us, hl with | [_, _], _ => rfl) fun cdv A outer s H E hr => ⟨_, (gss_one (gs_ret (ge_tup (ga_cons (ge_f (gf_callTy ok_list call_list_of rfl Γ.n_list (by decide +kernel) (gq_cons (gp_var 0 (pv 0)) gq_nil))) (ga_cons (ge_var 1 (pv 1)) (ga_cons (ge_f (gf_lst ga_nil)) ga_nil))))))⟩
theorem ok_opener_told (Γ : Gx K mg) : HeldF B P w K mg base 1 (He.ga K "opener_told") 3 (m_opener_told) := by
  obtain ⟨fd, F⟩ := Γ.F_opener_told
  exact held (k := 0) (ps := ["state", "place", "amount"]) F sc_opener_told rfl (by decide) (fun _ _ _ _ _ _ us hl => match us, hl with | [_, _, _], _ => rfl) fun cdv A outer s H E hr => ⟨_, (gss_one (gs_ret (ge_tup (ga_cons (ge_f (gf_ix (gp_var 0 (pv 0)) (gp_e ge_int) (fun _ _ => rfl))) (ga_cons (ge_f (gf_ix (gp_var 0 (pv 0)) (gp_e ge_int) (fun _ _ => rfl))) (ga_cons (ge_f (gf_op ok_add op_addD (gp_f (gf_ix (gp_var 0 (pv 0)) (gp_e ge_int) (fun _ _ => rfl))) (gp_f (gf_lst (ga_cons (ge_tup (ga_cons (ge_var 1 (pv 1)) (ga_cons (ge_var 2 (pv 2)) ga_nil))) ga_nil))))) ga_nil))))))⟩
theorem ok_opened_table (Γ : Gx K mg) : HeldF B P w K mg base 1 (He.ga K "opened_table") 1 (m_opened_table) := by
  obtain ⟨fd, F⟩ := Γ.F_opened_table
  exact held (k := 0) (ps := ["rows"]) F sc_opened_table rfl (by decide) (fun _ _ _ _ _ _ us hl => match us, hl with | [_], _ => rfl) fun cdv A outer s H E hr => ⟨_, (gss_cons (gs_set (i := 1) (gf_e ge_newK) sc_opened_table.nd rfl (Or.inl rfl))
    (gss_cons (gs_for (gi_list (ge_var 0 (pv 0))) (gg_tup (ggs_cons (gg_name (vs := [2, 3]) (i := 2) (by decide) sc_opened_table.nd rfl (Or.inl rfl)) (ggs_cons (gg_name (vs := [2, 3]) (i := 3) (by decide) sc_opened_table.nd rfl (Or.inl rfl)) ggs_nil)) rfl) (gss_one (gs_dput (un2 hr) (gp_var 1 (pv 1)) (gp_var 2 (pv 2)) (ge_var 3 (pv 3)))) PassesOwn.never rfl)
    (gss_one (gs_ret (ge_var 1 (pv 1))))))⟩
theorem ok_short_stretches (Γ : Gx K mg) : HeldF B P w K mg base 2 (He.ga K "short_stretches") 3 (m_short_stretches) := by
  obtain ⟨fd, F⟩ := Γ.F_short_stretches
  exact held (k := 1) (ps := ["pockets", "missing", "opened"]) F sc_short_stretches rfl (by decide) (fun _ _ _ _ _ _ us hl => match us, hl with | [_, _, _], _ => rfl) fun cdv A outer s H E hr => ⟨_, (gss_one (gs_ret (ge_f (gf_lc (own := [("one", 3)]) (gi_list (ge_callH (ok_stretches_along Γ) (hr.mono (by first | decide | omega)) rfl Γ.g_stretches_along (ga_cons (ge_var 0 (pv 0)) (ga_cons (ge_var 1 (pv 1)) (ga_cons (ge_var 2 (pv 2)) ga_nil))))) rfl sc_short_stretches.nd (blkOk_by (N := ["pockets", "missing", "opened", "one"]) (sc := defScope s_short_stretches) (by decide +kernel)) (fun _ _ _ _ _ => (gg_name (vs := [3]) (i := 3) (by decide) sc_short_stretches.nd rfl (by first | exact Or.inl rfl | exact Or.inr rfl))) (fun _ _ _ _ _ => (gts_one (gt_cmp ok_gt op_gt (gp_f (gf_ixK (K' := K) rfl (gp_var 3 (pv 3)) (gp_e ge_int) (fun _ _ => rfl))) (gp_e ge_int) rfl))) (fun _ _ _ _ _ => (ge_var 3 (pv 3)))))))⟩
theorem ok_built_acts (Γ : Gx K mg) : HeldF B P w K mg base 53 (He.ga K "built_acts") 1 (m_built_acts) := by
  obtain ⟨fd, F⟩ := Γ.F_built_acts
  exact held (k := 52) (ps := ["state"]) F sc_built_acts rfl (by decide) (fun _ _ _ _ _ _ us hl => match us, hl with | [_], _ => rfl) fun cdv A outer s H E hr => ⟨_, (gss_cons (gs_asg (ge_var 0 (pv 0)) (gg_tup (ggs_cons (gg_name (vs := [1, 2, 3]) (i := 1) (by decide) sc_built_acts.nd rfl (Or.inl rfl)) (ggs_cons (gg_name (vs := [1, 2, 3]) (i := 2) (by decide) sc_built_acts.nd rfl (Or.inl rfl)) (ggs_cons (gg_name (vs := [1, 2, 3]) (i := 3) (by decide) sc_built_acts.nd rfl (Or.inl rfl)) ggs_nil))) rfl))
    (gss_cons (gs_set (i := 4) (gf_e ge_newT) sc_built_acts.nd rfl (Or.inl rfl))
    (gss_cons (gs_set (i := 5) (gf_e ge_non) sc_built_acts.nd rfl (Or.inl rfl))
    (gss_cons (gs_for (gi_list (ge_callH (ok_short_stretches Γ) (hr.mono (by first | decide | omega)) rfl Γ.g_short_stretches (ga_cons (ge_var 1 (pv 1)) (ga_cons (ge_var 2 (pv 2)) (ga_cons (ge_callH (ok_opened_table Γ) (hr.mono (by first | decide | omega)) rfl Γ.g_opened_table (ga_cons (ge_var 3 (pv 3)) ga_nil)) ga_nil))))) (gg_tup (ggs_cons (gg_name (vs := [6, 7, 8]) (i := 6) (by decide) sc_built_acts.nd rfl (Or.inl rfl)) (ggs_cons (gg_name (vs := [6, 7, 8]) (i := 7) (by decide) sc_built_acts.nd rfl (Or.inl rfl)) (ggs_cons (gg_name (vs := [6, 7, 8]) (i := 8) (by decide) sc_built_acts.nd rfl (Or.inl rfl)) ggs_nil))) rfl) (gss_cons (gs_set (i := 9) (gf_e (ge_callH (ok_opening_number Γ 12) (hr.mono (by first | decide | omega)) rfl Γ.g_opening_number (ga_cons (ge_var 1 (pv 1)) (ga_cons (ge_var 6 (pv 6)) (ga_cons (ge_var 7 (pv 7)) (ga_cons (ge_var 8 (pv 8)) (ga_cons (ge_var 4 (pv 4)) ga_nil))))))) sc_built_acts.nd rfl (Or.inl rfl))
    (gss_one (gs_if (gt_w (gw_or (gt_cmp ok_isN op_isN (gp_var 5 (pv 5)) (gp_e ge_non) rfl) (gw_or1 (gt_cmp ok_lt op_lt (gp_var 9 (pv 9)) (gp_f (gf_ix (gp_var 5 (pv 5)) (gp_e ge_int) (fun _ _ => rfl))) rfl)))) (gss_one (gs_set (i := 5) (gf_e (ge_tup (ga_cons (ge_var 9 (pv 9)) (ga_cons (ge_var 6 (pv 6)) (ga_cons (ge_var 7 (pv 7)) (ga_cons (ge_var 8 (pv 8)) ga_nil)))))) sc_built_acts.nd rfl (Or.inl rfl))) gss_nil))) PassesOwn.never rfl)
    (gss_cons (gs_asg (ge_var 5 (pv 5)) (gg_tup (ggs_cons (gg_name (vs := [9, 6, 7, 8]) (i := 9) (by decide) sc_built_acts.nd rfl (Or.inl rfl)) (ggs_cons (gg_name (vs := [9, 6, 7, 8]) (i := 6) (by decide) sc_built_acts.nd rfl (Or.inl rfl)) (ggs_cons (gg_name (vs := [9, 6, 7, 8]) (i := 7) (by decide) sc_built_acts.nd rfl (Or.inl rfl)) (ggs_cons (gg_name (vs := [9, 6, 7, 8]) (i := 8) (by decide) sc_built_acts.nd rfl (Or.inl rfl)) ggs_nil)))) rfl))
    (gss_cons (gs_if (gt_cmp ok_eq (op_eqD (Room.units hr)) (gp_var 9 (pv 9)) (gp_e ge_int) rfl) (gss_one (gs_ret (ge_tup (ga_cons (ge_var 0 (pv 0)) (ga_cons (ge_tup (ga_cons ge_str (ga_cons (ge_f (gf_ix (gp_e (ge_callH (ok_hands_named Γ) (hr.mono (by first | decide | omega)) rfl Γ.g_hands_named (ga_cons (ge_var 1 (pv 1)) (ga_cons (ge_var 6 (pv 6)) (ga_cons (ge_var 7 (pv 7)) (ga_cons (ge_var 8 (pv 8)) ga_nil)))))) (gp_e ge_int) (fun _ _ => rfl))) ga_nil))) ga_nil))))) gss_nil)
    (gss_one (gs_ret (ge_tup (ga_cons (ge_var 0 (pv 0)) (ga_cons (ge_tup (ga_cons ge_str (ga_cons (ge_f (gf_ix (gp_e (ge_callH (ok_best_cut Γ (by decide) (ok_opening_number Γ 12)) (hr.mono (by first | decide | omega)) rfl Γ.g_best_cut (ga_cons (ge_var 1 (pv 1)) (ga_cons (ge_var 6 (pv 6)) (ga_cons (ge_var 7 (pv 7)) (ga_cons (ge_var 8 (pv 8)) (ga_cons (ge_var 4 (pv 4)) ga_nil))))))) (gp_e ge_int) (fun _ _ => rfl))) ga_nil))) ga_nil)))))))))))⟩
theorem ok_built_opener (Γ : Gx K mg) : HeldF B P w K mg base 1 (He.ga K "built_opener") 0 (m_built_opener (He.ga K)) := by
  obtain ⟨fd, F⟩ := Γ.F_built_opener
  exact held (k := 0) (ps := []) F sc_built_opener rfl (by decide) (fun _ _ _ _ _ _ us hl => match us, hl with | [], _ => rfl) fun cdv A outer s H E hr => ⟨_, (gss_one (gs_ret (ge_f (gf_lst (ga_cons (ge_glob rfl Γ.g_opener_opens) (ga_cons (ge_glob rfl Γ.g_built_acts) (ga_cons (ge_glob rfl Γ.g_opener_told) ga_nil)))))))⟩
theorem ok_law_purse (hS : SqL K B sa (ns.map V.int)) (Γ : Gx K mg) : HeldF B P w K mg base 1 (He.ga K "_law_purse") 2 (m_law_purse sa ns) := by
  obtain ⟨fd, F⟩ := Γ.F_law_purse
  exact held (k := 0) (ps := ["script", "at"]) F sc_law_purse rfl (by decide) (fun _ _ _ _ _ _ us hl => match us, hl with | [_, _], _ => rfl) fun cdv A outer s H E hr => ⟨_, (gss_cons (gs_set (i := 2) (gf_e (ge_if (gt_cmp ok_lt op_lt (gp_var 1 (pv 1)) (gp_f (gf_scLen hS rfl Γ.n_len (by decide +kernel) (gq_cons (gp_var 0 (pv 0)) gq_nil))) rfl) (ge_f (gf_callTy ok_int call_int1 rfl Γ.n_int (by decide +kernel) (gq_cons (gp_f (gf_scIx hS (gp_var 0 (pv 0)) (gp_var 1 (pv 1)) (fun _ _ => rfl))) gq_nil))) (ge_f (gf_op ok_mul op_mulD (gp_e ge_int) (gp_f (gf_callB ok_sum (cr_sum rfl) rfl Γ.n_sum (by decide +kernel) (gq_cons (gp_f (gf_lc (own := [("one", 4)]) (gi_list (ge_f (gf_scSlice hS (gp_var 0 (pv 0)) go_none (go_some (gp_e ge_int))))) rfl sc_law_purse.nd (blkOk_by (N := ["script", "at", "cell", "size", "one"]) (sc := defScope s_law_purse) (by decide +kernel)) (fun _ _ _ _ _ => (gg_name (vs := [4]) (i := 4) (by decide) sc_law_purse.nd rfl (by first | exact Or.inl rfl | exact Or.inr rfl))) (fun _ _ _ _ _ => gts_nil) (fun _ _ _ _ _ => (ge_f (gf_callTy ok_int call_int1 rfl Γ.n_int (by decide +kernel) (gq_cons (gp_var 4 (pv 4)) gq_nil)))))) gq_nil))))))) sc_law_purse.nd rfl (Or.inl rfl))
    (gss_cons (gs_set (i := 3) (gf_op ok_add op_addD (gp_f (gf_op ok_mul op_mulD (gp_e ge_int) (gp_f (gf_callB ok_abs call_abs rfl Γ.n_abs (by decide +kernel) (gq_cons (gp_var 2 (pv 2)) gq_nil))))) (gp_e (ge_if (gt_cmp ok_lt op_lt (gp_var 2 (pv 2)) (gp_e ge_int) rfl) ge_int ge_int))) sc_law_purse.nd rfl (Or.inl rfl))
    (gss_one (gs_ret (ge_alloc (gf_lst (ga_cons (ge_if (gt_cmp ok_ge op_ge (gp_var 3 (pv 3)) (gp_f (gf_op ok_pow op_pow (gp_e ge_int) (gp_e ge_int))) rfl) (ge_var 3 (pv 3)) ge_int) (ga_cons (ge_f (gf_op ok_mod op_mod (gp_f (gf_callTy ok_int call_int1 rfl Γ.n_int (by decide +kernel) (gq_cons (gp_f (gf_op ok_add op_addD (gp_f (gf_op ok_add op_addD (gp_var 3 (pv 3)) (gp_f (gf_op ok_mul op_mulD (gp_var 1 (pv 1)) (gp_e ge_int))))) (gp_e ge_int))) gq_nil))) (gp_e ge_int))) (ga_cons (ge_var 1 (pv 1)) ga_nil)))))))))⟩
theorem ok_law_draw (Γ : Gx K mg) : HeldF B P w K mg base 1 (He.ga K "_law_draw") 2 (m_law_draw) := by
  obtain ⟨fd, F⟩ := Γ.F_law_draw
  exact held (k := 0) (ps := ["purse", "many"]) F sc_law_draw rfl (by decide) (fun _ _ _ _ _ _ us hl => match us, hl with | [_, _], _ => rfl) fun cdv A outer s H E hr => ⟨_, (gss_cons (gs_if (gt_cmp ok_gt op_gt (gp_f (gf_ix (gp_var 0 (pv 0)) (gp_e ge_int) (fun _ _ => rfl))) (gp_e ge_int) rfl) (gss_cons (gs_set (i := 2) (gf_op ok_mod op_mod (gp_f (gf_callTy ok_int call_int1 rfl Γ.n_int (by decide +kernel) (gq_cons (gp_f (gf_ix (gp_var 0 (pv 0)) (gp_e ge_int) (fun _ _ => rfl))) gq_nil))) (gp_var 1 (pv 1))) sc_law_draw.nd rfl (Or.inl rfl))
    (gss_cons (gs_asg (ge_f (gf_op ok_div op_fdivW (gp_f (gf_ix (gp_var 0 (pv 0)) (gp_e ge_int) (fun _ _ => rfl))) (gp_var 1 (pv 1)))) (gg_sub (vs := []) (gp_var 0 (pv 0)) (gp_e ge_int)))
    (gss_one (gs_ret (ge_var 2 (pv 2)))))) gss_nil)
    (gss_cons (gs_augS (gp_var 0 (pv 0)) (gp_e ge_int) (gp_e ge_int) ip_add)
    (gss_cons (gs_asg (ge_f (gf_op ok_mod op_mod (gp_f (gf_callTy ok_int call_int1 rfl Γ.n_int (by decide +kernel) (gq_cons (gp_f (gf_op ok_add op_addD (gp_f (gf_op ok_mul op_mulD (gp_f (gf_ix (gp_var 0 (pv 0)) (gp_e ge_int) (fun _ _ => rfl))) (gp_e ge_int))) (gp_f (gf_op ok_mul op_mulD (gp_f (gf_ix (gp_var 0 (pv 0)) (gp_e ge_int) (fun _ _ => rfl))) (gp_e ge_int))))) gq_nil))) (gp_e ge_int))) (gg_sub (vs := []) (gp_var 0 (pv 0)) (gp_e ge_int)))
    (gss_one (gs_ret (ge_f (gf_op ok_mod op_mod (gp_f (gf_op ok_div op_fdivW (gp_f (gf_op ok_mod op_mod (gp_f (gf_callTy ok_int call_int1 rfl Γ.n_int (by decide +kernel) (gq_cons (gp_f (gf_op ok_add op_addD (gp_f (gf_op ok_mul op_mulD (gp_f (gf_ix (gp_var 0 (pv 0)) (gp_e ge_int) (fun _ _ => rfl))) (gp_e ge_int))) (gp_f (gf_op ok_mul op_mulD (gp_f (gf_ix (gp_var 0 (pv 0)) (gp_e ge_int) (fun _ _ => rfl))) (gp_e ge_int))))) gq_nil))) (gp_e ge_int))) (gp_e ge_int))) (gp_var 1 (pv 1)))))))))⟩
theorem ok_law_mix (Γ : Gx K mg) : HeldF B P w K mg base 2 (He.ga K "_law_mix") 2 (m_law_mix) := by
  obtain ⟨fd, F⟩ := Γ.F_law_mix
  exact held (k := 1) (ps := ["purse", "things"]) F sc_law_mix rfl (by decide) (fun _ _ _ _ _ _ us hl => match us, hl with | [_, _], _ => rfl) fun cdv A outer s H E hr => ⟨_, (gss_cons (gs_set (i := 2) (gf_callTy ok_list call_list_of rfl Γ.n_list (by decide +kernel) (gq_cons (gp_var 1 (pv 1)) gq_nil)) sc_law_mix.nd rfl (Or.inl rfl))
    (gss_cons (gs_set (i := 3) (gf_lst ga_nil) sc_law_mix.nd rfl (Or.inl rfl))
    (gss_cons (gs_for (gi_range1 (gp_f (gf_callB ok_len call_len rfl Γ.n_len (by decide +kernel) (gq_cons (gp_var 1 (pv 1)) gq_nil))) rfl Γ.n_range) (gg_name (vs := [4]) (i := 4) (by decide) sc_law_mix.nd rfl (Or.inl rfl)) (gss_one (gs_expr (ge_append (gp_var 3 (pv 3)) (ge_popAt (gp_var 2 (pv 2)) (gp_e (ge_callH (ok_law_draw Γ) (hr.mono (by first | decide | omega)) rfl Γ.g_law_draw (ga_cons (ge_var 0 (pv 0)) (ga_cons (ge_f (gf_callB ok_len call_len rfl Γ.n_len (by decide +kernel) (gq_cons (gp_var 2 (pv 2)) gq_nil))) ga_nil)))))))) PassesOwn.never rfl)
    (gss_one (gs_ret (ge_var 3 (pv 3)))))))⟩
theorem ok_law_matches (Γ : Gx K mg) : ∀ fu, HeldF B P w K mg base (1 * fu + 0) (He.ga K "_law_matches") 2 (m_law_matches fu)
  | 0 => by
    obtain ⟨fd, F⟩ := Γ.F_law_matches
    exact held_none (ps := ["answer", "due"]) F rfl (fun _ _ _ _ _ _ us hl => match us, hl with | [_, _], _ => rfl)
  | fu + 1 => by
    obtain ⟨fd, F⟩ := Γ.F_law_matches
    have ih := ok_law_matches Γ fu
    exact HeldF.mono (k := 1 * fu + 0 + 0 + 1) (held (ps := ["answer", "due"]) F sc_law_matches rfl (by decide) (fun _ _ _ _ _ _ us hl => match us, hl with | [_, _], _ => rfl) fun cdv A outer s H E hr => ⟨_, (gss_cons (gs_if (gt_w (gw_or (gt_cmp ok_isN op_isN (gp_var 1 (pv 1)) (gp_e ge_non) rfl) (gw_or1 (gt_cmp ok_isN op_isN (gp_var 0 (pv 0)) (gp_e ge_non) rfl)))) (gss_one (gs_ret (ge_and (ge_f (gf_cmp ok_isN op_isN (gp_var 1 (pv 1)) (gp_e ge_non) rfl)) (ge_one (ge_f (gf_cmp ok_isN op_isN (gp_var 0 (pv 0)) (gp_e ge_non) rfl)))))) gss_nil)
    (gss_cons (gs_if (gt_w (gw_or (gt_tru (gp_f (gf_isi .bool rfl Γ.n_isinstance (by decide +kernel) rfl Γ.n_bool (by decide +kernel) (gp_var 1 (pv 1))))) (gw_or1 (gt_tru (gp_f (gf_isi .bool rfl Γ.n_isinstance (by decide +kernel) rfl Γ.n_bool (by decide +kernel) (gp_var 0 (pv 0)))))))) (gss_one (gs_ret (ge_and (ge_f (gf_isi .bool rfl Γ.n_isinstance (by decide +kernel) rfl Γ.n_bool (by decide +kernel) (gp_var 1 (pv 1)))) (ge_and (ge_f (gf_isi .bool rfl Γ.n_isinstance (by decide +kernel) rfl Γ.n_bool (by decide +kernel) (gp_var 0 (pv 0)))) (ge_one (ge_f (gf_cmp ok_eq (op_eqD (Room.units hr)) (gp_var 0 (pv 0)) (gp_var 1 (pv 1)) rfl))))))) gss_nil)
    (gss_cons (gs_if (gt_tru (gp_f (gf_isi .int rfl Γ.n_isinstance (by decide +kernel) rfl Γ.n_int (by decide +kernel) (gp_var 1 (pv 1))))) (gss_one (gs_ret (ge_and (ge_f (gf_isi .int rfl Γ.n_isinstance (by decide +kernel) rfl Γ.n_int (by decide +kernel) (gp_var 0 (pv 0)))) (ge_one (ge_f (gf_cmp ok_eq (op_eqD (Room.units hr)) (gp_var 0 (pv 0)) (gp_var 1 (pv 1)) rfl)))))) gss_nil)
    (gss_cons (gs_if (gt_tru (gp_f (gf_isi .str rfl Γ.n_isinstance (by decide +kernel) rfl Γ.n_str (by decide +kernel) (gp_var 1 (pv 1))))) (gss_one (gs_ret (ge_and (ge_f (gf_isi .str rfl Γ.n_isinstance (by decide +kernel) rfl Γ.n_str (by decide +kernel) (gp_var 0 (pv 0)))) (ge_one (ge_f (gf_cmp ok_eq (op_eqD (Room.units hr)) (gp_var 0 (pv 0)) (gp_var 1 (pv 1)) rfl)))))) gss_nil)
    (gss_cons (gs_if (gt_w (gw_and (gt_tru (gp_f (gf_isi .tuple rfl Γ.n_isinstance (by decide +kernel) rfl Γ.n_tuple (by decide +kernel) (gp_var 1 (pv 1))))) (gw_and1 (gt_not (gt_tru (gp_f (gf_isi .tuple rfl Γ.n_isinstance (by decide +kernel) rfl Γ.n_tuple (by decide +kernel) (gp_var 0 (pv 0))))))))) (gss_one (gs_ret ge_bl)) gss_nil)
    (gss_cons (gs_if (gt_w (gw_and (gt_tru (gp_f (gf_isi .list rfl Γ.n_isinstance (by decide +kernel) rfl Γ.n_list (by decide +kernel) (gp_var 1 (pv 1))))) (gw_and1 (gt_not (gt_tru (gp_f (gf_isi .list rfl Γ.n_isinstance (by decide +kernel) rfl Γ.n_list (by decide +kernel) (gp_var 0 (pv 0))))))))) (gss_one (gs_ret ge_bl)) gss_nil)
    (gss_cons (gs_if (gt_cmp ok_ne (op_neD (Room.units hr)) (gp_f (gf_callB ok_len call_len rfl Γ.n_len (by decide +kernel) (gq_cons (gp_var 0 (pv 0)) gq_nil))) (gp_f (gf_callB ok_len call_len rfl Γ.n_len (by decide +kernel) (gq_cons (gp_var 1 (pv 1)) gq_nil))) rfl) (gss_one (gs_ret ge_bl)) gss_nil)
    (gss_cons (gs_for (gi_range1 (gp_f (gf_callB ok_len call_len rfl Γ.n_len (by decide +kernel) (gq_cons (gp_var 1 (pv 1)) gq_nil))) rfl Γ.n_range) (gg_name (vs := [2]) (i := 2) (by decide) sc_law_matches.nd rfl (Or.inl rfl)) (gss_one (gs_if (gt_not (gt_tru (gp_e (ge_callH ih (hr.mono (by first | decide | omega)) rfl Γ.g_law_matches (ga_cons (ge_f (gf_ix (gp_var 0 (pv 0)) (gp_var 2 (pv 2)) (fun _ _ => rfl))) (ga_cons (ge_f (gf_ix (gp_var 1 (pv 1)) (gp_var 2 (pv 2)) (fun _ _ => rfl))) ga_nil)))))) (gss_one (gs_ret ge_bl)) gss_nil)) PassesOwn.never rfl)
    (gss_one (gs_ret ge_bl))))))))))⟩) (by omega)
theorem ok_law_opening (Γ : Gx K mg) : ∀ fu, HeldF B P w K mg base (1 * fu + 0) (He.ga K "_law_opening") 3 (m_law_opening fu)
  | 0 => by
    obtain ⟨fd, F⟩ := Γ.F_law_opening
    exact held_none (ps := ["pockets", "missing", "table"]) F rfl (fun _ _ _ _ _ _ us hl => match us, hl with | [_, _, _], _ => rfl)
  | fu + 1 => by
    obtain ⟨fd, F⟩ := Γ.F_law_opening
    have ih := ok_law_opening Γ fu
    exact HeldF.mono (k := 1 * fu + 0 + 0 + 1) (held (ps := ["pockets", "missing", "table"]) F sc_law_opening rfl (by decide) (fun _ _ _ _ _ _ us hl => match us, hl with | [_, _, _], _ => rfl) fun cdv A outer s H E hr => ⟨_, (gss_cons (gs_set (i := 3) (gf_e (ge_tup (ga_cons (ge_f (gf_callTy ok_tuple call_tuple_of rfl Γ.n_tuple (by decide +kernel) (gq_cons (gp_var 0 (pv 0)) gq_nil))) (ga_cons (ge_var 1 (pv 1)) ga_nil)))) sc_law_opening.nd rfl (Or.inl rfl))
    (gss_cons (gs_if (gt_din (un2 hr) (gp_var 3 (pv 3)) (gp_var 2 (pv 2))) (gss_one (gs_ret (ge_dget (un2 hr) (gp_var 2 (pv 2)) (gp_var 3 (pv 3)) (fun _ _ => rfl)))) gss_nil)
    (gss_cons (gs_set (i := 4) (gf_e ge_int) sc_law_opening.nd rfl (Or.inl rfl))
    (gss_cons (gs_if (gt_cmp ok_le op_le (gp_f (gf_callB ok_max (cr_max rfl) rfl Γ.n_max (by decide +kernel) (gq_cons (gp_var 0 (pv 0)) gq_nil))) (gp_f (gf_op ok_sub op_sub (gp_f (gf_callB ok_sum (cr_sum rfl) rfl Γ.n_sum (by decide +kernel) (gq_cons (gp_var 0 (pv 0)) gq_nil))) (gp_var 1 (pv 1)))) rfl) (gss_cons (gs_set (i := 4) (gf_un ok_neg un_neg (gp_e ge_int)) sc_law_opening.nd rfl (Or.inl rfl))
    (gss_one (gs_for (gi_range2 (gp_e ge_int) (gp_f (gf_callB ok_len call_len rfl Γ.n_len (by decide +kernel) (gq_cons (gp_var 0 (pv 0)) gq_nil))) rfl Γ.n_range) (gg_name (vs := [5]) (i := 5) (by decide) sc_law_opening.nd rfl (Or.inl rfl)) (gss_cons (gs_set (i := 6) (gf_e (ge_f (gf_slice (gp_var 0 (pv 0)) go_none (go_some (gp_var 5 (pv 5)))))) sc_law_opening.nd rfl (Or.inl rfl))
    (gss_cons (gs_set (i := 7) (gf_e (ge_f (gf_slice (gp_var 0 (pv 0)) (go_some (gp_var 5 (pv 5))) go_none))) sc_law_opening.nd rfl (Or.inl rfl))
    (gss_cons (gs_set (i := 8) (gf_e ge_int) sc_law_opening.nd rfl (Or.inl rfl))
    (gss_cons (gs_for (gi_range2 (gp_f (gf_callB ok_max2 (call_max2 rfl) rfl Γ.n_max (by decide +kernel) (gq_cons (gp_e ge_int) (gq_cons (gp_f (gf_op ok_sub op_sub (gp_var 1 (pv 1)) (gp_f (gf_callB ok_sum (cr_sum rfl) rfl Γ.n_sum (by decide +kernel) (gq_cons (gp_var 7 (pv 7)) gq_nil))))) gq_nil)))) (gp_f (gf_op ok_add op_addD (gp_f (gf_callB ok_min2 (call_min2 rfl) rfl Γ.n_min (by decide +kernel) (gq_cons (gp_var 1 (pv 1)) (gq_cons (gp_f (gf_callB ok_sum (cr_sum rfl) rfl Γ.n_sum (by decide +kernel) (gq_cons (gp_var 6 (pv 6)) gq_nil))) gq_nil)))) (gp_e ge_int))) rfl Γ.n_range) (gg_name (vs := [9]) (i := 9) (by decide) sc_law_opening.nd rfl (Or.inl rfl)) (gss_cons (gs_set (i := 10) (gf_lst ga_nil) sc_law_opening.nd rfl (Or.inl rfl))
    (gss_cons (gs_if (gt_cmp ok_gt op_gt (gp_var 9 (pv 9)) (gp_e ge_int) rfl) (gss_one (gs_expr (ge_append (gp_var 10 (pv 10)) (ge_callH ih (hr.mono (by first | decide | omega)) rfl Γ.g_law_opening (ga_cons (ge_var 6 (pv 6)) (ga_cons (ge_var 9 (pv 9)) (ga_cons (ge_var 2 (pv 2)) ga_nil))))))) gss_nil)
    (gss_cons (gs_if (gt_cmp ok_gt op_gt (gp_var 1 (pv 1)) (gp_var 9 (pv 9)) rfl) (gss_one (gs_expr (ge_append (gp_var 10 (pv 10)) (ge_callH ih (hr.mono (by first | decide | omega)) rfl Γ.g_law_opening (ga_cons (ge_var 7 (pv 7)) (ga_cons (ge_f (gf_op ok_sub op_sub (gp_var 1 (pv 1)) (gp_var 9 (pv 9)))) (ga_cons (ge_var 2 (pv 2)) ga_nil))))))) gss_nil)
    (gss_one (gs_set (i := 8) (gf_callB ok_max2 (call_max2 rfl) rfl Γ.n_max (by decide +kernel) (gq_cons (gp_var 8 (pv 8)) (gq_cons (gp_f (gf_callB ok_min (cr_min rfl) rfl Γ.n_min (by decide +kernel) (gq_cons (gp_var 10 (pv 10)) gq_nil))) gq_nil))) sc_law_opening.nd rfl (Or.inl rfl)))))) PassesOwn.never rfl)
    (gss_one (gs_if (gt_w (gw_or (gt_cmp ok_lt op_lt (gp_var 4 (pv 4)) (gp_e ge_int) rfl) (gw_or1 (gt_cmp ok_lt op_lt (gp_f (gf_op ok_add op_addD (gp_var 8 (pv 8)) (gp_e ge_int))) (gp_var 4 (pv 4)) rfl)))) (gss_one (gs_set (i := 4) (gf_op ok_add op_addD (gp_var 8 (pv 8)) (gp_e ge_int)) sc_law_opening.nd rfl (Or.inl rfl))) gss_nil)))))) PassesOwn.never rfl))) gss_nil)
    (gss_cons (gs_dput (un2 hr) (gp_var 2 (pv 2)) (gp_var 3 (pv 3)) (ge_var 4 (pv 4)))
    (gss_one (gs_ret (ge_var 4 (pv 4)))))))))⟩) (by omega)
theorem ok_law_whole_number (Γ : Gx K mg) : HeldF B P w K mg base 1 (He.ga K "_law_whole_number") 1 (m_law_whole_number) := by
  obtain ⟨fd, F⟩ := Γ.F_law_whole_number
  exact held (k := 0) (ps := ["thing"]) F sc_law_whole_number rfl (by decide) (fun _ _ _ _ _ _ us hl => match us, hl with | [_], _ => rfl) fun cdv A outer s H E hr => ⟨_, (gss_one (gs_ret (ge_and (ge_f (gf_isi .int rfl Γ.n_isinstance (by decide +kernel) rfl Γ.n_int (by decide +kernel) (gp_var 0 (pv 0)))) (ge_one (ge_not (ge_f (gf_isi .bool rfl Γ.n_isinstance (by decide +kernel) rfl Γ.n_bool (by decide +kernel) (gp_var 0 (pv 0)))))))))⟩
theorem ok_law_deed (Γ : Gx K mg) : HeldF B P w K mg base 1 (He.ga K "_law_deed") 1 (m_law_deed) := by
  obtain ⟨fd, F⟩ := Γ.F_law_deed
  exact held (k := 0) (ps := ["answer"]) F sc_law_deed rfl (by decide) (fun _ _ _ _ _ _ us hl => match us, hl with | [_], _ => rfl) fun cdv A outer s H E hr => ⟨_, (gss_cons (gs_if (gt_w (gw_or (gt_not (gt_tru (gp_f (gf_isi .tuple rfl Γ.n_isinstance (by decide +kernel) rfl Γ.n_tuple (by decide +kernel) (gp_var 0 (pv 0)))))) (gw_or (gt_cmp ok_ne (op_neD (Room.units hr)) (gp_f (gf_callB ok_len call_len rfl Γ.n_len (by decide +kernel) (gq_cons (gp_var 0 (pv 0)) gq_nil))) (gp_e ge_int) rfl) (gw_or1 (gt_not (gt_tru (gp_f (gf_isi .tuple rfl Γ.n_isinstance (by decide +kernel) rfl Γ.n_tuple (by decide +kernel) (gp_f (gf_ix (gp_var 0 (pv 0)) (gp_e ge_int) (fun _ _ => rfl))))))))))) (gss_one (gs_ret ge_non)) gss_nil)
    (gss_one (gs_ret (ge_f (gf_ix (gp_var 0 (pv 0)) (gp_e ge_int) (fun _ _ => rfl))))))⟩
theorem ok_law_all_takings (Γ : Gx K mg) : HeldF B P w K mg base 1 (He.ga K "_law_all_takings") 2 (m_law_all_takings) := by
  obtain ⟨fd, F⟩ := Γ.F_law_all_takings
  exact held (k := 0) (ps := ["pockets", "missing"]) F sc_law_all_takings rfl (by decide) (fun _ _ _ _ _ _ us hl => match us, hl with | [_, _], _ => rfl) fun cdv A outer s H E hr => ⟨_, (gss_cons (gs_set (i := 2) (gf_e (ge_f (gf_lst (ga_cons (ge_f (gf_lst ga_nil)) ga_nil)))) sc_law_all_takings.nd rfl (Or.inl rfl))
    (gss_cons (gs_for (gi_range1 (gp_f (gf_callB ok_len call_len rfl Γ.n_len (by decide +kernel) (gq_cons (gp_var 0 (pv 0)) gq_nil))) rfl Γ.n_range) (gg_name (vs := [3]) (i := 3) (by decide) sc_law_all_takings.nd rfl (Or.inl rfl)) (gss_cons (gs_set (i := 4) (gf_lst ga_nil) sc_law_all_takings.nd rfl (Or.inl rfl))
    (gss_cons (gs_for (gi_list (ge_var 2 (pv 2))) (gg_name (vs := [5]) (i := 5) (by decide) sc_law_all_takings.nd rfl (Or.inr rfl)) (gss_cons (gs_set (i := 6) (gf_op ok_sub op_sub (gp_var 1 (pv 1)) (gp_f (gf_callB ok_sum (cr_sum rfl) rfl Γ.n_sum (by decide +kernel) (gq_cons (gp_var 5 (pv 5)) gq_nil)))) sc_law_all_takings.nd rfl (Or.inl rfl))
    (gss_cons (gs_set (i := 7) (gf_callB ok_max2 (call_max2 rfl) rfl Γ.n_max (by decide +kernel) (gq_cons (gp_e ge_int) (gq_cons (gp_f (gf_op ok_sub op_sub (gp_var 6 (pv 6)) (gp_f (gf_callB ok_sum (cr_sum rfl) rfl Γ.n_sum (by decide +kernel) (gq_cons (gp_f (gf_slice (gp_var 0 (pv 0)) (go_some (gp_f (gf_op ok_add op_addD (gp_var 3 (pv 3)) (gp_e ge_int)))) go_none)) gq_nil))))) gq_nil))) sc_law_all_takings.nd rfl (Or.inl rfl))
    (gss_one (gs_set (i := 4) (gf_op ok_add op_addD (gp_var 4 (pv 4)) (gp_f (gf_lc (own := [("taken", 8)]) (gi_range2 (gp_var 7 (pv 7)) (gp_f (gf_op ok_add op_addD (gp_f (gf_callB ok_min2 (call_min2 rfl) rfl Γ.n_min (by decide +kernel) (gq_cons (gp_var 6 (pv 6)) (gq_cons (gp_f (gf_ix (gp_var 0 (pv 0)) (gp_var 3 (pv 3)) (fun _ _ => rfl))) gq_nil)))) (gp_e ge_int))) rfl Γ.n_range) rfl sc_law_all_takings.nd (blkOk_by (N := ["pockets", "missing", "found", "at", "longer", "one", "left", "least", "taken"]) (sc := defScope s_law_all_takings) (by decide +kernel)) (fun _ _ _ _ _ => (gg_name (vs := [8]) (i := 8) (by decide) sc_law_all_takings.nd rfl (by first | exact Or.inl rfl | exact Or.inr rfl))) (fun _ _ _ _ _ => gts_nil) (fun _ _ _ _ _ => (ge_f (gf_op ok_add op_addD (gp_var 5 (pv 5)) (gp_f (gf_lst (ga_cons (ge_var 8 (pv 8)) ga_nil))))))))) sc_law_all_takings.nd rfl (Or.inl rfl))))) PassesOwn.never rfl)
    (gss_one (gs_set (i := 2) (gf_e (ge_var 4 (pv 4))) sc_law_all_takings.nd rfl (Or.inl rfl))))) PassesOwn.never rfl)
    (gss_one (gs_ret (ge_var 2 (pv 2))))))⟩
theorem ok_law_drawn_takings (Γ : Gx K mg) : HeldF B P w K mg base 3 (He.ga K "_law_drawn_takings") 3 (m_law_drawn_takings) := by
  obtain ⟨fd, F⟩ := Γ.F_law_drawn_takings
  exact held (k := 2) (ps := ["purse", "pockets", "missing"]) F sc_law_drawn_takings rfl (by decide) (fun _ _ _ _ _ _ us hl => match us, hl with | [_, _, _], _ => rfl) fun cdv A outer s H E hr => ⟨_, (gss_cons (gs_setLc (i := 3) (own := [("pocket", 9)]) (gi_list (ge_var 1 (pv 1))) rfl sc_law_drawn_takings.nd rfl rfl rfl (blkOk_by (N := ["purse", "pockets", "missing", "takings", "order", "left", "at", "some", "more", "pocket"]) (sc := defScope s_law_drawn_takings) (by decide +kernel)) (fun _ _ _ _ _ => (gg_name (vs := [9]) (i := 9) (by decide) sc_law_drawn_takings.nd rfl (by first | exact Or.inl rfl | exact Or.inr rfl))) (fun _ _ _ _ _ => gts_nil) (fun _ _ _ _ _ => ge_int))
    (gss_cons (gs_set (i := 4) (gf_e (ge_callH (ok_law_mix Γ) (hr.mono (by first | decide | omega)) rfl Γ.g_law_mix (ga_cons (ge_var 0 (pv 0)) (ga_cons (ge_f (gf_listRg (gr_1 (gp_f (gf_callB ok_len call_len rfl Γ.n_len (by decide +kernel) (gq_cons (gp_var 1 (pv 1)) gq_nil))) rfl Γ.n_range) rfl rfl Γ.n_list)) ga_nil)))) sc_law_drawn_takings.nd rfl (Or.inl rfl))
    (gss_cons (gs_set (i := 5) (gf_e (ge_var 2 (pv 2))) sc_law_drawn_takings.nd rfl (Or.inl rfl))
    (gss_cons (gs_for (gi_list (ge_var 4 (pv 4))) (gg_name (vs := [6]) (i := 6) (by decide) sc_law_drawn_takings.nd rfl (Or.inl rfl)) (gss_cons (gs_set (i := 7) (gf_callB ok_min3 (call_min3Nu rfl) rfl Γ.n_min (by decide +kernel) (gq_cons (gp_var 5 (pv 5)) (gq_cons (gp_f (gf_ix (gp_var 1 (pv 1)) (gp_var 6 (pv 6)) (fun _ _ => rfl))) (gq_cons (gp_f (gf_op ok_add op_addD (gp_e ge_int) (gp_e (ge_callH (ok_law_draw Γ) (hr.mono (by first | decide | omega)) rfl Γ.g_law_draw (ga_cons (ge_var 0 (pv 0)) (ga_cons ge_int ga_nil)))))) gq_nil)))) sc_law_drawn_takings.nd rfl (Or.inl rfl))
    (gss_cons (gs_asg (ge_var 7 (pv 7)) (gg_sub (vs := []) (gp_var 3 (pv 3)) (gp_var 6 (pv 6))))
    (gss_one (gs_aug (i := 5) (gp_var 7 (pv 7)) ip_sub sc_law_drawn_takings.nd rfl (Or.inl rfl))))) PassesOwn.never rfl)
    (gss_cons (gs_for (gi_list (ge_var 4 (pv 4))) (gg_name (vs := [6]) (i := 6) (by decide) sc_law_drawn_takings.nd rfl (Or.inl rfl)) (gss_cons (gs_set (i := 8) (gf_callB ok_min2 (call_min2 rfl) rfl Γ.n_min (by decide +kernel) (gq_cons (gp_var 5 (pv 5)) (gq_cons (gp_f (gf_op ok_sub op_sub (gp_f (gf_ix (gp_var 1 (pv 1)) (gp_var 6 (pv 6)) (fun _ _ => rfl))) (gp_f (gf_ix (gp_var 3 (pv 3)) (gp_var 6 (pv 6)) (fun _ _ => rfl))))) gq_nil))) sc_law_drawn_takings.nd rfl (Or.inl rfl))
    (gss_cons (gs_asg (ge_f (gf_op ok_add op_addD (gp_f (gf_ix (gp_var 3 (pv 3)) (gp_var 6 (pv 6)) (fun _ _ => rfl))) (gp_var 8 (pv 8)))) (gg_sub (vs := []) (gp_var 3 (pv 3)) (gp_var 6 (pv 6))))
    (gss_one (gs_aug (i := 5) (gp_var 8 (pv 8)) ip_sub sc_law_drawn_takings.nd rfl (Or.inl rfl))))) PassesOwn.never rfl)
    (gss_one (gs_ret (ge_var 3 (pv 3)))))))))⟩
theorem ok_law_records (Γ : Gx K mg) : HeldF B P w K mg base 54 (He.ga K "_law_records") 4 (m_law_records (He.ga K)) := by
  obtain ⟨fd, F⟩ := Γ.F_law_records
  exact held (k := 53) (ps := ["opener", "pockets", "missing", "takings"]) F sc_law_records rfl (by decide) (fun _ _ _ _ _ _ us hl => match us, hl with | [_, _, _, _], _ => rfl) fun cdv A outer s H E hr => ⟨_, (gss_cons (gs_set (i := 4) (gf_ix (gp_var 0 (pv 0)) (gp_e ge_int) (fun _ _ => rfl)) sc_law_records.nd rfl (Or.inl rfl))
    (gss_cons (gs_set (i := 5) (gf_ix (gp_var 0 (pv 0)) (gp_e ge_int) (fun _ _ => rfl)) sc_law_records.nd rfl (Or.inl rfl))
    (gss_cons (gs_set (i := 6) (gf_ix (gp_var 0 (pv 0)) (gp_e ge_int) (fun _ _ => rfl)) sc_law_records.nd rfl (Or.inl rfl))
    (gss_cons (gs_set (i := 7) (gf_e (ge_callL (i := 4) (T := (tab1 (He.ga K "opener_opens") 2 (m_opener_opens))) (tab1_ok (ok_opener_opens Γ)) (hr.mono (by first | decide | omega)) rfl (by first | exact Or.inl rfl | exact Or.inr (Or.inl rfl) | exact Or.inr (Or.inr rfl)) (ga_cons (ge_f (gf_callTy ok_list call_list_of rfl Γ.n_list (by decide +kernel) (gq_cons (gp_var 1 (pv 1)) gq_nil))) (ga_cons (ge_var 2 (pv 2)) ga_nil)))) sc_law_records.nd rfl (Or.inl rfl))
    (gss_cons (gs_set (i := 8) (gf_lst ga_nil) sc_law_records.nd rfl (Or.inl rfl))
    (gss_cons (gs_for (gi_range1 (gp_f (gf_op ok_add op_addD (gp_f (gf_callB ok_len call_len rfl Γ.n_len (by decide +kernel) (gq_cons (gp_var 1 (pv 1)) gq_nil))) (gp_e ge_int))) rfl Γ.n_range) (gg_name (vs := [9]) (i := 9) (by decide) sc_law_records.nd rfl (Or.inl rfl)) (gss_cons (gs_set (i := 10) (gf_e (ge_callL (i := 5) (T := (tab1 (He.ga K "built_acts") 1 (m_built_acts))) (tab1_ok (ok_built_acts Γ)) (hr.mono (by first | decide | omega)) rfl (by first | exact Or.inl rfl | exact Or.inr (Or.inl rfl) | exact Or.inr (Or.inr rfl)) (ga_cons (ge_var 7 (pv 7)) ga_nil))) sc_law_records.nd rfl (Or.inl rfl))
    (gss_cons (gs_set (i := 11) (gf_e (ge_callH (ok_law_deed Γ) (hr.mono (by first | decide | omega)) rfl Γ.g_law_deed (ga_cons (ge_var 10 (pv 10)) ga_nil))) sc_law_records.nd rfl (Or.inl rfl))
    (gss_cons (gs_if (gt_w (gw_or (gt_cmp ok_isN op_isN (gp_var 11 (pv 11)) (gp_e ge_non) rfl) (gw_or (gt_cmp ok_ne (op_neD (Room.units hr)) (gp_f (gf_callB ok_len call_len rfl Γ.n_len (by decide +kernel) (gq_cons (gp_var 11 (pv 11)) gq_nil))) (gp_e ge_int) rfl) (gw_or1 (gt_not (gt_tru (gp_e (ge_callH (ok_law_whole_number Γ) (hr.mono (by first | decide | omega)) rfl Γ.g_law_whole_number (ga_cons (ge_f (gf_ix (gp_var 11 (pv 11)) (gp_e ge_int) (fun _ _ => rfl))) ga_nil))))))))) (gss_one (gs_ret ge_non)) gss_nil)
    (gss_cons (gs_set (i := 7) (gf_ix (gp_var 10 (pv 10)) (gp_e ge_int) (fun _ _ => rfl)) sc_law_records.nd rfl (Or.inl rfl))
    (gss_cons (gs_if (gt_cmp ok_eq (op_eqD (Room.units hr)) (gp_f (gf_ix (gp_var 11 (pv 11)) (gp_e ge_int) (fun _ _ => rfl))) (gp_e ge_str) rfl) (gss_one (gs_ret (ge_if (gt_w (gw_and (gt_chain ok_le ok_le op_le op_le (gp_e ge_int) (gp_f (gf_ix (gp_var 11 (pv 11)) (gp_e ge_int) (fun _ _ => rfl))) (gp_f (gf_callB ok_len call_len rfl Γ.n_len (by decide +kernel) (gq_cons (gp_var 1 (pv 1)) gq_nil)))) (gw_and1 (gt_cmp ok_gt op_gt (gp_f (gf_ix (gp_var 3 (pv 3)) (gp_f (gf_op ok_sub op_sub (gp_f (gf_ix (gp_var 11 (pv 11)) (gp_e ge_int) (fun _ _ => rfl))) (gp_e ge_int))) (fun _ _ => rfl))) (gp_e ge_int) rfl)))) (ge_f (gf_callB ok_len call_len rfl Γ.n_len (by decide +kernel) (gq_cons (gp_var 8 (pv 8)) gq_nil))) ge_non))) gss_nil)
    (gss_cons (gs_if (gt_w (gw_or (gt_cmp ok_ne (op_neD (Room.units hr)) (gp_f (gf_ix (gp_var 11 (pv 11)) (gp_e ge_int) (fun _ _ => rfl))) (gp_e ge_str) rfl) (gw_or (gt_not (gt_chain ok_le ok_lt op_le op_lt (gp_e ge_int) (gp_f (gf_ix (gp_var 11 (pv 11)) (gp_e ge_int) (fun _ _ => rfl))) (gp_f (gf_callB ok_len call_len rfl Γ.n_len (by decide +kernel) (gq_cons (gp_var 1 (pv 1)) gq_nil))))) (gw_or1 (gt_cmp ok_in (op_inB (un65 hr)) (gp_f (gf_ix (gp_var 11 (pv 11)) (gp_e ge_int) (fun _ _ => rfl))) (gp_var 8 (pv 8)) rfl))))) (gss_one (gs_ret ge_non)) gss_nil)
    (gss_cons (gs_expr (ge_append (gp_var 8 (pv 8)) (ge_f (gf_ix (gp_var 11 (pv 11)) (gp_e ge_int) (fun _ _ => rfl)))))
    (gss_one (gs_set (i := 7) (gf_e (ge_callL (i := 6) (T := (tab1 (He.ga K "opener_told") 3 (m_opener_told))) (tab1_ok (ok_opener_told Γ)) (hr.mono (by first | decide | omega)) rfl (by first | exact Or.inl rfl | exact Or.inr (Or.inl rfl) | exact Or.inr (Or.inr rfl)) (ga_cons (ge_var 7 (pv 7)) (ga_cons (ge_f (gf_ix (gp_var 11 (pv 11)) (gp_e ge_int) (fun _ _ => rfl))) (ga_cons (ge_f (gf_callB ok_sum (cr_sum rfl) rfl Γ.n_sum (by decide +kernel) (gq_cons (gp_f (gf_slice (gp_var 3 (pv 3)) go_none (go_some (gp_f (gf_ix (gp_var 11 (pv 11)) (gp_e ge_int) (fun _ _ => rfl)))))) gq_nil))) ga_nil))))) sc_law_records.nd rfl (Or.inl rfl)))))))))) PassesOwn.never rfl)
    (gss_one (gs_ret ge_non))))))))⟩
theorem ok_law_small_row (Γ : Gx K mg) : HeldF B P w K mg base 2 (He.ga K "_law_small_row") 1 (m_law_small_row) := by
  obtain ⟨fd, F⟩ := Γ.F_law_small_row
  exact held (k := 1) (ps := ["purse"]) F sc_law_small_row rfl (by decide) (fun _ _ _ _ _ _ us hl => match us, hl with | [_], _ => rfl) fun cdv A outer s H E hr => ⟨_, (gss_cons (gs_set (i := 1) (gf_op ok_add op_addD (gp_e ge_int) (gp_e (ge_callH (ok_law_draw Γ) (hr.mono (by first | decide | omega)) rfl Γ.g_law_draw (ga_cons (ge_var 0 (pv 0)) (ga_cons ge_int ga_nil))))) sc_law_small_row.nd rfl (Or.inl rfl))
    (gss_cons (gs_set (i := 2) (gf_e (ge_if (gt_cmp ok_lt op_lt (gp_var 1 (pv 1)) (gp_e ge_int) rfl) ge_int ge_int)) sc_law_small_row.nd rfl (Or.inl rfl))
    (gss_cons (gs_set (i := 3) (gf_e (ge_callH (ok_law_draw Γ) (hr.mono (by first | decide | omega)) rfl Γ.g_law_draw (ga_cons (ge_var 0 (pv 0)) (ga_cons ge_int ga_nil)))) sc_law_small_row.nd rfl (Or.inl rfl))
    (gss_cons (gs_set (i := 4) (gf_op ok_add op_addD (gp_e ge_int) (gp_e (ge_callH (ok_law_draw Γ) (hr.mono (by first | decide | omega)) rfl Γ.g_law_draw (ga_cons (ge_var 0 (pv 0)) (ga_cons (ge_var 2 (pv 2)) ga_nil))))) sc_law_small_row.nd rfl (Or.inl rfl))
    (gss_cons (gs_set (i := 5) (gf_lst ga_nil) sc_law_small_row.nd rfl (Or.inl rfl))
    (gss_cons (gs_for (gi_range1 (gp_var 1 (pv 1)) rfl Γ.n_range) (gg_name (vs := [6]) (i := 6) (by decide) sc_law_small_row.nd rfl (Or.inl rfl)) (gss_one (gs_expr (ge_append (gp_var 5 (pv 5)) (ge_if (gt_cmp ok_eq (op_eqD (Room.units hr)) (gp_var 3 (pv 3)) (gp_e ge_int) rfl) (ge_var 4 (pv 4)) (ge_callH (ok_law_draw Γ) (hr.mono (by first | decide | omega)) rfl Γ.g_law_draw (ga_cons (ge_var 0 (pv 0)) (ga_cons (ge_f (gf_op ok_add op_addD (gp_var 2 (pv 2)) (gp_e ge_int))) ga_nil))))))) PassesOwn.never rfl)
    (gss_cons (gs_if (gt_cmp ok_eq (op_eqD (Room.units hr)) (gp_f (gf_callB ok_sum (cr_sum rfl) rfl Γ.n_sum (by decide +kernel) (gq_cons (gp_var 5 (pv 5)) gq_nil))) (gp_e ge_int) rfl) (gss_one (gs_setLc (i := 5) (own := [("pocket", 7)]) (gi_list (ge_var 5 (pv 5))) rfl sc_law_small_row.nd rfl rfl rfl (blkOk_by (N := ["purse", "many", "top", "same", "first", "pockets", "at", "pocket"]) (sc := defScope s_law_small_row) (by decide +kernel)) (fun _ _ _ _ _ => (gg_name (vs := [7]) (i := 7) (by decide) sc_law_small_row.nd rfl (by first | exact Or.inl rfl | exact Or.inr rfl))) (fun _ _ _ _ _ => gts_nil) (fun _ _ _ _ _ => ge_int))) gss_nil)
    (gss_one (gs_ret (ge_var 5 (pv 5)))))))))))⟩
theorem ok_law (hS : SqL K B sa (ns.map V.int)) (Γ : Gx K mg) {fd : FuncData} (F : FunD K "law" "law" (defArgs s_law) (defBody s_law) (defScope s_law) [] [] (He.ga K "law") fd) : FnOk P w K mg base CX0 55 (He.ga K "law") fd ["script"] (spOf B 1 (m_law (He.ga K) sa ns)) := by
  exact fn_okD (k := 54) (ps := ["script"]) F sc_law rfl (by decide) fun cdv A outer s H E hr => ⟨_, (gss_cons (gs_set (i := 1) (gf_e (ge_callH (ok_law_purse hS Γ) (hr.mono (by first | decide | omega)) rfl Γ.g_law_purse (ga_cons (ge_var 0 (pv 0)) (ga_cons ge_int ga_nil)))) sc_law.nd rfl (Or.inl rfl))
    (gss_cons (gs_set (i := 2) (gf_e (ge_callH (ok_law_small_row Γ) (hr.mono (by first | decide | omega)) rfl Γ.g_law_small_row (ga_cons (ge_var 1 (pv 1)) ga_nil))) sc_law.nd rfl (Or.inl rfl))
    (gss_cons (gs_set (i := 3) (gf_op ok_add op_addD (gp_e ge_int) (gp_e (ge_callH (ok_law_draw Γ) (hr.mono (by first | decide | omega)) rfl Γ.g_law_draw (ga_cons (ge_var 1 (pv 1)) (ga_cons (ge_f (gf_callB ok_sum (cr_sum rfl) rfl Γ.n_sum (by decide +kernel) (gq_cons (gp_var 2 (pv 2)) gq_nil))) ga_nil))))) sc_law.nd rfl (Or.inl rfl))
    (gss_cons (gs_set (i := 4) (gf_e (ge_callH (ok_law_opening Γ 12) (hr.mono (by first | decide | omega)) rfl Γ.g_law_opening (ga_cons (ge_var 2 (pv 2)) (ga_cons (ge_var 3 (pv 3)) (ga_cons ge_newN ga_nil))))) sc_law.nd rfl (Or.inl rfl))
    (gss_cons (gs_set (i := 5) (gf_e (ge_callH0 (ok_built_opener Γ) (hr.mono (by first | decide | omega)) rfl Γ.g_built_opener)) sc_law.nd rfl (Or.inl rfl))
    (gss_cons (gs_set (i := 6) (gf_e ge_int) sc_law.nd rfl (Or.inl rfl))
    (gss_cons (gs_for (gi_list (ge_callH (ok_law_all_takings Γ) (hr.mono (by first | decide | omega)) rfl Γ.g_law_all_takings (ga_cons (ge_var 2 (pv 2)) (ga_cons (ge_var 3 (pv 3)) ga_nil)))) (gg_name (vs := [7]) (i := 7) (by decide) sc_law.nd rfl (Or.inl rfl)) (gss_cons (gs_set (i := 8) (gf_e (ge_callH (ok_law_records Γ) (hr.mono (by first | decide | omega)) rfl Γ.g_law_records (ga_cons (ge_var 5 (pv 5)) (ga_cons (ge_var 2 (pv 2)) (ga_cons (ge_var 3 (pv 3)) (ga_cons (ge_var 7 (pv 7)) ga_nil)))))) sc_law.nd rfl (Or.inl rfl))
    (gss_cons (gs_if (gt_w (gw_or (gt_cmp ok_isN op_isN (gp_var 8 (pv 8)) (gp_e ge_non) rfl) (gw_or1 (gt_cmp ok_gt op_gt (gp_var 8 (pv 8)) (gp_var 4 (pv 4)) rfl)))) (gss_one (gs_ret ge_bl)) gss_nil)
    (gss_one (gs_set (i := 6) (gf_callB ok_max2 (call_max2 rfl) rfl Γ.n_max (by decide +kernel) (gq_cons (gp_var 6 (pv 6)) (gq_cons (gp_var 8 (pv 8)) gq_nil))) sc_law.nd rfl (Or.inl rfl))))) PassesOwn.never rfl)
    (gss_cons (gs_if (gt_w (gw_or (gt_cmp ok_ne (op_neD (Room.units hr)) (gp_var 6 (pv 6)) (gp_var 4 (pv 4)) rfl) (gw_or1 (gt_not (gt_tru (gp_e (ge_callH (ok_law_matches Γ 2) (hr.mono (by first | decide | omega)) rfl Γ.g_law_matches (ga_cons (ge_callH (ok_openings_due Γ) (hr.mono (by first | decide | omega)) rfl Γ.g_openings_due (ga_cons (ge_var 2 (pv 2)) (ga_cons (ge_var 3 (pv 3)) ga_nil))) (ga_cons (ge_var 4 (pv 4)) ga_nil))))))))) (gss_one (gs_ret ge_bl)) gss_nil)
    (gss_cons (gs_set (i := 9) (gf_lst ga_nil) sc_law.nd rfl (Or.inl rfl))
    (gss_cons (gs_for (gi_range1 (gp_f (gf_op ok_add op_addD (gp_e ge_int) (gp_e (ge_callH (ok_law_draw Γ) (hr.mono (by first | decide | omega)) rfl Γ.g_law_draw (ga_cons (ge_var 1 (pv 1)) (ga_cons ge_int ga_nil)))))) rfl Γ.n_range) (gg_name (vs := [10]) (i := 10) (by decide) sc_law.nd rfl (Or.inl rfl)) (gss_one (gs_expr (ge_append (gp_var 9 (pv 9)) (ge_f (gf_op ok_add op_addD (gp_e ge_int) (gp_e (ge_callH (ok_law_draw Γ) (hr.mono (by first | decide | omega)) rfl Γ.g_law_draw (ga_cons (ge_var 1 (pv 1)) (ga_cons ge_int ga_nil))))))))) PassesOwn.never rfl)
    (gss_cons (gs_set (i := 3) (gf_op ok_add op_addD (gp_e ge_int) (gp_e (ge_callH (ok_law_draw Γ) (hr.mono (by first | decide | omega)) rfl Γ.g_law_draw (ga_cons (ge_var 1 (pv 1)) (ga_cons (ge_f (gf_callB ok_sum (cr_sum rfl) rfl Γ.n_sum (by decide +kernel) (gq_cons (gp_var 9 (pv 9)) gq_nil))) ga_nil))))) sc_law.nd rfl (Or.inl rfl))
    (gss_cons (gs_set (i := 4) (gf_e (ge_callH (ok_law_opening Γ 12) (hr.mono (by first | decide | omega)) rfl Γ.g_law_opening (ga_cons (ge_var 9 (pv 9)) (ga_cons (ge_var 3 (pv 3)) (ga_cons ge_newN ga_nil))))) sc_law.nd rfl (Or.inl rfl))
    (gss_cons (gs_for (gi_range1 (gp_e ge_int) rfl Γ.n_range) (gg_name (vs := [11]) (i := 11) (by decide) sc_law.nd rfl (Or.inl rfl)) (gss_cons (gs_set (i := 8) (gf_e (ge_callH (ok_law_records Γ) (hr.mono (by first | decide | omega)) rfl Γ.g_law_records (ga_cons (ge_var 5 (pv 5)) (ga_cons (ge_var 9 (pv 9)) (ga_cons (ge_var 3 (pv 3)) (ga_cons (ge_callH (ok_law_drawn_takings Γ) (hr.mono (by first | decide | omega)) rfl Γ.g_law_drawn_takings (ga_cons (ge_var 1 (pv 1)) (ga_cons (ge_var 9 (pv 9)) (ga_cons (ge_var 3 (pv 3)) ga_nil)))) ga_nil)))))) sc_law.nd rfl (Or.inl rfl))
    (gss_one (gs_if (gt_w (gw_or (gt_cmp ok_isN op_isN (gp_var 8 (pv 8)) (gp_e ge_non) rfl) (gw_or1 (gt_cmp ok_gt op_gt (gp_var 8 (pv 8)) (gp_var 4 (pv 4)) rfl)))) (gss_one (gs_ret ge_bl)) gss_nil))) PassesOwn.never rfl)
    (gss_one (gs_ret ge_bl)))))))))))))))⟩
end
/-! the head -/
def d_check_most : He.DefD := ⟨("check_most", none), "check_most", "check_most", defArgs s_check_most, defBody s_check_most, defScope s_check_most, [], []⟩
def d_check_each : He.DefD := ⟨("check_each", none), "check_each", "check_each", defArgs s_check_each, defBody s_check_each, defScope s_check_each, [], []⟩
def d_check_row : He.DefD := ⟨("check_row", none), "check_row", "check_row", defArgs s_check_row, defBody s_check_row, defScope s_check_row, [], []⟩
def d_hands_named : He.DefD := ⟨("hands_named", none), "hands_named", "hands_named", defArgs s_hands_named, defBody s_hands_named, defScope s_hands_named, [], []⟩
def d_amounts_before : He.DefD := ⟨("amounts_before", none), "amounts_before", "amounts_before", defArgs s_amounts_before, defBody s_amounts_before, defScope s_amounts_before, [], []⟩
def d_side_number : He.DefD := ⟨("side_number", none), "side_number", "side_number", defArgs s_side_number, defBody s_side_number, defScope s_side_number, [], []⟩
def d_cut_number : He.DefD := ⟨("cut_number", none), "cut_number", "cut_number", defArgs s_cut_number, defBody s_cut_number, defScope s_cut_number, [], []⟩
def d_best_cut : He.DefD := ⟨("best_cut", none), "best_cut", "best_cut", defArgs s_best_cut, defBody s_best_cut, defScope s_best_cut, [], []⟩
def d_opening_number : He.DefD := ⟨("opening_number", none), "opening_number", "opening_number", defArgs s_opening_number, defBody s_opening_number, defScope s_opening_number, [], []⟩
def d_openings_due : He.DefD := ⟨("openings_due", none), "openings_due", "openings_due", defArgs s_openings_due, defBody s_openings_due, defScope s_openings_due, [], []⟩
def d_stretches_along : He.DefD := ⟨("stretches_along", none), "stretches_along", "stretches_along", defArgs s_stretches_along, defBody s_stretches_along, defScope s_stretches_along, [], []⟩
def d_opener_opens : He.DefD := ⟨("opener_opens", none), "opener_opens", "opener_opens", defArgs s_opener_opens, defBody s_opener_opens, defScope s_opener_opens, [], []⟩
def d_opener_told : He.DefD := ⟨("opener_told", none), "opener_told", "opener_told", defArgs s_opener_told, defBody s_opener_told, defScope s_opener_told, [], []⟩
def d_opened_table : He.DefD := ⟨("opened_table", none), "opened_table", "opened_table", defArgs s_opened_table, defBody s_opened_table, defScope s_opened_table, [], []⟩
def d_short_stretches : He.DefD := ⟨("short_stretches", none), "short_stretches", "short_stretches", defArgs s_short_stretches, defBody s_short_stretches, defScope s_short_stretches, [], []⟩
def d_built_acts : He.DefD := ⟨("built_acts", none), "built_acts", "built_acts", defArgs s_built_acts, defBody s_built_acts, defScope s_built_acts, [], []⟩
def d_built_opener : He.DefD := ⟨("built_opener", none), "built_opener", "built_opener", defArgs s_built_opener, defBody s_built_opener, defScope s_built_opener, [], []⟩
def d_law_purse : He.DefD := ⟨("_law_purse", none), "_law_purse", "_law_purse", defArgs s_law_purse, defBody s_law_purse, defScope s_law_purse, [], []⟩
def d_law_draw : He.DefD := ⟨("_law_draw", none), "_law_draw", "_law_draw", defArgs s_law_draw, defBody s_law_draw, defScope s_law_draw, [], []⟩
def d_law_mix : He.DefD := ⟨("_law_mix", none), "_law_mix", "_law_mix", defArgs s_law_mix, defBody s_law_mix, defScope s_law_mix, [], []⟩
def d_law_matches : He.DefD := ⟨("_law_matches", none), "_law_matches", "_law_matches", defArgs s_law_matches, defBody s_law_matches, defScope s_law_matches, [], []⟩
def d_law_opening : He.DefD := ⟨("_law_opening", none), "_law_opening", "_law_opening", defArgs s_law_opening, defBody s_law_opening, defScope s_law_opening, [], []⟩
def d_law_whole_number : He.DefD := ⟨("_law_whole_number", none), "_law_whole_number", "_law_whole_number", defArgs s_law_whole_number, defBody s_law_whole_number, defScope s_law_whole_number, [], []⟩
def d_law_deed : He.DefD := ⟨("_law_deed", none), "_law_deed", "_law_deed", defArgs s_law_deed, defBody s_law_deed, defScope s_law_deed, [], []⟩
def d_law_all_takings : He.DefD := ⟨("_law_all_takings", none), "_law_all_takings", "_law_all_takings", defArgs s_law_all_takings, defBody s_law_all_takings, defScope s_law_all_takings, [], []⟩
def d_law_drawn_takings : He.DefD := ⟨("_law_drawn_takings", none), "_law_drawn_takings", "_law_drawn_takings", defArgs s_law_drawn_takings, defBody s_law_drawn_takings, defScope s_law_drawn_takings, [], []⟩
def d_law_records : He.DefD := ⟨("_law_records", none), "_law_records", "_law_records", defArgs s_law_records, defBody s_law_records, defScope s_law_records, [], []⟩
def d_law_small_row : He.DefD := ⟨("_law_small_row", none), "_law_small_row", "_law_small_row", defArgs s_law_small_row, defBody s_law_small_row, defScope s_law_small_row, [], []⟩
def d_law : He.DefD := ⟨("law", none), "law", "law", defArgs s_law, defBody s_law, defScope s_law, [], []⟩
def fnL : List He.DefD := [d_check_most, d_check_each, d_check_row, d_hands_named, d_amounts_before, d_side_number, d_cut_number, d_best_cut, d_opening_number, d_openings_due, d_stretches_along, d_opener_opens, d_opener_told, d_opened_table, d_short_stretches, d_built_acts, d_built_opener, d_law_purse, d_law_draw, d_law_mix, d_law_matches, d_law_opening, d_law_whole_number, d_law_deed, d_law_all_takings, d_law_drawn_takings, d_law_records, d_law_small_row, d_law]
def faL : List He.Fa := [.free "abs", .free "bool", .free "int", .free "isinstance", .free "len", .free "list", .free "max", .free "min", .free "range", .free "sorted", .free "str", .free "sum", .free "tuple", .int "POCKET" 6, .int "POCKETS" 10, .glo "check_most", .glo "check_each", .glo "check_row", .glo "hands_named", .glo "amounts_before", .glo "side_number", .glo "cut_number", .glo "best_cut", .glo "opening_number", .glo "openings_due", .glo "stretches_along", .glo "opener_opens", .glo "opener_told", .glo "opened_table", .glo "short_stretches", .glo "built_acts", .glo "built_opener", .glo "_law_purse", .glo "_law_draw", .glo "_law_mix", .glo "_law_matches", .glo "_law_opening", .glo "_law_whole_number", .glo "_law_deed", .glo "_law_all_takings", .glo "_law_drawn_takings", .glo "_law_records", .glo "_law_small_row", .glo "law"]
theorem gx_of {K : PySem.W.Frag} {h : Heap} {mg : Str → Option Value} (X : K.In h) (G : h.Ns mainGlobals mg) (c : He.SaysD faL fnL K) : Gx K mg where
  n_abs := He.free_ok X G (c.fact 0 (f := .free "abs") rfl)
  n_bool := He.free_ok X G (c.fact 1 (f := .free "bool") rfl)
  n_int := He.free_ok X G (c.fact 2 (f := .free "int") rfl)
  n_isinstance := He.free_ok X G (c.fact 3 (f := .free "isinstance") rfl)
  n_len := He.free_ok X G (c.fact 4 (f := .free "len") rfl)
  n_list := He.free_ok X G (c.fact 5 (f := .free "list") rfl)
  n_max := He.free_ok X G (c.fact 6 (f := .free "max") rfl)
  n_min := He.free_ok X G (c.fact 7 (f := .free "min") rfl)
  n_range := He.free_ok X G (c.fact 8 (f := .free "range") rfl)
  n_sorted := He.free_ok X G (c.fact 9 (f := .free "sorted") rfl)
  n_str := He.free_ok X G (c.fact 10 (f := .free "str") rfl)
  n_sum := He.free_ok X G (c.fact 11 (f := .free "sum") rfl)
  n_tuple := He.free_ok X G (c.fact 12 (f := .free "tuple") rfl)
  i_POCKET := He.int_ok X G (c.fact 13 (f := .int "POCKET" 6) rfl)
  i_POCKETS := He.int_ok X G (c.fact 14 (f := .int "POCKETS" 10) rfl)
  g_check_most := He.glo_ok X G (c.fact 15 (f := .glo "check_most") rfl)
  F_check_most := c.def_ 0 (d := d_check_most) rfl
  g_check_each := He.glo_ok X G (c.fact 16 (f := .glo "check_each") rfl)
  F_check_each := c.def_ 1 (d := d_check_each) rfl
  g_check_row := He.glo_ok X G (c.fact 17 (f := .glo "check_row") rfl)
  F_check_row := c.def_ 2 (d := d_check_row) rfl
  g_hands_named := He.glo_ok X G (c.fact 18 (f := .glo "hands_named") rfl)
  F_hands_named := c.def_ 3 (d := d_hands_named) rfl
  g_amounts_before := He.glo_ok X G (c.fact 19 (f := .glo "amounts_before") rfl)
  F_amounts_before := c.def_ 4 (d := d_amounts_before) rfl
  g_side_number := He.glo_ok X G (c.fact 20 (f := .glo "side_number") rfl)
  F_side_number := c.def_ 5 (d := d_side_number) rfl
  g_cut_number := He.glo_ok X G (c.fact 21 (f := .glo "cut_number") rfl)
  F_cut_number := c.def_ 6 (d := d_cut_number) rfl
  g_best_cut := He.glo_ok X G (c.fact 22 (f := .glo "best_cut") rfl)
  F_best_cut := c.def_ 7 (d := d_best_cut) rfl
  g_opening_number := He.glo_ok X G (c.fact 23 (f := .glo "opening_number") rfl)
  F_opening_number := c.def_ 8 (d := d_opening_number) rfl
  g_openings_due := He.glo_ok X G (c.fact 24 (f := .glo "openings_due") rfl)
  F_openings_due := c.def_ 9 (d := d_openings_due) rfl
  g_stretches_along := He.glo_ok X G (c.fact 25 (f := .glo "stretches_along") rfl)
  F_stretches_along := c.def_ 10 (d := d_stretches_along) rfl
  g_opener_opens := He.glo_ok X G (c.fact 26 (f := .glo "opener_opens") rfl)
  F_opener_opens := c.def_ 11 (d := d_opener_opens) rfl
  g_opener_told := He.glo_ok X G (c.fact 27 (f := .glo "opener_told") rfl)
  F_opener_told := c.def_ 12 (d := d_opener_told) rfl
  g_opened_table := He.glo_ok X G (c.fact 28 (f := .glo "opened_table") rfl)
  F_opened_table := c.def_ 13 (d := d_opened_table) rfl
  g_short_stretches := He.glo_ok X G (c.fact 29 (f := .glo "short_stretches") rfl)
  F_short_stretches := c.def_ 14 (d := d_short_stretches) rfl
  g_built_acts := He.glo_ok X G (c.fact 30 (f := .glo "built_acts") rfl)
  F_built_acts := c.def_ 15 (d := d_built_acts) rfl
  g_built_opener := He.glo_ok X G (c.fact 31 (f := .glo "built_opener") rfl)
  F_built_opener := c.def_ 16 (d := d_built_opener) rfl
  g_law_purse := He.glo_ok X G (c.fact 32 (f := .glo "_law_purse") rfl)
  F_law_purse := c.def_ 17 (d := d_law_purse) rfl
  g_law_draw := He.glo_ok X G (c.fact 33 (f := .glo "_law_draw") rfl)
  F_law_draw := c.def_ 18 (d := d_law_draw) rfl
  g_law_mix := He.glo_ok X G (c.fact 34 (f := .glo "_law_mix") rfl)
  F_law_mix := c.def_ 19 (d := d_law_mix) rfl
  g_law_matches := He.glo_ok X G (c.fact 35 (f := .glo "_law_matches") rfl)
  F_law_matches := c.def_ 20 (d := d_law_matches) rfl
  g_law_opening := He.glo_ok X G (c.fact 36 (f := .glo "_law_opening") rfl)
  F_law_opening := c.def_ 21 (d := d_law_opening) rfl
  g_law_whole_number := He.glo_ok X G (c.fact 37 (f := .glo "_law_whole_number") rfl)
  F_law_whole_number := c.def_ 22 (d := d_law_whole_number) rfl
  g_law_deed := He.glo_ok X G (c.fact 38 (f := .glo "_law_deed") rfl)
  F_law_deed := c.def_ 23 (d := d_law_deed) rfl
  g_law_all_takings := He.glo_ok X G (c.fact 39 (f := .glo "_law_all_takings") rfl)
  F_law_all_takings := c.def_ 24 (d := d_law_all_takings) rfl
  g_law_drawn_takings := He.glo_ok X G (c.fact 40 (f := .glo "_law_drawn_takings") rfl)
  F_law_drawn_takings := c.def_ 25 (d := d_law_drawn_takings) rfl
  g_law_records := He.glo_ok X G (c.fact 41 (f := .glo "_law_records") rfl)
  F_law_records := c.def_ 26 (d := d_law_records) rfl
  g_law_small_row := He.glo_ok X G (c.fact 42 (f := .glo "_law_small_row") rfl)
  F_law_small_row := c.def_ 27 (d := d_law_small_row) rfl
  g_law := He.glo_ok X G (c.fact 43 (f := .glo "law") rfl)
  F_law := c.def_ 28 (d := d_law) rfl
/-! the law's promise, the run of the head -/
def spLaw (K : PySem.W.Frag) : Sp := fun vs H Q _ => ∃ (a : Addr) (ns : List Int), vs = [.ref a] ∧ SqL K H a (ns.map V.int) ∧ ns.length ≤ 63 ∧ ∀ H', Q (.bl true) H'
abbrev LawTrue : Prop := ∀ (ad : Str → Addr) (sa : Addr) (ns : List Int), ns.length ≤ 63 → ∃ w', m_law ad sa ns [D.ref sa] ⟨[], []⟩ = some (.ok (.bl true) w')
theorem law_fn (hL : LawTrue) {P : Program} {w : World} {K : PySem.W.Frag} {mg : Str → Option Value} {base : Heap} (Γ : Gx K mg) {fd : FuncData} (F : FunD K "law" "law" (defArgs s_law) (defBody s_law) (defScope s_law) [] [] (He.ga K "law") fd) : FnOk P w K mg base CX0 55 (He.ga K "law") fd ["script"] (spLaw K) := by
  refine ⟨fun vs H Q E h => ?_, fun A outer s H args us vs Q E r e b v h => ?_⟩
  · obtain ⟨a, ns, rfl, _⟩ := h
    rfl
  · obtain ⟨a, ns, rfl, hS, hn, hq⟩ := h
    refine (ok_law (B := H) hS Γ F).run A outer s H args us _ Q E r e b v ⟨rfl, ⟨H, [], ⟨[], []⟩, [], H⟩, rfl, rfl, rfl, ?_, [D.ref a], .cons (.ref a) .nil, ?_⟩
    · exact { base := Same.refl _, reg := Same.refl _, len := rfl, nd := List.nodup_nil, there := (fun a h => by cases h), sto := (fun k a x h => by simp at h), slen := rfl, imm := (fun i x h => by simp at h), own := (fun i x h => by simp at h), dis := (fun i j ds es l h => by simp at h) }
    · obtain ⟨w', hw⟩ := hL (He.ga K) a ns hn
      show wpM (m_law (He.ga K) a ns [D.ref a] ⟨[], []⟩) _ _
      rw [hw]
      intro s' _ _ _ _ v rv
      cases rv
      exact hq _
abbrev R : PySem.W.OpenRow := PySem.W.OpenLaw.row PySem.Challenge.rw_cleanhands_k73_whole_the_built_opener_na
abbrev hk : PySem.W.Hook := He.hookD 4 faL fnL
def ob (s : PySem.W.SharedT) : He.AlD := He.obsDG 4 faL fnL (HandSHeadRun.getT s)
theorem ob_eq (s : PySem.W.SharedT) : ob s = hk.obs s.abs := He.obsDG_eq (HandSHeadRun.getT_eq s)
def loose : List Str := (["__name__", "HandsError", "TooMany", "BadPocket", "POCKETS", "POCKET", "check_most", "check_each", "check_row", "hands_named", "amounts_before", "side_number", "cut_number", "best_cut", "opening_number", "openings_due", "stretches_along", "opener_opens", "opener_told", "opened_table", "short_stretches", "built_acts", "built_opener", "_law_purse", "_law_draw", "_law_mix", "_law_matches", "_law_opening", "_law_whole_number", "_law_deed"] : List Str) ++ (["_law_all_takings", "_law_drawn_takings", "_law_records", "_law_small_row"] : List Str)
theorem run (w : World) : HandSHeadRun.RunEq R (PySem.W.view R.prog [38]) hk ob 3000 loose w := by
  intro os
  kernel_rfl
theorem facts (hL : LawTrue) {P : Program} {w : World} {K : PySem.W.Frag} {h : Heap} {mg : Str → Option Value} {f : Addr} (X : K.In h) (G : h.Ns mainGlobals mg) (hfa : mg ("law" : Str) = some (.ref f)) (c : He.SaysD faL fnL K) :
    ∃ fd : FuncData, (∀ (s : Shared) (v : Value), BindsTo s fd ⟨[v], []⟩ [("script", v)]) ∧ ∀ base : Heap, K.In base → base.Ns mainGlobals mg → FnOk P w K mg base CX0 55 f fd ["script"] (spLaw K) := by
  have Γ := gx_of X G c
  obtain ⟨fd, F⟩ := Γ.F_law
  have e := hfa.symm.trans Γ.g_law
  cases e
  have b := FunD.bindsA (ps := ["script"]) F fun _ _ _ _ _ _ us hl => match us, hl with | [_], _ => rfl
  exact ⟨fd, fun s v => b s [v] rfl, fun base _ _ => law_fn hL Γ F⟩
end K73

set_option maxHeartbeats 1000000
namespace K73
open PD
/-! ## numbers of openings, in plain lists -/
def rng (a b : Int) : List Int := (List.range (b - a).toNat).map fun i => a + (i : Nat)
theorem mem_rng {a b x : Int} : x ∈ rng a b ↔ a ≤ x ∧ x < b := by
  unfold rng
  rw [List.mem_map]
  constructor
  · rintro ⟨i, hi, rfl⟩
    rw [List.mem_range] at hi
    omega
  · intro h
    exact ⟨(x - a).toNat, by rw [List.mem_range]; omega, by omega⟩
theorem rng_shift (a b c : Int) : rng (a + c) (b + c) = (rng a b).map (· + c) := by
  unfold rng
  rw [List.map_map, show (b + c - (a + c)) = b - a by omega]
  congr 1
  funext i
  show a + c + (i : Int) = a + (i : Int) + c
  omega
def stepB {α : Type} (v : α → Int) (b : Option (Int × α)) (c : α) : Option (Int × α) := match b with
  | none => some (v c, c)
  | some p => if v c < p.1 then some (v c, c) else some p
def bestB {α : Type} (v : α → Int) (cs : List α) : Option (Int × α) := cs.foldl (stepB v) none
theorem foldB_spec {α : Type} (v : α → Int) : ∀ (cs : List α) (p : Int × α), ∃ q, cs.foldl (stepB v) (some p) = some q ∧ q.1 ≤ p.1 ∧ (q = p ∨ (q.2 ∈ cs ∧ v q.2 = q.1)) ∧ ∀ c ∈ cs, q.1 ≤ v c
  | [], p => ⟨p, rfl, Int.le_refl _, .inl rfl, fun c h => by cases h⟩
  | d :: cs, p => by
    show ∃ q, cs.foldl (stepB v) (if v d < p.1 then some (v d, d) else some p) = some q ∧ _
    by_cases h : v d < p.1
    · rw [if_pos h]
      obtain ⟨q, h1, h2, h3, h4⟩ := foldB_spec v cs (v d, d)
      refine ⟨q, h1, by have : q.1 ≤ v d := h2; omega, ?_, fun c hc => ?_⟩
      · rcases h3 with h3 | ⟨h3, h5⟩
        · rw [h3]; exact .inr ⟨List.mem_cons_self .., rfl⟩
        · exact .inr ⟨List.mem_cons_of_mem _ h3, h5⟩
      · rcases List.mem_cons.mp hc with rfl | hc
        · exact h2
        · exact h4 c hc
    · rw [if_neg h]
      obtain ⟨q, h1, h2, h3, h4⟩ := foldB_spec v cs p
      refine ⟨q, h1, h2, ?_, fun c hc => ?_⟩
      · rcases h3 with h3 | ⟨h3, h5⟩
        · exact .inl h3
        · exact .inr ⟨List.mem_cons_of_mem _ h3, h5⟩
      · rcases List.mem_cons.mp hc with rfl | hc
        · omega
        · exact h4 c hc
theorem bestB_spec {α : Type} (v : α → Int) {cs : List α} (h : cs ≠ []) : ∃ q, bestB v cs = some q ∧ q.2 ∈ cs ∧ v q.2 = q.1 ∧ ∀ c ∈ cs, q.1 ≤ v c := by
  cases cs with
  | nil => exact absurd rfl h
  | cons d cs =>
    obtain ⟨q, h1, h2, h3, h4⟩ := foldB_spec v cs (v d, d)
    refine ⟨q, h1, ?_, ?_, fun c hc => ?_⟩
    · rcases h3 with h3 | ⟨h3, h5⟩
      · rw [h3]; exact List.mem_cons_self ..
      · exact List.mem_cons_of_mem _ h3
    · rcases h3 with h3 | ⟨h3, h5⟩
      · rw [h3]
      · exact h5
    · rcases List.mem_cons.mp hc with rfl | hc
      · exact h2
      · exact h4 c hc
theorem foldB_congr {α : Type} {v v' : α → Int} : ∀ {cs : List α} (b : Option (Int × α)), (∀ c ∈ cs, v c = v' c) → cs.foldl (stepB v) b = cs.foldl (stepB v') b
  | [], _, _ => rfl
  | d :: cs, b, h => by
    have e : stepB v b d = stepB v' b d := by unfold stepB; rw [h d (List.mem_cons_self ..)]
    show cs.foldl (stepB v) (stepB v b d) = cs.foldl (stepB v') (stepB v' b d)
    rw [e]
    exact foldB_congr _ fun c hc => h c (List.mem_cons_of_mem _ hc)
theorem bestB_congr {α : Type} {v v' : α → Int} {cs : List α} (h : ∀ c ∈ cs, v c = v' c) : bestB v cs = bestB v' cs := foldB_congr _ h
theorem foldB_map {α β : Type} (v : β → Int) (g : α → β) : ∀ (cs : List α) (b : Option (Int × α)), (cs.map g).foldl (stepB v) (b.map fun q => (q.1, g q.2)) = (cs.foldl (stepB (fun c => v (g c))) b).map fun q => (q.1, g q.2)
  | [], _ => rfl
  | d :: cs, b => by
    show (cs.map g).foldl (stepB v) (stepB v (b.map fun q => (q.1, g q.2)) (g d)) = _
    have e : stepB v (b.map fun q => (q.1, g q.2)) (g d) = (stepB (fun c => v (g c)) b d).map fun q => (q.1, g q.2) := by
      cases b with
      | none => rfl
      | some p =>
        show (if v (g d) < p.1 then some (v (g d), g d) else some (p.1, g p.2)) = (if v (g d) < p.1 then some (v (g d), d) else some p).map _
        split <;> rfl
    rw [e]
    exact foldB_map v g cs _
theorem bestB_map {α β : Type} (v : β → Int) (g : α → β) (cs : List α) : bestB v (cs.map g) = (bestB (fun c => v (g c)) cs).map fun q => (q.1, g q.2) := foldB_map v g cs none
def maxB {α : Type} (v : α → Int) (ks : List α) : Int := ks.foldl (fun w k => imax w (v k)) 0
theorem foldM_spec {α : Type} (v : α → Int) : ∀ (ks : List α) (w : Int), w ≤ ks.foldl (fun w k => imax w (v k)) w ∧ (∀ k ∈ ks, v k ≤ ks.foldl (fun w k => imax w (v k)) w) ∧ (ks.foldl (fun w k => imax w (v k)) w = w ∨ ∃ k ∈ ks, v k = ks.foldl (fun w k => imax w (v k)) w)
  | [], w => ⟨Int.le_refl _, (fun k h => by cases h), .inl rfl⟩
  | d :: ks, w => by
    show w ≤ ks.foldl (fun w k => imax w (v k)) (imax w (v d)) ∧ (∀ k ∈ d :: ks, v k ≤ ks.foldl (fun w k => imax w (v k)) (imax w (v d))) ∧ _
    obtain ⟨h1, h2, h3⟩ := foldM_spec v ks (imax w (v d))
    have e : w ≤ imax w (v d) ∧ v d ≤ imax w (v d) ∧ (imax w (v d) = w ∨ imax w (v d) = v d) := by unfold imax; split <;> omega
    refine ⟨by omega, fun k hk => ?_, ?_⟩
    · rcases List.mem_cons.mp hk with rfl | hk
      · omega
      · exact h2 k hk
    · rcases h3 with h3 | ⟨k, hk, h3⟩
      · rcases e.2.2 with e1 | e1
        · exact .inl (by show ks.foldl (fun w k => imax w (v k)) (imax w (v d)) = w; rw [h3, e1])
        · exact .inr ⟨d, List.mem_cons_self .., by show v d = ks.foldl (fun w k => imax w (v k)) (imax w (v d)); rw [h3, e1]⟩
      · exact .inr ⟨k, List.mem_cons_of_mem _ hk, h3⟩
theorem maxB_spec {α : Type} (v : α → Int) (ks : List α) : 0 ≤ maxB v ks ∧ (∀ k ∈ ks, v k ≤ maxB v ks) ∧ (maxB v ks = 0 ∨ ∃ k ∈ ks, v k = maxB v ks) := foldM_spec v ks 0
theorem foldM_congr {α : Type} {v v' : α → Int} : ∀ {ks : List α} (w : Int), (∀ k ∈ ks, v k = v' k) → ks.foldl (fun w k => imax w (v k)) w = ks.foldl (fun w k => imax w (v' k)) w
  | [], _, _ => rfl
  | d :: ks, w, h => by
    show ks.foldl (fun w k => imax w (v k)) (imax w (v d)) = ks.foldl (fun w k => imax w (v' k)) (imax w (v' d))
    rw [h d (List.mem_cons_self ..)]
    exact foldM_congr _ fun c hc => h c (List.mem_cons_of_mem _ hc)
theorem maxB_congr {α : Type} {v v' : α → Int} {ks : List α} (h : ∀ k ∈ ks, v k = v' k) : maxB v ks = maxB v' ks := foldM_congr 0 h
/-! the number of a row -/
abbrev NF := List Int → Int → Int
def sideV (N : NF) (a b : List Int) (m k : Int) : Int := if 0 < k then (if k < m then imin (N a k) (N b (m - k)) else N a k) else N b (m - k)
def cutW (N : NF) (a b : List Int) (m : Int) : Int := maxB (sideV N a b m) (rng (imax 0 (m - b.sum)) (imin m a.sum + 1))
def cutV (N : NF) (ps : List Int) (m c : Int) : Int := cutW N (ps.take c.toNat) (ps.drop c.toNat) m
def Named (ps : List Int) (m : Int) : Prop := ∃ x ∈ ps, ps.sum - m < x
instance (ps : List Int) (m : Int) : Decidable (Named ps m) := by unfold Named; exact inferInstance
def num : Nat → NF
  | 0, _, _ => 0
  | f + 1, ps, m => if Named ps m then 0 else 1 + ((bestB (cutV (num f) ps m) (rng 1 ps.length)).getD (0, 0)).1
theorem sideV_congr {N N' : NF} {a b : List Int} {m : Int} (h1 : ∀ k, N a k = N' a k) (h2 : ∀ k, N b k = N' b k) (k : Int) : sideV N a b m k = sideV N' a b m k := by
  unfold sideV; rw [h1, h2]
theorem cutW_congr {N N' : NF} {a b : List Int} {m : Int} (h1 : ∀ k, N a k = N' a k) (h2 : ∀ k, N b k = N' b k) : cutW N a b m = cutW N' a b m := maxB_congr fun k _ => sideV_congr h1 h2 k
theorem num_fuel : ∀ (f g : Nat) (ps : List Int) (m : Int), ps ≠ [] → ps.length ≤ f → ps.length ≤ g → num f ps m = num g ps m
  | 0, _, ps, m, h, h1, _ => absurd (List.length_eq_zero_iff.mp (by omega)) h
  | _ + 1, 0, ps, m, h, _, h2 => absurd (List.length_eq_zero_iff.mp (by omega)) h
  | f + 1, g + 1, ps, m, h, h1, h2 => by
    unfold num
    rw [bestB_congr (v := cutV (num f) ps m) (v' := cutV (num g) ps m) fun c hc => ?_]
    rw [mem_rng] at hc
    refine cutW_congr (fun k => num_fuel f g _ k ?_ ?_ ?_) (fun k => num_fuel f g _ k ?_ ?_ ?_)
    · intro q
      have := congrArg List.length q
      rw [List.length_take, List.length_nil] at this
      omega
    · rw [List.length_take]; omega
    · rw [List.length_take]; omega
    · intro q
      have := congrArg List.length q
      rw [List.length_drop, List.length_nil] at this
      omega
    · rw [List.length_drop]; omega
    · rw [List.length_drop]; omega
def numN (ps : List Int) (m : Int) : Int := num ps.length ps m
theorem num_N {f : Nat} {ps : List Int} {m : Int} (h : ps ≠ []) (hf : ps.length ≤ f) : num f ps m = numN ps m := num_fuel _ _ _ _ h hf (Nat.le_refl _)
theorem numN_eq {ps : List Int} {m : Int} (h : ps ≠ []) : numN ps m = if Named ps m then 0 else 1 + ((bestB (cutV numN ps m) (rng 1 ps.length)).getD (0, 0)).1 := by
  rw [← num_N (f := ps.length + 1) h (Nat.le_succ _)]
  show (if Named ps m then 0 else 1 + ((bestB (cutV (num ps.length) ps m) (rng 1 ps.length)).getD (0, 0)).1) = _
  rw [bestB_congr (v := cutV (num ps.length) ps m) (v' := cutV numN ps m) fun c hc => ?_]
  rw [mem_rng] at hc
  refine cutW_congr (fun k => num_N ?_ ?_) (fun k => num_N ?_ ?_)
  · intro q
    have := congrArg List.length q
    rw [List.length_take, List.length_nil] at this
    omega
  · rw [List.length_take]; omega
  · intro q
    have := congrArg List.length q
    rw [List.length_drop, List.length_nil] at this
    omega
  · rw [List.length_drop]; omega
/-- a row and an amount that is in it -/
structure Row (ps : List Int) (m : Int) : Prop where
  nn : ∀ x ∈ ps, 0 ≤ x
  lo : 1 ≤ m
  hi : m ≤ ps.sum
theorem sum_nn : ∀ {ps : List Int}, (∀ x ∈ ps, 0 ≤ x) → 0 ≤ ps.sum
  | [], _ => by decide
  | x :: ps, h => by
    rw [List.sum_cons]
    have := h x (List.mem_cons_self ..)
    have := sum_nn fun y hy => h y (List.mem_cons_of_mem _ hy)
    omega
theorem Row.ne {ps : List Int} {m : Int} (r : Row ps m) : ps ≠ [] := by
  rintro rfl
  have h1 := r.lo
  have h2 := r.hi
  rw [List.sum_nil] at h2
  omega
theorem side_spec {N : NF} {a b : List Int} {m k : Int} (h0 : 0 ≤ k) (h1 : k ≤ m) (hm : 1 ≤ m) :
    (0 < k → sideV N a b m k ≤ N a k) ∧ (k < m → sideV N a b m k ≤ N b (m - k)) ∧ ((0 < k ∧ sideV N a b m k = N a k) ∨ (k < m ∧ sideV N a b m k = N b (m - k))) := by
  unfold sideV imin
  by_cases h : 0 < k
  · rw [if_pos h]
    by_cases h' : k < m
    · rw [if_pos h']
      split <;> omega
    · rw [if_neg h']
      exact ⟨fun _ => Int.le_refl _, fun q => absurd q h', .inl ⟨h, rfl⟩⟩
  · rw [if_neg h]
    exact ⟨fun q => absurd q h, fun _ => Int.le_refl _, .inr ⟨by omega, rfl⟩⟩
theorem sum_cut (ps : List Int) (c : Nat) : (ps.take c).sum + (ps.drop c).sum = ps.sum := by
  conv => rhs; rw [← List.take_append_drop c ps]
  rw [List.sum_append]
/-- the amounts that a cut may tell -/
def Fits (a b : List Int) (m k : Int) : Prop := 0 ≤ k ∧ m - b.sum ≤ k ∧ k ≤ m ∧ k ≤ a.sum
theorem mem_fits {a b : List Int} {m k : Int} : k ∈ rng (imax 0 (m - b.sum)) (imin m a.sum + 1) ↔ Fits a b m k := by
  rw [mem_rng]
  unfold Fits imax imin
  split <;> split <;> omega
theorem num_nonneg : ∀ (f : Nat) (ps : List Int) (m : Int), 0 ≤ num f ps m
  | 0, _, _ => by unfold num; omega
  | f + 1, ps, m => by
    unfold num
    split
    · omega
    · by_cases h : rng 1 (ps.length : Int) = []
      · rw [h]
        show (0 : Int) ≤ 1 + 0
        omega
      · obtain ⟨q, h1, h2, h3, h4⟩ := bestB_spec (cutV (num f) ps m) h
        rw [h1]
        show (0 : Int) ≤ 1 + q.1
        have := (maxB_spec (sideV (num f) (ps.take q.2.toNat) (ps.drop q.2.toNat) m) (rng (imax 0 (m - (ps.drop q.2.toNat).sum)) (imin m (ps.take q.2.toNat).sum + 1))).1
        have h5 : 0 ≤ cutV (num f) ps m q.2 := this
        omega
theorem numN_nonneg (ps : List Int) (m : Int) : 0 ≤ numN ps m := num_nonneg _ _ _
theorem side_nonneg (a b : List Int) (m k : Int) : 0 ≤ sideV numN a b m k := by
  have h1 := numN_nonneg a k
  have h2 := numN_nonneg b (m - k)
  unfold sideV imin
  split
  · split
    · split <;> omega
    · omega
  · omega
theorem Row.parts {ps : List Int} {m k : Int} {c : Nat} (r : Row ps m) (h : Fits (ps.take c) (ps.drop c) m k) : (0 < k → Row (ps.take c) k) ∧ (k < m → Row (ps.drop c) (m - k)) := by
  obtain ⟨h0, h1, h2, h3⟩ := h
  exact ⟨fun q => ⟨fun x hx => r.nn x (List.mem_of_mem_take hx), by omega, h3⟩, fun q => ⟨fun x hx => r.nn x (List.mem_of_mem_drop hx), by omega, by omega⟩⟩
/-- the best cut of a row where no hand is named -/
theorem best_spec {ps : List Int} {m : Int} (r : Row ps m) (hn : ¬ Named ps m) : ∃ q : Int × Int, bestB (cutV numN ps m) (rng 1 ps.length) = some q ∧ 1 ≤ q.2 ∧ q.2 < ps.length ∧ numN ps m = 1 + q.1 ∧
    (∀ k, Fits (ps.take q.2.toNat) (ps.drop q.2.toNat) m k → sideV numN (ps.take q.2.toNat) (ps.drop q.2.toNat) m k ≤ q.1) ∧
    (∃ k, Fits (ps.take q.2.toNat) (ps.drop q.2.toNat) m k ∧ sideV numN (ps.take q.2.toNat) (ps.drop q.2.toNat) m k = q.1) ∧
    ∀ c : Int, 1 ≤ c → c < ps.length → q.1 ≤ cutV numN ps m c := by
  have hne := r.ne
  have h2 : 2 ≤ ps.length := by
    match ps, hne, hn, r with
    | [x], _, hn, r =>
      refine absurd ⟨x, List.mem_cons_self .., ?_⟩ hn
      rw [List.sum_cons, List.sum_nil]
      have := r.lo
      omega
    | _ :: _ :: _, _, _, _ => simp
  have hr : rng 1 (ps.length : Int) ≠ [] := by
    intro e
    have : (1 : Int) ∈ rng 1 (ps.length : Int) := mem_rng.mpr ⟨by omega, by omega⟩
    rw [e] at this
    cases this
  obtain ⟨q, e1, e2, e3, e4⟩ := bestB_spec (cutV numN ps m) hr
  have e2' := mem_rng.mp e2
  have hm := maxB_spec (sideV numN (ps.take q.2.toNat) (ps.drop q.2.toNat) m) (rng (imax 0 (m - (ps.drop q.2.toNat).sum)) (imin m (ps.take q.2.toNat).sum + 1))
  have e3' : maxB (sideV numN (ps.take q.2.toNat) (ps.drop q.2.toNat) m) (rng (imax 0 (m - (ps.drop q.2.toNat).sum)) (imin m (ps.take q.2.toNat).sum + 1)) = q.1 := e3
  rw [e3'] at hm
  refine ⟨q, e1, e2'.1, e2'.2, ?_, fun k hk => hm.2.1 k (mem_fits.mpr hk), ?_, fun c h1 h2 => e4 c (mem_rng.mpr ⟨h1, h2⟩)⟩
  · rw [numN_eq hne, if_neg hn, e1]
    rfl
  · rcases hm.2.2 with h | ⟨k, hk, h⟩
    · have hs := sum_cut ps q.2.toNat
      have ha := sum_nn (ps := ps.take q.2.toNat) fun x hx => r.nn x (List.mem_of_mem_take hx)
      have hb := sum_nn (ps := ps.drop q.2.toNat) fun x hx => r.nn x (List.mem_of_mem_drop hx)
      have hlo := r.lo
      have hhi := r.hi
      have fit : Fits (ps.take q.2.toNat) (ps.drop q.2.toNat) m (imax 0 (m - (ps.drop q.2.toNat).sum)) := by
        unfold Fits imax
        split <;> omega
      have := hm.2.1 _ (mem_fits.mpr fit)
      have := side_nonneg (ps.take q.2.toNat) (ps.drop q.2.toNat) m (imax 0 (m - (ps.drop q.2.toNat).sum))
      exact ⟨_, fit, by omega⟩
    · exact ⟨k, mem_fits.mp hk, h⟩
theorem numN_named {ps : List Int} {m : Int} (r : Row ps m) : numN ps m = 0 ↔ Named ps m := by
  constructor
  · intro h
    apply Classical.byContradiction
    intro hn
    obtain ⟨q, _, _, _, e, _, ⟨k, _, e2⟩, _⟩ := best_spec r hn
    have := side_nonneg (ps.take q.2.toNat) (ps.drop q.2.toNat) m k
    omega
  · intro h
    rw [numN_eq r.ne, if_pos h]
theorem numN_le : ∀ (n : Nat) (ps : List Int) (m : Int), ps.length ≤ n → Row ps m → numN ps m ≤ (ps.length : Int) - 1
  | 0, ps, m, hl, r => absurd (List.length_eq_zero_iff.mp (by omega)) r.ne
  | n + 1, ps, m, hl, r => by
    have hp : 1 ≤ ps.length := Nat.pos_of_ne_zero fun z => r.ne (List.length_eq_zero_iff.mp z)
    by_cases hn : Named ps m
    · rw [numN_eq r.ne, if_pos hn]; omega
    · obtain ⟨q, e1, e2, e3, e4, _, _, e7⟩ := best_spec r hn
      have h1 := e7 1 (by omega) (by omega)
      have key : cutV numN ps m 1 ≤ (ps.length : Int) - 2 := by
        have hm := maxB_spec (sideV numN (ps.take (1 : Int).toNat) (ps.drop (1 : Int).toNat) m) (rng (imax 0 (m - (ps.drop (1 : Int).toNat).sum)) (imin m (ps.take (1 : Int).toNat).sum + 1))
        have e0 : cutV numN ps m 1 = maxB (sideV numN (ps.take (1 : Int).toNat) (ps.drop (1 : Int).toNat) m) (rng (imax 0 (m - (ps.drop (1 : Int).toNat).sum)) (imin m (ps.take (1 : Int).toNat).sum + 1)) := rfl
        rw [← e0] at hm
        rcases hm.2.2 with h | ⟨k, hk, h⟩
        · omega
        · rw [mem_fits] at hk
          rw [← h]
          obtain ⟨s1, s2, s3⟩ := side_spec (N := numN) (a := ps.take (1 : Int).toNat) (b := ps.drop (1 : Int).toNat) hk.1 hk.2.2.1 r.lo
          by_cases k0 : 0 < k
          · have r1 := (r.parts hk).1 k0
            have : numN (ps.take (1 : Int).toNat) k = 0 := by
              rw [numN_named r1]
              match ps, r1 with
              | x :: ps, r1 =>
                refine ⟨x, List.mem_cons_self .., ?_⟩
                show ([x] : List Int).sum - k < x
                rw [List.sum_cons, List.sum_nil]
                omega
              | [], r1 => exact absurd rfl r1.ne
            have := s1 k0
            omega
          · have hlo := r.lo
            have r2 := (r.parts hk).2 (by omega)
            have := s2 (by omega)
            have ih := numN_le n _ _ (by rw [List.length_drop]; simp; omega) r2
            rw [List.length_drop] at ih
            have e9 : (1 : Int).toNat = 1 := rfl
            rw [e9] at ih this ⊢
            omega
      omega
end K73

set_option maxHeartbeats 1000000
namespace K73
open PD
/-! ## stretches, the play -/
def sl (p : List Int) (l h : Int) : List Int := (p.drop l.toNat).take (h.toNat - l.toNat)
theorem sl_length {p : List Int} {l h : Int} (h0 : 0 ≤ l) (h1 : l ≤ h) (h2 : h ≤ p.length) : ((sl p l h).length : Int) = h - l := by
  unfold sl; rw [List.length_take, List.length_drop]; omega
theorem sl_take {p : List Int} {l c h : Int} (h0 : 0 ≤ l) (h1 : l ≤ c) (h2 : c ≤ h) : (sl p l h).take (c - l).toNat = sl p l c := by
  unfold sl; rw [List.take_take]; congr 1; omega
theorem sl_drop {p : List Int} {l c h : Int} (h0 : 0 ≤ l) (h1 : l ≤ c) (h2 : c ≤ h) : (sl p l h).drop (c - l).toNat = sl p c h := by
  unfold sl; rw [List.drop_take, List.drop_drop, show l.toNat + (c - l).toNat = c.toNat by omega, show h.toNat - l.toNat - (c - l).toNat = h.toNat - c.toNat by omega]
def cutI (p : List Int) (l h m c : Int) : Int := cutW numN (sl p l c) (sl p c h) m
def bestI (p : List Int) (l h m : Int) : Option (Int × Int) := bestB (cutI p l h m) (rng (l + 1) h)
theorem bestI_eq {p : List Int} {l h m : Int} (h0 : 0 ≤ l) (h1 : l ≤ h) (h2 : h ≤ p.length) : bestI p l h m = (bestB (cutV numN (sl p l h) m) (rng 1 (sl p l h).length)).map fun q => (q.1, q.2 + l) := by
  unfold bestI
  rw [sl_length h0 h1 h2, show rng (l + 1) h = (rng 1 (h - l)).map (· + l) by rw [← rng_shift]; congr 1 <;> omega, bestB_map]
  congr 1
  refine bestB_congr fun c hc => ?_
  rw [mem_rng] at hc
  show cutW numN (sl p l (c + l)) (sl p (c + l) h) m = cutW numN ((sl p l h).take c.toNat) ((sl p l h).drop c.toNat) m
  have e : c = (c + l) - l := by omega
  rw [← sl_take h0 (show l ≤ c + l by omega) (show c + l ≤ h by omega), ← sl_drop h0 (show l ≤ c + l by omega) (show c + l ≤ h by omega), show c + l - l = c by omega]
/-- what a stretch has -/
structure RowI (p : List Int) (l h m : Int) : Prop where
  l0 : 0 ≤ l
  lh : l ≤ h
  hn : h ≤ p.length
  row : Row (sl p l h) m
def FitsI (p : List Int) (l c h m k : Int) : Prop := Fits (sl p l c) (sl p c h) m k
theorem bestI_spec {p : List Int} {l h m : Int} (r : RowI p l h m) (hn : numN (sl p l h) m ≠ 0) : ∃ q : Int × Int, bestI p l h m = some q ∧ l < q.2 ∧ q.2 < h ∧ numN (sl p l h) m = 1 + q.1 ∧
    (∀ k, FitsI p l q.2 h m k → sideV numN (sl p l q.2) (sl p q.2 h) m k ≤ q.1) ∧ ∃ k, FitsI p l q.2 h m k ∧ sideV numN (sl p l q.2) (sl p q.2 h) m k = q.1 := by
  obtain ⟨q, e1, e2, e3, e4, e5, e6, _⟩ := best_spec r.row (fun z => hn ((numN_named r.row).mpr z))
  rw [sl_length r.l0 r.lh r.hn] at e3
  have t : (sl p l h).take q.2.toNat = sl p l (q.2 + l) := by rw [← sl_take r.l0 (show l ≤ q.2 + l by omega) (show q.2 + l ≤ h by omega), show q.2 + l - l = q.2 by omega]
  have d : (sl p l h).drop q.2.toNat = sl p (q.2 + l) h := by rw [← sl_drop r.l0 (show l ≤ q.2 + l by omega) (show q.2 + l ≤ h by omega), show q.2 + l - l = q.2 by omega]
  rw [t, d] at e5 e6
  exact ⟨(q.1, q.2 + l), by rw [bestI_eq r.l0 r.lh r.hn, e1]; rfl, by show l < q.2 + l; omega, by show q.2 + l < h; omega, e4, e5, e6⟩
/-! opened places -/
def lookR : List (Int × Int) → Int → Int
  | [], _ => 0
  | r :: rs, c => if r.1 = c then r.2 else lookR rs c
def strG (p : List Int) (m : Int) (rows : List (Int × Int)) : Int → Int → List Int → List (Int × Int × Int)
  | low, known, [] => [(low, (p.length : Int), m - known)]
  | low, known, c :: cs => (low, c, lookR rows c - known) :: strG p m rows c (lookR rows c) cs
def strh (p : List Int) (m : Int) (rows : List (Int × Int)) : List (Int × Int × Int) := strG p m rows 0 0 (isort (rows.map (·.1)))
def short (p : List Int) (m : Int) (rows : List (Int × Int)) : List (Int × Int × Int) := (strh p m rows).filter fun s => decide (0 < s.2.2)
def act (p : List Int) (m : Int) (rows : List (Int × Int)) : Option (Int × Int × Int × Int) := bestB (fun s => numN (sl p s.1 s.2.1) s.2.2) (short p m rows)
def rowsOf (K : Int → Int) (C : List Int) : List (Int × Int) := C.map fun c => (c, K c)
theorem lookR_of {K : Int → Int} : ∀ {C : List Int} {c : Int}, c ∈ C → lookR (rowsOf K C) c = K c
  | [], _, h => by cases h
  | d :: C, c, h => by
    show (if d = c then K d else lookR (rowsOf K C) c) = K c
    by_cases e : d = c
    · rw [if_pos e, e]
    · rw [if_neg e]
      rcases List.mem_cons.mp h with q | q
      · exact absurd q.symm e
      · exact lookR_of q
theorem rowsOf_fst (K : Int → Int) (C : List Int) : (rowsOf K C).map (·.1) = C := by
  unfold rowsOf; rw [List.map_map]; exact List.map_id'' (fun _ => rfl) C
/-- stretches by the amounts K -/
def strK (n : Int) (K : Int → Int) : Int → List Int → List (Int × Int × Int)
  | low, [] => [(low, n, K n - K low)]
  | low, c :: cs => (low, c, K c - K low) :: strK n K c cs
theorem strG_eq {p : List Int} {m : Int} {K : Int → Int} {C : List Int} (hm : K p.length = m) : ∀ {L : List Int} {low : Int}, (∀ c ∈ L, c ∈ C) → strG p m (rowsOf K C) low (K low) L = strK p.length K low L
  | [], low, _ => by unfold strG strK; rw [hm]
  | c :: L, low, h => by
    unfold strG strK
    rw [lookR_of (h c (List.mem_cons_self ..)), strG_eq hm fun d hd => h d (List.mem_cons_of_mem _ hd)]
/-- neighbours among the places -/
def Cons (n : Int) (low : Int) (L : List Int) (a b : Int) : Prop := (a = low ∨ a ∈ L) ∧ (b ∈ L ∨ b = n) ∧ a < b ∧ ∀ y ∈ L, ¬ (a < y ∧ y < b)
theorem mem_strK {n : Int} {K : Int → Int} : ∀ {L : List Int} {low : Int}, List.Pairwise (· < ·) L → (∀ c ∈ L, low < c ∧ c < n) → low < n → ∀ s, s ∈ strK n K low L ↔ Cons n low L s.1 s.2.1 ∧ s.2.2 = K s.2.1 - K s.1
  | [], low, _, _, h0, s => by
    unfold strK Cons
    rw [List.mem_singleton]
    constructor
    · rintro rfl
      exact ⟨⟨.inl rfl, .inr rfl, h0, fun y hy => by cases hy⟩, rfl⟩
    · rintro ⟨⟨h1, h2, _, _⟩, h3⟩
      obtain ⟨a, b, x⟩ := s
      rcases h1 with h1 | h1
      · rcases h2 with h2 | h2
        · cases h2
        · have e1 : a = low := h1
          have e2 : b = n := h2
          have e3 : x = K b - K a := h3
          rw [e3, e1, e2]
      · cases h1
  | c :: L, low, hp, hL, h0, s => by
    unfold strK
    have hp' := List.pairwise_cons.mp hp
    have hc := hL c (List.mem_cons_self ..)
    have ih := mem_strK (K := K) hp'.2 (fun d hd => ⟨hp'.1 d hd, (hL d (List.mem_cons_of_mem _ hd)).2⟩) hc.2 s
    rw [List.mem_cons, ih]
    obtain ⟨a, b, x⟩ := s
    constructor
    · rintro (h | ⟨⟨h1, h2, h3, h4⟩, h5⟩)
      · cases h
        refine ⟨⟨.inl rfl, .inl (List.mem_cons_self ..), hc.1, fun y hy => ?_⟩, rfl⟩
        rcases List.mem_cons.mp hy with rfl | hy
        · show ¬ (low < y ∧ y < y); omega
        · have := hp'.1 y hy
          show ¬ (low < y ∧ y < c); omega
      · have h1' : a = c ∨ a ∈ L := h1
        have h3' : a < b := h3
        refine ⟨⟨.inr ?_, ?_, h3, fun y hy => ?_⟩, h5⟩
        · rcases h1' with h1 | h1
          · show a ∈ c :: L; rw [h1]; exact List.mem_cons_self ..
          · exact List.mem_cons_of_mem _ h1
        · rcases h2 with h2 | h2
          · exact .inl (List.mem_cons_of_mem _ h2)
          · exact .inr h2
        · rcases List.mem_cons.mp hy with rfl | hy
          · have : y ≤ a := by rcases h1' with h1 | h1
                               · omega
                               · have := hp'.1 a h1; omega
            show ¬ (a < y ∧ y < b); omega
          · exact h4 y hy
    · rintro ⟨⟨h1, h2, h3, h4⟩, h5⟩
      have h3' : a < b := h3
      have h1' : a = low ∨ a ∈ c :: L := h1
      have h2' : b ∈ c :: L ∨ b = n := h2
      by_cases e : a = low
      · left
        have hb : b = c := by
          have := h4 c (List.mem_cons_self ..)
          have h6 : ¬ (a < c ∧ c < b) := this
          rcases h2' with h2 | h2
          · rcases List.mem_cons.mp h2 with h2 | h2
            · exact h2
            · have := hp'.1 b h2
              omega
          · omega
        have h5' : x = K b - K a := h5
        rw [h5', e, hb]
      · right
        have ha : a ∈ c :: L := by rcases h1' with h1 | h1
                                   · exact absurd h1 e
                                   · exact h1
        have hca : c ≤ a := by rcases List.mem_cons.mp ha with h | h
                               · omega
                               · have := hp'.1 a h; omega
        refine ⟨⟨?_, ?_, h3, fun y hy => h4 y (List.mem_cons_of_mem _ hy)⟩, h5⟩
        · rcases List.mem_cons.mp ha with h | h
          · exact .inl h
          · exact .inr h
        · rcases h2' with h2 | h2
          · rcases List.mem_cons.mp h2 with h2 | h2
            · omega
            · exact .inl h2
          · exact .inr h2
/-- the state of a play: places C opened, amounts K -/
structure Inv (p : List Int) (m : Int) (K : Int → Int) (C : List Int) : Prop where
  nn : ∀ x ∈ p, 0 ≤ x
  nd : C.Nodup
  inn : ∀ c ∈ C, 0 < c ∧ c < p.length
  k0 : K 0 = 0
  kn : K p.length = m
  m1 : 1 ≤ m
  am : ∀ a b, Cons p.length 0 C a b → 0 ≤ K b - K a ∧ K b - K a ≤ (sl p a b).sum
section
variable {p : List Int} {m : Int} {K : Int → Int} {C : List Int}
theorem sorted_lt {C : List Int} (h : C.Nodup) : List.Pairwise (· < ·) (isort C) := by
  have h1 := isort_sorted C
  have h2 : (isort C).Nodup := (isort_perm C).nodup_iff.mpr h
  unfold List.Nodup at h2
  refine (List.pairwise_and_iff.mpr ⟨h1, h2⟩).imp ?_
  intro a b ⟨q1, q2⟩
  have q1' : a ≤ b := q1
  have q2' : a ≠ b := q2
  show a < b
  omega
theorem Inv.n0 (I : Inv p m K C) : 0 < (p.length : Int) := by
  apply Classical.byContradiction
  intro h
  have e : (p.length : Int) = 0 := by omega
  have h1 := I.kn
  rw [e, I.k0] at h1
  have := I.m1
  omega
theorem Cons_perm {n : Int} {C D : List Int} (h : ∀ x, x ∈ C ↔ x ∈ D) {a b : Int} : Cons n 0 C a b ↔ Cons n 0 D a b := by
  unfold Cons
  rw [h, h]
  constructor
  · rintro ⟨h1, h2, h3, h4⟩
    exact ⟨h1, h2, h3, fun y hy => h4 y ((h y).mpr hy)⟩
  · rintro ⟨h1, h2, h3, h4⟩
    exact ⟨h1, h2, h3, fun y hy => h4 y ((h y).mp hy)⟩
theorem Inv.mem (I : Inv p m K C) (s : Int × Int × Int) : s ∈ strh p m (rowsOf K C) ↔ Cons p.length 0 C s.1 s.2.1 ∧ s.2.2 = K s.2.1 - K s.1 := by
  unfold strh
  rw [rowsOf_fst]
  have e : ∀ x, x ∈ isort C ↔ x ∈ C := fun x => (isort_perm C).mem_iff
  have k0 : (0 : Int) = K 0 := I.k0.symm
  conv => lhs; arg 1; rw [show strG p m (rowsOf K C) 0 0 (isort C) = strG p m (rowsOf K C) 0 (K 0) (isort C) by rw [← k0]]
  rw [strG_eq I.kn fun c hc => (e c).mp hc, mem_strK (sorted_lt I.nd) (fun c hc => I.inn c ((e c).mp hc)) I.n0, Cons_perm e]
theorem Cons.bounds {n : Int} {a b : Int} (hC : ∀ c ∈ C, 0 < c ∧ c < n) (hn : 0 < n) (h : Cons n 0 C a b) : 0 ≤ a ∧ a < b ∧ b ≤ n := by
  obtain ⟨h1, h2, h3, _⟩ := h
  refine ⟨?_, h3, ?_⟩
  · rcases h1 with h1 | h1
    · omega
    · have := hC a h1; omega
  · rcases h2 with h2 | h2
    · have := hC b h2; omega
    · omega
theorem Inv.row (I : Inv p m K C) {s : Int × Int × Int} (h : s ∈ short p m (rowsOf K C)) : RowI p s.1 s.2.1 s.2.2 ∧ Cons p.length 0 C s.1 s.2.1 ∧ s.2.2 = K s.2.1 - K s.1 := by
  unfold short at h
  rw [List.mem_filter, I.mem] at h
  obtain ⟨⟨h1, h2⟩, h3⟩ := h
  have h3' := of_decide_eq_true h3
  obtain ⟨b1, b2, b3⟩ := h1.bounds I.inn I.n0
  have h4 := I.am _ _ h1
  exact ⟨⟨b1, by omega, b3, ⟨fun x hx => I.nn x (List.mem_of_mem_drop (List.mem_of_mem_take hx)), by omega, by omega⟩⟩, h1, h2⟩
theorem sum_strK {n : Int} {K : Int → Int} : ∀ {L : List Int} {low : Int}, (∀ s ∈ strK n K low L, s.2.2 ≤ 0) → K n ≤ K low
  | [], low, h => by
    have := h (low, n, K n - K low) (by unfold strK; exact List.mem_cons_self ..)
    have h' : K n - K low ≤ 0 := this
    omega
  | c :: L, low, h => by
    have h1 := h (low, c, K c - K low) (by unfold strK; exact List.mem_cons_self ..)
    have h1' : K c - K low ≤ 0 := h1
    have := sum_strK (L := L) (low := c) (K := K) (n := n) fun s hs => h s (by unfold strK; exact List.mem_cons_of_mem _ hs)
    omega
theorem Inv.act (I : Inv p m K C) : ∃ q : Int × Int × Int × Int, act p m (rowsOf K C) = some q ∧ q.2 ∈ short p m (rowsOf K C) ∧ numN (sl p q.2.1 q.2.2.1) q.2.2.2 = q.1 ∧ ∀ s ∈ short p m (rowsOf K C), q.1 ≤ numN (sl p s.1 s.2.1) s.2.2 := by
  refine bestB_spec (fun s : Int × Int × Int => numN (sl p s.1 s.2.1) s.2.2) fun e => ?_
  have h : ∀ s ∈ strh p m (rowsOf K C), s.2.2 ≤ 0 := fun s hs => by
    apply Classical.byContradiction
    intro z
    have : s ∈ short p m (rowsOf K C) := by
      unfold short
      rw [List.mem_filter]
      exact ⟨hs, decide_eq_true (by omega)⟩
    rw [e] at this
    cases this
  have e1 : strh p m (rowsOf K C) = strK p.length K 0 (isort C) := by
    unfold strh
    rw [rowsOf_fst, show strG p m (rowsOf K C) 0 0 (isort C) = strG p m (rowsOf K C) 0 (K 0) (isort C) by rw [I.k0]]
    exact strG_eq I.kn fun c hc => (isort_perm C).mem_iff.mp hc
  rw [e1] at h
  have := sum_strK h
  rw [I.k0, I.kn] at this
  have := I.m1
  omega
/-- a new place in a stretch: who are neighbours then -/
theorem Cons_app {n a b c : Int} {l h : Int} (hc : Cons n 0 C l h) (h1 : l < c) (h2 : c < h) (hC : ∀ x ∈ C, 0 < x ∧ x < n) (hn : 0 < n) :
    Cons n 0 (C ++ [c]) a b ↔ (Cons n 0 C a b ∧ ¬ (a = l ∧ b = h)) ∨ (a = l ∧ b = c) ∨ (a = c ∧ b = h) := by
  obtain ⟨bl, _, bh⟩ := hc.bounds hC hn
  obtain ⟨q1, q2, q3, q4⟩ := hc
  have hcl : ∀ y, y = 0 ∨ y ∈ C ∨ y = n → y ≤ l ∨ h ≤ y := fun y hy => by
    rcases hy with rfl | hy | rfl
    · omega
    · have := q4 y hy; omega
    · omega
  have hla : l = 0 ∨ l ∈ C ∨ l = n := by rcases q1 with q | q <;> simp [q]
  have hha : h = 0 ∨ h ∈ C ∨ h = n := by rcases q2 with q | q <;> simp [q]
  constructor
  · rintro ⟨k1, k2, k3, k4⟩
    have k4c := k4 c (by simp)
    have k4C : ∀ y ∈ C, ¬ (a < y ∧ y < b) := fun y hy => k4 y (by simp [hy])
    have ka : a = c ∨ (a = 0 ∨ a ∈ C) := by
      rcases k1 with k | k
      · exact .inr (.inl k)
      · rcases List.mem_append.mp k with k | k
        · exact .inr (.inr k)
        · exact .inl (List.mem_singleton.mp k)
    have kb : b = c ∨ (b ∈ C ∨ b = n) := by
      rcases k2 with k | k
      · rcases List.mem_append.mp k with k | k
        · exact .inr (.inl k)
        · exact .inl (List.mem_singleton.mp k)
      · exact .inr (.inr k)
    rcases ka with rfl | ka
    · right; right
      refine ⟨rfl, ?_⟩
      rcases kb with rfl | kb
      · omega
      · have := hcl b (by rcases kb with k | k <;> simp [k])
        have hb : b ≤ n := by
          rcases kb with k | k
          · have := hC b k; omega
          · omega
        rcases q2 with q | q
        · have := k4C h q; omega
        · omega
    · have na := hcl a (by rcases ka with k | k <;> simp [k])
      rcases kb with rfl | kb
      · right; left
        refine ⟨?_, rfl⟩
        have ha : 0 ≤ a := by
          rcases ka with k | k
          · omega
          · have := hC a k; omega
        rcases q1 with q | q
        · omega
        · have := k4C l q; omega
      · left
        refine ⟨⟨ka, kb, k3, k4C⟩, ?_⟩
        rintro ⟨rfl, rfl⟩
        omega
  · rintro (⟨⟨k1, k2, k3, k4⟩, k5⟩ | ⟨rfl, rfl⟩ | ⟨rfl, rfl⟩)
    · refine ⟨?_, ?_, k3, fun y hy => ?_⟩
      · rcases k1 with k | k
        · exact .inl k
        · exact .inr (List.mem_append_left _ k)
      · rcases k2 with k | k
        · exact .inl (List.mem_append_left _ k)
        · exact .inr k
      · rcases List.mem_append.mp hy with hy | hy
        · exact k4 y hy
        · rw [List.mem_singleton.mp hy]
          intro z
          have na := hcl a (by rcases k1 with k | k <;> simp [k])
          have nb := hcl b (by rcases k2 with k | k <;> simp [k])
          have al : a ≤ l := by omega
          have bh' : h ≤ b := by omega
          refine k5 ⟨?_, ?_⟩
          · rcases q1 with q | q
            · rcases k1 with k | k
              · omega
              · have := hC a k; omega
            · have := k4 l q; omega
          · rcases q2 with q | q
            · have := k4 h q; omega
            · rcases k2 with k | k
              · have := hC b k; omega
              · omega
    · refine ⟨?_, .inl (by simp), h1, fun y hy => ?_⟩
      · rcases q1 with q | q
        · exact .inl q
        · exact .inr (List.mem_append_left _ q)
      · rcases List.mem_append.mp hy with hy | hy
        · have := hcl y (.inr (.inl hy)); omega
        · rw [List.mem_singleton.mp hy]; omega
    · refine ⟨.inr (by simp), ?_, h2, fun y hy => ?_⟩
      · rcases q2 with q | q
        · exact .inl (List.mem_append_left _ q)
        · exact .inr q
      · rcases List.mem_append.mp hy with hy | hy
        · have := hcl y (.inr (.inl hy)); omega
        · rw [List.mem_singleton.mp hy]; omega
/-- THE STEP: the stretch (l, h) is opened at c -/
theorem Inv.step (I : Inv p m K C) {l h c : Int} (hc : Cons p.length 0 C l h) (h1 : l < c) (h2 : c < h) (hf : FitsI p l c h (K h - K l) (K c - K l)) : Inv p m K (C ++ [c]) where
  nn := I.nn
  nd := by
    rw [List.nodup_append]
    refine ⟨I.nd, by simp, fun a ha b hb e => ?_⟩
    rw [List.mem_singleton.mp hb] at e
    have := hc.2.2.2 a ha
    omega
  inn := fun x hx => by
    rcases List.mem_append.mp hx with hx | hx
    · exact I.inn x hx
    · rw [List.mem_singleton.mp hx]
      have := hc.bounds I.inn I.n0
      omega
  k0 := I.k0
  kn := I.kn
  m1 := I.m1
  am := fun a b hab => by
    obtain ⟨f1, f2, f3, f4⟩ := hf
    rcases (Cons_app hc h1 h2 I.inn I.n0).mp hab with ⟨z, _⟩ | ⟨rfl, rfl⟩ | ⟨rfl, rfl⟩
    · exact I.am a b z
    · exact ⟨f1, f4⟩
    · omega
theorem mem_short (I : Inv p m K C) (s : Int × Int × Int) : s ∈ short p m (rowsOf K C) ↔ Cons p.length 0 C s.1 s.2.1 ∧ s.2.2 = K s.2.1 - K s.1 ∧ 0 < s.2.2 := by
  unfold short
  rw [List.mem_filter, I.mem, decide_eq_true_iff, and_assoc]
/-- the least number behind an opening -/
theorem Inv.next (I : Inv p m K C) {l h c : Int} {n : Int} (hc : Cons p.length 0 C l h) (h1 : l < c) (h2 : c < h) (hx : 0 < K h - K l) (hf : FitsI p l c h (K h - K l) (K c - K l))
    (hmin : ∀ s ∈ short p m (rowsOf K C), n ≤ numN (sl p s.1 s.2.1) s.2.2) :
    ∃ q : Int × Int × Int × Int, K73.act p m (rowsOf K (C ++ [c])) = some q ∧ q.1 ≤ sideV numN (sl p l c) (sl p c h) (K h - K l) (K c - K l) ∧ (n ≤ q.1 ∨ sideV numN (sl p l c) (sl p c h) (K h - K l) (K c - K l) ≤ q.1) := by
  have I' := I.step hc h1 h2 hf
  obtain ⟨q, e1, e2, e3, e4⟩ := I'.act
  obtain ⟨s1, s2, s3⟩ := side_spec (N := numN) (a := sl p l c) (b := sl p c h) hf.1 hf.2.2.1 (show 1 ≤ K h - K l by omega)
  refine ⟨q, e1, ?_, ?_⟩
  · rcases s3 with ⟨k, e⟩ | ⟨k, e⟩
    · rw [e]
      exact e4 (l, c, K c - K l) ((mem_short I' _).mpr ⟨(Cons_app hc h1 h2 I.inn I.n0).mpr (.inr (.inl ⟨rfl, rfl⟩)), rfl, k⟩)
    · rw [e]
      have := e4 (c, h, K h - K c) ((mem_short I' _).mpr ⟨(Cons_app hc h1 h2 I.inn I.n0).mpr (.inr (.inr ⟨rfl, rfl⟩)), rfl, by show 0 < K h - K c; omega⟩)
      have e9 : K h - K l - (K c - K l) = K h - K c := by omega
      rw [e9]
      exact this
  · obtain ⟨m1, m2, m3⟩ := (mem_short I' _).mp e2
    rcases (Cons_app hc h1 h2 I.inn I.n0).mp m1 with ⟨z, _⟩ | ⟨z1, z2⟩ | ⟨z1, z2⟩
    · exact .inl (e3 ▸ hmin q.2 ((mem_short I _).mpr ⟨z, m2, m3⟩))
    · right
      rw [← e3, m2, z1, z2]
      rw [m2, z1, z2] at m3
      exact s1 m3
    · right
      rw [← e3, m2, z1, z2]
      rw [m2, z1, z2] at m3
      have e9 : K h - K c = K h - K l - (K c - K l) := by omega
      rw [e9]
      exact s2 (by omega)
/-- the play: how many places are opened -/
def play (p : List Int) (m : Int) (T : Int → Int) : Nat → List (Int × Int) → Int
  | 0, rows => rows.length
  | f + 1, rows => match act p m rows with
    | some q => if q.1 = 0 then rows.length else (match bestI p q.2.1 q.2.2.1 q.2.2.2 with
      | some b => play p m T f (rows ++ [(b.2, T b.2)])
      | none => rows.length)
    | none => rows.length
theorem rowsOf_app (c : Int) : rowsOf K (C ++ [c]) = rowsOf K C ++ [(c, K c)] := by unfold rowsOf; rw [List.map_append]; rfl
theorem rowsOf_length : (rowsOf K C).length = C.length := by unfold rowsOf; rw [List.length_map]
/-- T is what a row of takings t has before each place -/
structure Tk (p : List Int) (m : Int) (t : List Int) : Prop where
  len : t.length = p.length
  bd : ∀ (i : Nat) (a b : Int), t[i]? = some a → p[i]? = some b → 0 ≤ a ∧ a ≤ b
  sum : t.sum = m
def pre (t : List Int) (c : Int) : Int := (t.take c.toNat).sum
theorem bd_sums : ∀ {t p : List Int}, t.length = p.length → (∀ (i : Nat) (a b : Int), t[i]? = some a → p[i]? = some b → 0 ≤ a ∧ a ≤ b) → 0 ≤ t.sum ∧ t.sum ≤ p.sum
  | [], [], _, _ => by decide
  | x :: t, y :: p, hl, h => by
    have h0 := h 0 x y rfl rfl
    have := bd_sums (t := t) (p := p) (by simpa using hl) fun i a b h1 h2 => h (i + 1) a b h1 h2
    rw [List.sum_cons, List.sum_cons]
    omega
  | [], _ :: _, hl, _ => by simp at hl
  | _ :: _, [], hl, _ => by simp at hl
theorem pre_sl {t : List Int} {a b : Int} (h0 : 0 ≤ a) (h1 : a ≤ b) : pre t b - pre t a = (sl t a b).sum := by
  unfold pre sl
  have e : t.take b.toNat = t.take a.toNat ++ (t.drop a.toNat).take (b.toNat - a.toNat) := by
    rw [← List.drop_take]
    conv => lhs; rw [← List.take_append_drop a.toNat (t.take b.toNat)]
    rw [List.take_take, show min a.toNat b.toNat = a.toNat by omega]
  rw [e, List.sum_append]
  omega
theorem sl_get {t : List Int} {a b : Int} {i : Nat} {x : Int} (h : (sl t a b)[i]? = some x) : t[a.toNat + i]? = some x := by
  unfold sl at h
  rw [List.getElem?_take] at h
  split at h
  · rw [List.getElem?_drop] at h
    exact h
  · cases h
theorem Tk.part {t : List Int} (T : Tk p m t) {a b : Int} (h0 : 0 ≤ a) (h1 : a ≤ b) (h2 : b ≤ p.length) : 0 ≤ pre t b - pre t a ∧ pre t b - pre t a ≤ (sl p a b).sum := by
  rw [pre_sl h0 h1]
  refine bd_sums ?_ fun i x y hx hy => T.bd (a.toNat + i) x y (sl_get hx) (sl_get hy)
  have := sl_length (p := p) h0 h1 h2
  have := sl_length (p := t) h0 h1 (by rw [T.len]; exact h2)
  omega
theorem Tk.inv {t : List Int} (T : Tk p m t) (nn : ∀ x ∈ p, 0 ≤ x) (m1 : 1 ≤ m) (nd : C.Nodup) (inn : ∀ c ∈ C, 0 < c ∧ c < p.length) : Inv p m (pre t) C where
  nn := nn
  nd := nd
  inn := inn
  k0 := rfl
  kn := by
    unfold pre
    rw [show ((p.length : Int)).toNat = t.length by rw [T.len]; omega, List.take_length]
    exact T.sum
  m1 := m1
  am := fun a b h => by
    have hp : 0 < (p.length : Int) := by
      apply Classical.byContradiction
      intro z
      have h1 := T.len
      have h2 : t = [] := List.length_eq_zero_iff.mp (by omega)
      have h3 := T.sum
      rw [h2, List.sum_nil] at h3
      omega
    obtain ⟨b1, b2, b3⟩ := h.bounds inn hp
    exact T.part b1 (by omega) b3
end
end K73

set_option maxHeartbeats 1000000
namespace K73
open PD
section
variable {p : List Int} {m : Int} {K : Int → Int} {C : List Int} {t : List Int}
/-- one act of the play -/
theorem Tk.step (T : Tk p m t) (I : Inv p m (pre t) C) {q : Int × Int × Int × Int} (hq : act p m (rowsOf (pre t) C) = some q) : RowI p q.2.1 q.2.2.1 q.2.2.2 ∧ numN (sl p q.2.1 q.2.2.1) q.2.2.2 = q.1 ∧ q.2.2.2 = pre t q.2.2.1 - pre t q.2.1 ∧
    (q.1 ≠ 0 → ∃ b : Int × Int, bestI p q.2.1 q.2.2.1 q.2.2.2 = some b ∧ 0 < b.2 ∧ b.2 < p.length ∧ b.2 ∉ C ∧ Inv p m (pre t) (C ++ [b.2]) ∧ ∃ q' : Int × Int × Int × Int, act p m (rowsOf (pre t) (C ++ [b.2])) = some q' ∧ q'.1 < q.1) := by
  obtain ⟨q0, e1, e2, e3, e4⟩ := I.act
  rw [hq] at e1
  cases e1
  obtain ⟨r, hc, hx⟩ := I.row e2
  refine ⟨r, e3, hx, fun hn => ?_⟩
  rw [← e3] at hn
  obtain ⟨b, b1, b2, b3, b4, b5, _⟩ := bestI_spec r hn
  have hf : FitsI p q.2.1 b.2 q.2.2.1 (pre t q.2.2.1 - pre t q.2.1) (pre t b.2 - pre t q.2.1) := by
    have h1 := T.part (a := q.2.1) (b := b.2) r.l0 (by omega) (by have := r.hn; omega)
    have h2 := T.part (a := b.2) (b := q.2.2.1) (by have := r.l0; omega) (by omega) r.hn
    exact ⟨h1.1, by omega, by omega, h1.2⟩
  have I' := I.step hc b2 b3 hf
  have hb := I'.inn b.2 (by simp)
  refine ⟨b, b1, hb.1, hb.2, fun z => ?_, I', ?_⟩
  · exact hc.2.2.2 b.2 z ⟨b2, b3⟩
  · obtain ⟨q', a1, a2, _⟩ := I.next hc b2 b3 (by have := r.row.lo; omega) hf (n := q.1) e4
    refine ⟨q', a1, ?_⟩
    have h5 := b5 (pre t b.2 - pre t q.2.1) (by rw [hx]; exact hf)
    rw [hx] at h5
    omega
theorem act_nil (nn : ∀ x ∈ p, 0 ≤ x) (r : Row p m) : act p m [] = some (numN p m, 0, (p.length : Int), m) := by
  have h0 : strh p m [] = [(0, (p.length : Int), m - 0)] := rfl
  unfold act short
  rw [h0, Int.sub_zero]
  have : ([(0, (p.length : Int), m)].filter fun s : Int × Int × Int => decide (0 < s.2.2)) = [(0, (p.length : Int), m)] := by
    rw [List.filter_cons_of_pos (by have := r.lo; exact decide_eq_true (show 0 < m by omega))]
    rfl
  rw [this]
  show some (numN (sl p 0 p.length) m, ((0 : Int), (p.length : Int), m)) = _
  have : sl p 0 p.length = p := by
    unfold sl
    show (p.drop 0).take _ = p
    rw [List.drop_zero, show ((p.length : Int)).toNat - (0 : Int).toNat = p.length by omega, List.take_length]
  rw [this]
theorem play_le (T : Tk p m t) : ∀ (f : Nat) {C : List Int} {q : Int × Int × Int × Int}, Inv p m (pre t) C → act p m (rowsOf (pre t) C) = some q → play p m (pre t) f (rowsOf (pre t) C) ≤ C.length + q.1
  | 0, C, q, I, hq => by
    unfold play
    obtain ⟨r, e, _⟩ := T.step I hq
    have := numN_nonneg (sl p q.2.1 q.2.2.1) q.2.2.2
    rw [rowsOf_length]
    omega
  | f + 1, C, q, I, hq => by
    obtain ⟨r, e, _, h⟩ := T.step I hq
    have := numN_nonneg (sl p q.2.1 q.2.2.1) q.2.2.2
    unfold play
    rw [hq]
    show (if q.1 = 0 then _ else _) ≤ _
    by_cases z : q.1 = 0
    · rw [if_pos z, rowsOf_length]; omega
    · rw [if_neg z]
      obtain ⟨b, b1, _, _, _, I', q', a1, a2⟩ := h z
      rw [b1]
      show play p m (pre t) f (rowsOf (pre t) C ++ [(b.2, pre t b.2)]) ≤ _
      rw [← rowsOf_app]
      have := play_le T f I' a1
      rw [List.length_append] at this
      simp at this
      omega
/-! the foe -/
theorem fill : ∀ (ps : List Int) (x : Int), (∀ y ∈ ps, 0 ≤ y) → 0 ≤ x → x ≤ ps.sum → ∃ t : List Int, t.length = ps.length ∧ (∀ (i : Nat) (a b : Int), t[i]? = some a → ps[i]? = some b → 0 ≤ a ∧ a ≤ b) ∧ t.sum = x
  | [], x, _, h0, h1 => ⟨[], rfl, fun i a b h => by simp at h, by rw [List.sum_nil] at h1 ⊢; omega⟩
  | y :: ps, x, nn, h0, h1 => by
    have hy := nn y (List.mem_cons_self ..)
    have hs := sum_nn fun z hz => nn z (List.mem_cons_of_mem _ hz)
    rw [List.sum_cons] at h1
    obtain ⟨t, e1, e2, e3⟩ := fill ps (x - imin x y) (fun z hz => nn z (List.mem_cons_of_mem _ hz)) (by unfold imin; split <;> omega) (by unfold imin; split <;> omega)
    refine ⟨imin x y :: t, by simp [e1], fun i a b ha hb => ?_, by rw [List.sum_cons, e3]; omega⟩
    cases i with
    | zero =>
      cases ha
      cases hb
      unfold imin
      split <;> omega
    | succ i => exact e2 i a b ha hb
theorem fillL : ∀ (L : List Int) (low : Int), 0 ≤ low → List.Pairwise (· < ·) L → (∀ c ∈ L, low < c ∧ c < p.length) → low < p.length → (∀ x ∈ p, 0 ≤ x) →
    (∀ s ∈ strK p.length K low L, 0 ≤ s.2.2 ∧ s.2.2 ≤ (sl p s.1 s.2.1).sum) →
    ∃ t : List Int, (t.length : Int) = p.length - low ∧ (∀ (i : Nat) (a b : Int), t[i]? = some a → p[low.toNat + i]? = some b → 0 ≤ a ∧ a ≤ b) ∧ (∀ b, b ∈ L ∨ b = (p.length : Int) → (t.take (b - low).toNat).sum = K b - K low)
  | [], low, h0, hp, hL, hlow, nn, hs => by
    have h1 := hs (low, (p.length : Int), K p.length - K low) (by unfold strK; exact List.mem_cons_self ..)
    obtain ⟨t, e1, e2, e3⟩ := fill (sl p low p.length) _ (fun x hx => nn x (List.mem_of_mem_drop (List.mem_of_mem_take hx))) h1.1 h1.2
    have hl := sl_length (p := p) h0 (show low ≤ p.length by omega) (Int.le_refl _)
    refine ⟨t, by omega, fun i a b ha hb => e2 i a b ha ?_, fun b hb => ?_⟩
    · unfold sl
      have hi : i < t.length := by
        apply Classical.byContradiction
        intro z
        rw [List.getElem?_eq_none (by omega)] at ha
        cases ha
      rw [List.getElem?_take, if_pos (by omega), List.getElem?_drop]
      exact hb
    · rcases hb with hb | hb
      · cases hb
      · rw [hb, show ((p.length : Int) - low).toNat = t.length by omega, List.take_length]
        exact e3
  | c :: L, low, h0, hp, hL, hlow, nn, hs => by
    have hp' := List.pairwise_cons.mp hp
    have hc := hL c (List.mem_cons_self ..)
    have h1 := hs (low, c, K c - K low) (by unfold strK; exact List.mem_cons_self ..)
    obtain ⟨t1, e1, e2, e3⟩ := fill (sl p low c) _ (fun x hx => nn x (List.mem_of_mem_drop (List.mem_of_mem_take hx))) h1.1 h1.2
    have hl := sl_length (p := p) h0 (show low ≤ c by omega) (by omega)
    obtain ⟨t2, f1, f2, f3⟩ := fillL L c (by omega) hp'.2 (fun d hd => ⟨hp'.1 d hd, (hL d (List.mem_cons_of_mem _ hd)).2⟩) hc.2 nn fun s h => hs s (by unfold strK; exact List.mem_cons_of_mem _ h)
    refine ⟨t1 ++ t2, by rw [List.length_append]; omega, fun i a b ha hb => ?_, fun b hb => ?_⟩
    · by_cases hi : i < t1.length
      · rw [List.getElem?_append_left hi] at ha
        refine e2 i a b ha ?_
        unfold sl
        rw [List.getElem?_take, if_pos (by omega), List.getElem?_drop]
        exact hb
      · rw [List.getElem?_append_right (by omega)] at ha
        refine f2 _ a b ha ?_
        rw [show c.toNat + (i - t1.length) = low.toNat + i by omega]
        exact hb
    · have hb' : b = c ∨ (b ∈ L ∨ b = (p.length : Int)) := by
        rcases hb with hb | hb
        · rcases List.mem_cons.mp hb with hb | hb
          · exact .inl hb
          · exact .inr (.inl hb)
        · exact .inr (.inr hb)
      rcases hb' with hb | hb
      · rw [hb, List.take_append, show (c - low).toNat = t1.length by omega, List.take_length, Nat.sub_self, List.take_zero, List.append_nil]
        exact e3
      · have hcb : c < b := by
          rcases hb with hb | hb
          · exact hp'.1 b hb
          · omega
        have h3 := f3 b hb
        rw [List.take_append, List.take_of_length_le (by omega), List.sum_append, e3, show (b - low).toNat - t1.length = (b - c).toNat by omega, h3]
        show K c - K low + _ = _
        omega
/-- some takings fit what is known -/
theorem Inv.fill (I : Inv p m K C) : ∃ t, Tk p m t ∧ ∀ c, c = 0 ∨ c ∈ C ∨ c = (p.length : Int) → pre t c = K c := by
  have e : ∀ x, x ∈ isort C ↔ x ∈ C := fun x => (isort_perm C).mem_iff
  obtain ⟨t, e1, e2, e3⟩ := fillL (p := p) (K := K) (isort C) 0 (Int.le_refl _) (sorted_lt I.nd) (fun c hc => I.inn c ((e c).mp hc)) I.n0 I.nn fun s hs => by
    have h := (mem_strK (K := K) (sorted_lt I.nd) (fun c hc => I.inn c ((e c).mp hc)) I.n0 s).mp hs
    rw [h.2]
    exact I.am _ _ ((Cons_perm e).mp h.1)
  have h3 : ∀ c, c = 0 ∨ c ∈ C ∨ c = (p.length : Int) → pre t c = K c := fun c hc => by
    rcases hc with rfl | hc
    · rw [I.k0]; rfl
    · have := e3 c (by rcases hc with hc | hc; exact .inl ((e c).mpr hc); exact .inr hc)
      rw [I.k0, Int.sub_zero, Int.sub_zero] at this
      exact this
  refine ⟨t, ⟨by omega, fun i a b ha hb => e2 i a b ha (by rw [show (0 : Int).toNat + i = i by omega]; exact hb), ?_⟩, h3⟩
  have := h3 p.length (.inr (.inr rfl))
  rw [I.kn] at this
  unfold pre at this
  rw [show ((p.length : Int)).toNat = t.length by omega, List.take_length] at this
  exact this
theorem Cons.mem0 {n a b : Int} (h : Cons n 0 C a b) : (a = 0 ∨ a ∈ C ∨ a = n) ∧ (b = 0 ∨ b ∈ C ∨ b = n) := by
  obtain ⟨h1, h2, _, _⟩ := h
  exact ⟨by rcases h1 with q | q <;> simp [q], by rcases h2 with q | q <;> simp [q]⟩
/-- THE FOE: some takings keep the play going -/
theorem foe (f : Nat) : ∀ {K : Int → Int} {C : List Int} {q : Int × Int × Int × Int}, Inv p m K C → act p m (rowsOf K C) = some q → q.1 < f → ∃ t, Tk p m t ∧ (∀ c, c = 0 ∨ c ∈ C ∨ c = (p.length : Int) → pre t c = K c) ∧ (C.length : Int) + q.1 ≤ play p m (pre t) f (rowsOf (pre t) C) := by
  induction f with
  | zero =>
    intro K C q I hq hf
    obtain ⟨q0, e1, e2, e3, e4⟩ := I.act
    rw [hq] at e1
    cases e1
    have := numN_nonneg (sl p q.2.1 q.2.2.1) q.2.2.2
    omega
  | succ f ih =>
    intro K C q I hq hf
    obtain ⟨q0, e1, e2, e3, e4⟩ := I.act
    rw [hq] at e1
    cases e1
    have rows_eq : ∀ {K' : Int → Int}, (∀ c ∈ C, K' c = K c) → rowsOf K' C = rowsOf K C := fun {K'} h => by
      unfold rowsOf
      refine List.map_congr_left fun c hc => ?_
      rw [h c hc]
    by_cases z : q.1 = 0
    · obtain ⟨t, T, ht⟩ := I.fill
      refine ⟨t, T, ht, ?_⟩
      rw [rows_eq fun c hc => ht c (.inr (.inl hc))]
      unfold play
      rw [hq]
      show _ ≤ (if q.1 = 0 then _ else _)
      rw [if_pos z, rowsOf_length]
      omega
    · obtain ⟨r, hc, hx⟩ := I.row e2
      have hn : numN (sl p q.2.1 q.2.2.1) q.2.2.2 ≠ 0 := by rw [e3]; exact z
      obtain ⟨b, b1, b2, b3, b4, b5, k, hk, b6⟩ := bestI_spec r hn
      have hbC : b.2 ∉ C := fun h => hc.2.2.2 b.2 h ⟨b2, b3⟩
      let K' : Int → Int := fun c => if c = b.2 then K q.2.1 + k else K c
      have hK' : ∀ c, c ≠ b.2 → K' c = K c := fun c h => if_neg h
      have hKb : K' b.2 = K q.2.1 + k := if_pos rfl
      have bnd : 0 < b.2 ∧ b.2 < p.length := by have := r.l0; have := r.hn; omega
      have hKC : ∀ c, c = 0 ∨ c ∈ C ∨ c = (p.length : Int) → K' c = K c := fun c h => hK' c (by
        rintro rfl
        rcases h with h | h | h
        · omega
        · exact hbC h
        · omega)
      have I1 : Inv p m K' C := ⟨I.nn, I.nd, I.inn, by rw [hKC 0 (.inl rfl)]; exact I.k0, by rw [hKC _ (.inr (.inr rfl))]; exact I.kn, I.m1, fun a d h => by
        rw [hKC a (h.mem0).1, hKC d (h.mem0).2]
        exact I.am a d h⟩
      have el := hKC q.2.1 (hc.mem0).1
      have eh := hKC q.2.2.1 (hc.mem0).2
      have hf' : FitsI p q.2.1 b.2 q.2.2.1 (K' q.2.2.1 - K' q.2.1) (K' b.2 - K' q.2.1) := by
        rw [el, eh, hKb, ← hx, show K q.2.1 + k - K q.2.1 = k by omega]
        exact hk
      have er : rowsOf K' C = rowsOf K C := rows_eq fun c hc => hKC c (.inr (.inl hc))
      have I2 := I1.step hc b2 b3 hf'
      obtain ⟨q', a1, a2, a3⟩ := I1.next hc b2 b3 (by have := r.row.lo; omega) hf' (n := q.1) (by rw [er]; exact e4)
      rw [el, eh, hKb, ← hx, show K q.2.1 + k - K q.2.1 = k by omega, b6] at a2 a3
      obtain ⟨t, T, ht, hp⟩ := ih I2 a1 (by omega)
      refine ⟨t, T, fun c h => ?_, ?_⟩
      · rw [ht c (by rcases h with h | h | h; exact .inl h; exact .inr (.inl (List.mem_append_left _ h)); exact .inr (.inr h)), hKC c h]
      · have ert : rowsOf (pre t) C = rowsOf K C := rows_eq fun c h => by rw [ht c (.inr (.inl (List.mem_append_left _ h))), hKC c (.inr (.inl h))]
        unfold play
        rw [ert, hq]
        show _ ≤ (if q.1 = 0 then _ else _)
        rw [if_neg z, b1]
        show _ ≤ play p m (pre t) f (rowsOf K C ++ [(b.2, pre t b.2)])
        rw [← ert, ← rowsOf_app]
        rw [List.length_append] at hp
        simp at hp
        omega
end
end K73

set_option maxHeartbeats 1000000
namespace K73
open PySem PySem.Spec PyProof.Rows L2 PD
/-! ## the program's meanings are the plain numbers -/
abbrev DI (p : List Int) : D := .lst (p.map D.int)
theorem rgD_rng (a b : Int) : rgD a b = (rng a b).map D.int := by unfold rgD rng; rw [List.map_map]; rfl
theorem cutD_map (f : Int → D) (p : List Int) (lo hi : Option Int) : PD.cutD (p.map f) lo hi = (PD.cutD p lo hi).map f := by
  unfold PD.cutD; rw [List.length_map, List.map_take, List.map_drop]
theorem cut_sl {p : List Int} {l h : Int} (h0 : 0 ≤ l) (h1 : l ≤ h) (h2 : h ≤ p.length) : PD.cutD p (some l) (some h) = sl p l h := by
  unfold PD.cutD sl HT.sIx
  dsimp only
  rw [if_neg (by omega), if_neg (by omega), show min l.toNat p.length = l.toNat by omega, show min h.toNat p.length = h.toNat by omega]
theorem cut_to {p : List Int} {c : Int} (h0 : 0 ≤ c) (h2 : c ≤ p.length) : PD.cutD p none (some c) = p.take c.toNat := by
  unfold PD.cutD HT.sIx
  dsimp only
  rw [if_neg (by omega), show min c.toNat p.length = c.toNat by omega, List.drop_zero, Nat.sub_zero]
theorem cut_from {p : List Int} {c : Int} (h0 : 0 ≤ c) (h2 : c ≤ p.length) : PD.cutD p (some c) none = p.drop c.toNat := by
  unfold PD.cutD HT.sIx
  dsimp only
  rw [if_neg (by omega), show min c.toNat p.length = c.toNat by omega, List.take_of_length_le (by rw [List.length_drop]; omega)]
theorem sumD_map (p : List Int) : sumD (DI p) = some (.d (.int p.sum)) := by
  unfold sumD onInts DI; dsimp only; rw [intsD_map]
theorem at_map {p : List Int} {i : Int} (h0 : 0 ≤ i) (h1 : i < p.length) : atI (p.map D.int) i = some (.int (p.getD i.toNat 0)) := by
  rw [atI_map]
  unfold atI ixN
  rw [if_pos h0, if_pos h1]
  dsimp only [Option.bind]
  rw [List.getElem?_eq_getElem (by omega)]
  dsimp only [Option.map]
  rw [List.getD_eq_getElem?_getD, List.getElem?_eq_getElem (by omega)]
  rfl
theorem rg2_ok {a b : Int} (h0 : -1000 ≤ a) (h1 : a ≤ 1000000) (h2 : -1000 ≤ b) (h3 : b ≤ 1000000) : rgOk2 a b = true := decide_eq_true (by omega)
theorem rg_ok {a b : Int} (h0 : -1000 ≤ a) (h1 : a ≤ 1000000) (h2 : -1000 ≤ b) (h3 : b ≤ 1000000) : rgOk a b = true := decide_eq_true (by omega)
theorem rng_length (a b : Int) : (rng a b).length = (b - a).toNat := by unfold rng; rw [List.length_map, List.length_range]
section
variable {p : List Int} {l c h m : Int} {sto : List O} {Q : D → Wd → Prop}
def handsI (p : List Int) (l h m : Int) : List Int := ((rng l h).filter fun i => decide ((sl p l h).sum - m < p.getD i.toNat 0)).map (· + 1)
theorem fEq_int (a b : Int) : fEq (.int a) (.int b) = some (.d (.bl (decide (a = b)))) := rfl
theorem wp_hands_named (h0 : 0 ≤ l) (h1 : l ≤ h) (h3 : h ≤ p.length) (hp : p.length ≤ 1000) (hm : m ≠ 0)
    (hq : Q (DI (handsI p l h m)) ⟨[], sto⟩) : wp (m_hands_named [DI p, .int l, .int h, .int m]) ⟨[], sto⟩ Q := by
  have e1 : fEq (D.int m) (D.int 0) = some (.d (.bl false)) := by
    show (match (if true = true then some (PyData.eqv (PyData.int m) (PyData.int 0)) else none) with | some b => some (RV.d (.bl b)) | none => none) = _
    rw [if_pos rfl]
    have : PyData.eqv (PyData.int m) (PyData.int 0) = false := by
      show decide (m = 0) = false
      exact decide_eq_false hm
    dsimp only
    rw [this]
  unfold m_hands_named
  simp only [↓wp_bnd, ↓wp_pure, ↓wp_mVar, ↓wp_oVar, ↓wp_oE, ↓wp_mFrz, ↓wp_mRV, ↓wp_m1, ↓wp_m2, ↓wp_mB, ↓wp_mChain, ↓wp_mAnd, ↓wp_mOr, ↓wp_mNot, ↓wp_mTru, ↓wp_mIf, ↓wp_mAndV, ↓wp_mOrV, ↓wp_mNotV, ↓wp_aNil, ↓wp_aCons, ↓wp_qNil, ↓wp_qCons, ↓wp_mA, ↓wp_mTup, ↓wp_mLst, ↓wp_mIsi, ↓wp_mPart, ↓wp_mSlice, ↓wp_mRg1, ↓wp_mRg2, ↓wp_mRgL, ↓wp_iRg, ↓wp_iLst, ↓wp_mApp, ↓wp_mSeq, ↓wp_mExpr, ↓wp_mRet, ↓wp_mSet, ↓wp_mAsg, ↓wp_mgName, ↓wp_mgNil, ↓wp_mgCons, ↓wp_mgTup, ↓wp_mgSub, ↓wp_mAug, ↓wp_mAugS, ↓wp_mFor, ↓wp_mLc, ↓wp_mCall, ↓wp_mFn, ↓wp_mCallL, tab1_self, ↓wp_mAlloc, ↓wp_mNew, ↓wp_mDGet, ↓wp_mDIn, ↓wp_mDPut, ↓wp_mListK, ↓wp_mPopAt, ↓wp_mScIx, ↓wp_mScLen, ↓wp_mScSlice, Op.get, rs, RV.toD, stV, setW, gets, f1, fII, fAdd, fSub, fMul, fDiv, fMod, fLt, fLe, fGt, fGe, fNeg, asB, truD, isN, fIsN, fNotN, lenD, absD, PD.intD, max2D, min2D, min3D, listD, tupleD, ixD, isiD, PD.listAt, putAtL, Option.map_some, List.getElem?_cons_zero, List.getElem?_cons_succ, List.set_cons_zero, List.set_cons_succ, List.map_cons, List.map_nil, List.replicate_succ, List.replicate_zero, List.cons_append, List.nil_append, List.append_nil, List.length_cons, List.length_nil, List.length_map, if_true, if_false, Bool.not_true, Bool.not_false, Bool.false_eq_true, decide_true, decide_false, decide_eq_true_eq, and_true, true_and, and_self, reduceIte, Nat.reduceAdd, Nat.reduceSub, Nat.reduceLeDiff, Nat.reduceLT, Nat.reduceEqDiff, Int.reduceLT, Int.reduceLE, Option.isSome_some, Option.isSome_none, Bool.not_eq_true', Bool.if_true_left, e1, cutD_map, cut_sl h0 h1 h3, sumD_map]
  refine ⟨rg2_ok (by omega) (by omega) (by omega) (by omega), ?_⟩
  refine wp_lcE (E0 := [SV.d (DI p), SV.d (D.int l), SV.d (D.int h), SV.d (D.int m), SV.d (D.int ((sl p l h).sum - m)), SV.un]) (st := sto) (fun d => match d with | .int i => decide ((sl p l h).sum - m < p.getD i.toNat 0) | _ => false) (fun d => match d with | .int i => .int (i + 1) | _ => d) rfl rfl ?_ (fun d hd => ?_) fun w2 h1 h2 => ?_
  · rw [List.length_nil, rgD_rng, List.length_map, rng_length]; omega
  · rw [rgD_rng, List.mem_map] at hd
    obtain ⟨i, hi, rfl⟩ := hd
    rw [mem_rng] at hi
    simp only [↓wp_bnd, ↓wp_pure, ↓wp_mVar, ↓wp_oVar, ↓wp_oE, ↓wp_mFrz, ↓wp_mRV, ↓wp_m1, ↓wp_m2, ↓wp_mB, ↓wp_mChain, ↓wp_mAnd, ↓wp_mOr, ↓wp_mNot, ↓wp_mTru, ↓wp_mIf, ↓wp_mAndV, ↓wp_mOrV, ↓wp_mNotV, ↓wp_aNil, ↓wp_aCons, ↓wp_qNil, ↓wp_qCons, ↓wp_mA, ↓wp_mTup, ↓wp_mLst, ↓wp_mIsi, ↓wp_mPart, ↓wp_mSlice, ↓wp_mRg1, ↓wp_mRg2, ↓wp_mRgL, ↓wp_iRg, ↓wp_iLst, ↓wp_mApp, ↓wp_mSeq, ↓wp_mExpr, ↓wp_mRet, ↓wp_mSet, ↓wp_mAsg, ↓wp_mgName, ↓wp_mgNil, ↓wp_mgCons, ↓wp_mgTup, ↓wp_mgSub, ↓wp_mAug, ↓wp_mAugS, ↓wp_mFor, ↓wp_mLc, ↓wp_mCall, ↓wp_mFn, ↓wp_mCallL, tab1_self, ↓wp_mAlloc, ↓wp_mNew, ↓wp_mDGet, ↓wp_mDIn, ↓wp_mDPut, ↓wp_mListK, ↓wp_mPopAt, ↓wp_mScIx, ↓wp_mScLen, ↓wp_mScSlice, Op.get, rs, RV.toD, stV, setW, gets, f1, fII, fAdd, fSub, fMul, fDiv, fMod, fLt, fLe, fGt, fGe, fNeg, asB, truD, isN, fIsN, fNotN, lenD, absD, PD.intD, max2D, min2D, min3D, listD, tupleD, ixD, isiD, PD.listAt, putAtL, Option.map_some, List.getElem?_cons_zero, List.getElem?_cons_succ, List.set_cons_zero, List.set_cons_succ, List.map_cons, List.map_nil, List.replicate_succ, List.replicate_zero, List.cons_append, List.nil_append, List.append_nil, List.length_cons, List.length_nil, List.length_map, if_true, if_false, Bool.not_true, Bool.not_false, Bool.false_eq_true, decide_true, decide_false, decide_eq_true_eq, and_true, true_and, and_self, reduceIte, Nat.reduceAdd, Nat.reduceSub, Nat.reduceLeDiff, Nat.reduceLT, Nat.reduceEqDiff, Int.reduceLT, Int.reduceLE, Option.isSome_some, Option.isSome_none, Bool.not_eq_true', Bool.if_true_left, at_map (p := p) (i := i) (by omega) (by omega)]
    by_cases hs : (sl p l h).sum - m < p.getD i.toNat 0
    · simp only [hs, decide_true, if_true, true_and]
      simp only [↓wp_bnd, ↓wp_pure, ↓wp_mVar, ↓wp_oVar, ↓wp_oE, ↓wp_mFrz, ↓wp_mRV, ↓wp_m1, ↓wp_m2, ↓wp_mB, ↓wp_mChain, ↓wp_mAnd, ↓wp_mOr, ↓wp_mNot, ↓wp_mTru, ↓wp_mIf, ↓wp_mAndV, ↓wp_mOrV, ↓wp_mNotV, ↓wp_aNil, ↓wp_aCons, ↓wp_qNil, ↓wp_qCons, ↓wp_mA, ↓wp_mTup, ↓wp_mLst, ↓wp_mIsi, ↓wp_mPart, ↓wp_mSlice, ↓wp_mRg1, ↓wp_mRg2, ↓wp_mRgL, ↓wp_iRg, ↓wp_iLst, ↓wp_mApp, ↓wp_mSeq, ↓wp_mExpr, ↓wp_mRet, ↓wp_mSet, ↓wp_mAsg, ↓wp_mgName, ↓wp_mgNil, ↓wp_mgCons, ↓wp_mgTup, ↓wp_mgSub, ↓wp_mAug, ↓wp_mAugS, ↓wp_mFor, ↓wp_mLc, ↓wp_mCall, ↓wp_mFn, ↓wp_mCallL, tab1_self, ↓wp_mAlloc, ↓wp_mNew, ↓wp_mDGet, ↓wp_mDIn, ↓wp_mDPut, ↓wp_mListK, ↓wp_mPopAt, ↓wp_mScIx, ↓wp_mScLen, ↓wp_mScSlice, Op.get, rs, RV.toD, stV, setW, gets, f1, fII, fAdd, fSub, fMul, fDiv, fMod, fLt, fLe, fGt, fGe, fNeg, asB, truD, isN, fIsN, fNotN, lenD, absD, PD.intD, max2D, min2D, min3D, listD, tupleD, ixD, isiD, PD.listAt, putAtL, Option.map_some, List.getElem?_cons_zero, List.getElem?_cons_succ, List.set_cons_zero, List.set_cons_succ, List.map_cons, List.map_nil, List.replicate_succ, List.replicate_zero, List.cons_append, List.nil_append, List.append_nil, List.length_cons, List.length_nil, List.length_map, if_true, if_false, Bool.not_true, Bool.not_false, Bool.false_eq_true, decide_true, decide_false, decide_eq_true_eq, and_true, true_and, and_self, reduceIte, Nat.reduceAdd, Nat.reduceSub, Nat.reduceLeDiff, Nat.reduceLT, Nat.reduceEqDiff, Int.reduceLT, Int.reduceLE, Option.isSome_some, Option.isSome_none, Bool.not_eq_true', Bool.if_true_left, wipeE]
    · simp only [hs, decide_false, if_false, true_and, wipeE, List.set_cons_succ, List.set_cons_zero, Bool.false_eq_true, and_self]
  · have : (List.filter (fun d => match d with | .int i => decide ((sl p l h).sum - m < p.getD i.toNat 0) | _ => false) (rgD l h)).map (fun d => match d with | .int i => D.int (i + 1) | _ => d) = (handsI p l h m).map D.int := by
      rw [rgD_rng, List.filter_map, List.map_map, handsI, List.map_map]
      rfl
    rw [List.nil_append, this]
    rw [h2]
    exact hq
theorem wp_amounts_before (h0 : 0 ≤ l) (h1 : l ≤ c) (h2 : c ≤ h) (h3 : h ≤ p.length)
    (hq : Q (.tup [.int (imax 0 (m - (sl p c h).sum)), .int (imin m (sl p l c).sum)]) ⟨[], sto⟩) : wp (m_amounts_before [DI p, .int l, .int c, .int h, .int m]) ⟨[], sto⟩ Q := by
  unfold m_amounts_before
  simp only [↓wp_bnd, ↓wp_pure, ↓wp_mVar, ↓wp_oVar, ↓wp_oE, ↓wp_mFrz, ↓wp_mRV, ↓wp_m1, ↓wp_m2, ↓wp_mB, ↓wp_mChain, ↓wp_mAnd, ↓wp_mOr, ↓wp_mNot, ↓wp_mTru, ↓wp_mIf, ↓wp_mAndV, ↓wp_mOrV, ↓wp_mNotV, ↓wp_aNil, ↓wp_aCons, ↓wp_qNil, ↓wp_qCons, ↓wp_mA, ↓wp_mTup, ↓wp_mLst, ↓wp_mIsi, ↓wp_mPart, ↓wp_mSlice, ↓wp_mRg1, ↓wp_mRg2, ↓wp_mRgL, ↓wp_iRg, ↓wp_iLst, ↓wp_mApp, ↓wp_mSeq, ↓wp_mExpr, ↓wp_mRet, ↓wp_mSet, ↓wp_mAsg, ↓wp_mgName, ↓wp_mgNil, ↓wp_mgCons, ↓wp_mgTup, ↓wp_mgSub, ↓wp_mAug, ↓wp_mAugS, ↓wp_mFor, ↓wp_mLc, ↓wp_mCall, ↓wp_mFn, ↓wp_mCallL, tab1_self, ↓wp_mAlloc, ↓wp_mNew, ↓wp_mDGet, ↓wp_mDIn, ↓wp_mDPut, ↓wp_mListK, ↓wp_mPopAt, ↓wp_mScIx, ↓wp_mScLen, ↓wp_mScSlice, Op.get, rs, RV.toD, stV, setW, gets, f1, fII, fAdd, fSub, fMul, fDiv, fMod, fLt, fLe, fGt, fGe, fNeg, asB, truD, isN, fIsN, fNotN, lenD, absD, PD.intD, max2D, min2D, min3D, listD, tupleD, ixD, isiD, PD.listAt, putAtL, Option.map_some, List.getElem?_cons_zero, List.getElem?_cons_succ, List.set_cons_zero, List.set_cons_succ, List.map_cons, List.map_nil, List.replicate_succ, List.replicate_zero, List.cons_append, List.nil_append, List.append_nil, List.length_cons, List.length_nil, List.length_map, if_true, if_false, Bool.not_true, Bool.not_false, Bool.false_eq_true, decide_true, decide_false, decide_eq_true_eq, and_true, true_and, and_self, reduceIte, Nat.reduceAdd, Nat.reduceSub, Nat.reduceLeDiff, Nat.reduceLT, Nat.reduceEqDiff, Int.reduceLT, Int.reduceLE, Option.isSome_some, Option.isSome_none, Bool.not_eq_true', Bool.if_true_left, cutD_map, cut_sl (show 0 ≤ c by omega) h2 h3, cut_sl h0 h1 (show c ≤ p.length by omega), sumD_map]
  exact hq
/-! memo tables -/
structure Tab {κ : Type} [DecidableEq κ] (L : List κ) (val : κ → Int) (kvs : List (κ × D)) : Prop where
  nd : (kvs.map (·.1)).Nodup
  mem : ∀ x ∈ kvs, x.1 ∈ L ∧ x.2 = .int (val x.1)
section
variable {κ : Type} [DecidableEq κ] {L : List κ} {vl : κ → Int} {kvs : List (κ × D)} {k : κ} {d : D}
theorem Tab.nil : Tab L vl ([] : List (κ × D)) := ⟨List.nodup_nil, fun x h => by cases h⟩
theorem valD_mem : ∀ {kvs : List (κ × D)}, valD kvs k = some d → (k, d) ∈ kvs
  | [], h => by cases h
  | x :: kvs, h => by
    unfold valD at h
    by_cases e : x.1 = k
    · rw [if_pos e] at h
      cases h
      rw [← e]
      exact List.mem_cons_self ..
    · rw [if_neg e] at h
      exact List.mem_cons_of_mem _ (valD_mem h)
theorem Tab.val (T : Tab L vl kvs) (k : κ) : valD kvs k = none ∨ valD kvs k = some (.int (vl k)) := by
  cases h : valD kvs k with
  | none => exact .inl rfl
  | some d => exact .inr (congrArg some (T.mem _ (valD_mem h)).2)
theorem repD_fst : ∀ (kvs : List (κ × D)), (repD kvs k d).map (·.1) = kvs.map (·.1)
  | [] => rfl
  | x :: kvs => by
    unfold repD
    rw [List.map_cons, List.map_cons, repD_fst kvs]
    congr 1
    split <;> rfl
theorem valD_none : ∀ {kvs : List (κ × D)}, valD kvs k = none → k ∉ kvs.map (·.1)
  | [], _ => by simp
  | x :: kvs, h => by
    unfold valD at h
    by_cases e : x.1 = k
    · rw [if_pos e] at h; cases h
    · rw [if_neg e] at h
      rw [List.map_cons, List.mem_cons]
      rintro (q | q)
      · exact e q.symm
      · exact valD_none h q
theorem mem_repD : ∀ {kvs : List (κ × D)} {x : κ × D}, x ∈ repD kvs k d → x = (k, d) ∨ x ∈ kvs
  | [], x, h => by cases h
  | y :: kvs, x, h => by
    unfold repD at h
    rcases List.mem_cons.mp h with h | h
    · split at h
      · rename_i e
        rw [e] at h
        exact .inl h
      · exact .inr (h ▸ List.mem_cons_self ..)
    · rcases mem_repD h with q | q
      · exact .inl q
      · exact .inr (List.mem_cons_of_mem _ q)
theorem Tab.put (T : Tab L vl kvs) (hk : k ∈ L) : Tab L vl (putDk kvs k (.int (vl k))) := by
  unfold putDk
  split
  · refine ⟨by rw [repD_fst]; exact T.nd, fun x hx => ?_⟩
    rcases mem_repD hx with rfl | h
    · exact ⟨hk, rfl⟩
    · exact T.mem x h
  · rename_i h
    refine ⟨?_, fun x hx => ?_⟩
    · rw [List.map_append, List.nodup_append]
      refine ⟨T.nd, by simp, fun a ha b hb e => ?_⟩
      have hb' : b = k := by simpa using hb
      rw [e, hb'] at ha
      exact valD_none h ha
    · rcases List.mem_append.mp hx with h | h
      · exact T.mem x h
      · rw [List.mem_singleton.mp h]
        exact ⟨hk, rfl⟩
theorem valD_rep : ∀ {kvs : List (κ × D)} {e : D}, valD kvs k = some e → valD (repD kvs k d) k = some d
  | [], _, h => by cases h
  | x :: kvs, e, h => by
    unfold valD at h
    unfold repD valD
    by_cases q : x.1 = k
    · rw [if_pos q, if_pos (show (x.1, d).1 = k from q)]
    · rw [if_neg q] at h
      rw [if_neg q, if_neg q]
      exact valD_rep h
theorem valD_app : ∀ {kvs : List (κ × D)}, valD kvs k = none → valD (kvs ++ [(k, d)]) k = some d
  | [], _ => by show (if k = k then some d else _) = _; rw [if_pos rfl]
  | x :: kvs, h => by
    unfold valD at h
    show (if x.1 = k then some x.2 else valD (kvs ++ [(k, d)]) k) = _
    by_cases q : x.1 = k
    · rw [if_pos q] at h; cases h
    · rw [if_neg q] at h ⊢
      exact valD_app h
theorem valD_put : valD (putDk kvs k d) k = some d := by
  unfold putDk
  split
  · rename_i e h
    exact valD_rep h
  · rename_i h
    exact valD_app h
theorem nodup_le : ∀ {a b : List κ}, a.Nodup → (∀ x ∈ a, x ∈ b) → a.length ≤ b.length
  | [], _, _, _ => Nat.zero_le _
  | x :: a, b, h, hs => by
    obtain ⟨h1, h2⟩ := List.nodup_cons.mp h
    have hx := hs x (List.mem_cons_self ..)
    have := nodup_le (a := a) (b := b.erase x) h2 fun y hy => (List.mem_erase_of_ne (fun e : y = x => h1 (by rw [← e]; exact hy))).mpr (hs y (List.mem_cons_of_mem _ hy))
    rw [List.length_erase_of_mem hx] at this
    have := List.length_pos_of_mem hx
    rw [List.length_cons]
    omega
theorem Tab.len (T : Tab L vl kvs) : kvs.length ≤ L.length := by
  have := nodup_le T.nd fun x hx => by
    obtain ⟨y, hy, rfl⟩ := List.mem_map.mp hx
    exact (T.mem y hy).1
  rwa [List.length_map] at this
end
def valT (p : List Int) : List Key → Int
  | [.inl l, .inl h, .inl m] => numN (sl p l h) m
  | _ => 0
def keysT (p : List Int) : List (List Key) := (rng 0 (p.length + 1)).flatMap fun l => (rng 0 (p.length + 1)).flatMap fun h => (rng 0 (p.sum + 1)).map fun m => [.inl l, .inl h, .inl m]
theorem mem_keysT {p : List Int} {l h m : Int} (r : RowI p l h m) (hm : m ≤ p.sum) : ([.inl l, .inl h, .inl m] : List Key) ∈ keysT p := by
  have h1 := r.l0
  have h2 := r.lh
  have h3 := r.hn
  have h4 := r.row.lo
  unfold keysT
  rw [List.mem_flatMap]
  refine ⟨l, mem_rng.mpr (by omega), ?_⟩
  rw [List.mem_flatMap]
  refine ⟨h, mem_rng.mpr (by omega), ?_⟩
  rw [List.mem_map]
  exact ⟨m, mem_rng.mpr (by omega), rfl⟩
theorem flat_len {α β : Type} (g : α → List β) (n : Nat) : ∀ (xs : List α), (∀ x, (g x).length = n) → (xs.flatMap g).length = xs.length * n
  | [], _ => by simp
  | x :: xs, h => by
    rw [List.flatMap_cons, List.length_append, h, flat_len g n xs h, List.length_cons, Nat.succ_mul]
    omega
/-- a row that is small enough for the model's bounds -/
structure Sm (p : List Int) : Prop where
  nn : ∀ x ∈ p, 0 ≤ x
  len : p.length ≤ 10
  sum : p.sum ≤ 60
theorem keysT_len {p : List Int} (s : Sm p) : (keysT p).length < 16777216 := by
  unfold keysT
  rw [flat_len _ ((p.length + 1) * (p.sum + 1).toNat), rng_length]
  · have h1 := s.len
    have h2 := s.sum
    have e1 : ((p.length : Int) + 1 - 0).toNat = p.length + 1 := by omega
    rw [e1]
    have h3 : (p.sum + 1).toNat ≤ 61 := by omega
    have h4 : (p.length + 1) * (p.sum + 1).toNat ≤ 11 * 61 := Nat.mul_le_mul (by omega) h3
    have h5 : (p.length + 1) * ((p.length + 1) * (p.sum + 1).toNat) ≤ 11 * (11 * 61) := Nat.mul_le_mul (by omega) h4
    omega
  · intro l
    rw [flat_len _ (p.sum + 1).toNat, rng_length]
    · congr 1
    · intro h; rw [List.length_map, rng_length]; congr 1; omega
abbrev TabT (p : List Int) (kvs : List (List Key × D)) : Prop := Tab (keysT p) (valT p) kvs
theorem set_get {α : Type} {xs : List α} {k : Nat} {a b : α} (h : xs[k]? = some a) : (xs.set k b)[k]? = some b := by
  have : k < xs.length := by
    apply Classical.byContradiction
    intro z
    rw [List.getElem?_eq_none (by omega)] at h
    cases h
  rw [List.getElem?_set_self this]
theorem set_same {α : Type} {xs : List α} {k : Nat} {a : α} (h : xs[k]? = some a) : xs.set k a = xs := by
  apply List.ext_getElem?
  intro i
  rw [List.getElem?_set]
  split
  · rename_i e
    rw [← e, h]
    split
    · rfl
    · rename_i z
      rw [List.getElem?_eq_none (by omega)] at h
      cases h
  · rfl
theorem at20 {α : Type} (a b : α) : atI [a, b] 0 = some a := rfl
theorem at21 {α : Type} (a b : α) : atI [a, b] 1 = some b := rfl
theorem at30 {α : Type} (a b c : α) : atI [a, b, c] 0 = some a := rfl
theorem at31 {α : Type} (a b c : α) : atI [a, b, c] 1 = some b := rfl
theorem at32 {α : Type} (a b c : α) : atI [a, b, c] 2 = some c := rfl
def OnOk (p : List Int) (n : Nat) (on : Fn) : Prop := ∀ (l h m : Int) (sto : List O) (k : Nat) (kvs : List (List Key × D)) (Q : D → Wd → Prop), RowI p l h m → h - l ≤ n → sto[k]? = some (.dt kvs) → TabT p kvs →
  (∀ kvs', TabT p kvs' → Q (.int (numN (sl p l h) m)) ⟨[], sto.set k (.dt kvs')⟩) → wp (on [DI p, .int l, .int h, .int m, .o k]) ⟨[], sto⟩ Q
theorem minD1 (a : Int) : minD (.lst [.int a]) = some (.d (.int a)) := rfl
theorem minD2 (a b : Int) : minD (.lst [.int a, .int b]) = some (.d (.int (imin a b))) := rfl
theorem RowI.parts {p : List Int} {l c h m k : Int} (r : RowI p l h m) (h1 : l < c) (h2 : c < h) (f : FitsI p l c h m k) : (0 < k → RowI p l c k) ∧ (k < m → RowI p c h (m - k)) := by
  have t : (sl p l h).take (c - l).toNat = sl p l c := sl_take r.l0 (by omega) (by omega)
  have d : (sl p l h).drop (c - l).toNat = sl p c h := sl_drop r.l0 (by omega) (by omega)
  have := r.row.parts (c := (c - l).toNat) (k := k) (by rw [t, d]; exact f)
  rw [t, d] at this
  have a1 := r.l0
  have a2 := r.hn
  exact ⟨fun z => ⟨a1, by omega, by omega, this.1 z⟩, fun z => ⟨by omega, by omega, a2, this.2 z⟩⟩
variable {on : Fn} {n : Nat} {j : Nat} {kvs : List (List Key × D)} {k : Int}
theorem wp_side (ho : OnOk p n on) (r : RowI p l h m) (h1 : l < c) (h2 : c < h) (hn : h - l ≤ n + 1) (f : FitsI p l c h m k) (hj : sto[j]? = some (.dt kvs)) (T : TabT p kvs)
    (hq : ∀ kvs', TabT p kvs' → Q (.int (sideV numN (sl p l c) (sl p c h) m k)) ⟨[], sto.set j (.dt kvs')⟩) : wp (m_side_number on [DI p, .int l, .int c, .int h, .int m, .int k, .o j]) ⟨[], sto⟩ Q := by
  obtain ⟨r1, r2⟩ := r.parts h1 h2 f
  unfold m_side_number
  by_cases k0 : 0 < k
  · by_cases km : k < m
    · simp only [↓wp_bnd, ↓wp_pure, ↓wp_mVar, ↓wp_oVar, ↓wp_oE, ↓wp_mFrz, ↓wp_mRV, ↓wp_m1, ↓wp_m2, ↓wp_mB, ↓wp_mChain, ↓wp_mAnd, ↓wp_mOr, ↓wp_mNot, ↓wp_mTru, ↓wp_mIf, ↓wp_mAndV, ↓wp_mOrV, ↓wp_mNotV, ↓wp_aNil, ↓wp_aCons, ↓wp_qNil, ↓wp_qCons, ↓wp_mA, ↓wp_mTup, ↓wp_mLst, ↓wp_mIsi, ↓wp_mPart, ↓wp_mSlice, ↓wp_mRg1, ↓wp_mRg2, ↓wp_mRgL, ↓wp_iRg, ↓wp_iLst, ↓wp_mApp, ↓wp_mSeq, ↓wp_mExpr, ↓wp_mRet, ↓wp_mSet, ↓wp_mAsg, ↓wp_mgName, ↓wp_mgNil, ↓wp_mgCons, ↓wp_mgTup, ↓wp_mgSub, ↓wp_mAug, ↓wp_mAugS, ↓wp_mFor, ↓wp_mLc, ↓wp_mCall, ↓wp_mFn, ↓wp_mCallL, tab1_self, ↓wp_mAlloc, ↓wp_mNew, ↓wp_mDGet, ↓wp_mDIn, ↓wp_mDPut, ↓wp_mListK, ↓wp_mPopAt, ↓wp_mScIx, ↓wp_mScLen, ↓wp_mScSlice, Op.get, rs, RV.toD, stV, setW, gets, f1, fII, fAdd, fSub, fMul, fDiv, fMod, fLt, fLe, fGt, fGe, fNeg, asB, truD, isN, fIsN, fNotN, lenD, absD, PD.intD, max2D, min2D, min3D, listD, tupleD, ixD, isiD, PD.listAt, putAtL, Option.map_some, List.getElem?_cons_zero, List.getElem?_cons_succ, List.set_cons_zero, List.set_cons_succ, List.map_cons, List.map_nil, List.replicate_succ, List.replicate_zero, List.cons_append, List.nil_append, List.append_nil, List.length_cons, List.length_nil, List.length_map, if_true, if_false, Bool.not_true, Bool.not_false, Bool.false_eq_true, decide_true, decide_false, decide_eq_true_eq, and_true, true_and, and_self, reduceIte, Nat.reduceAdd, Nat.reduceSub, Nat.reduceLeDiff, Nat.reduceLT, Nat.reduceEqDiff, Int.reduceLT, Int.reduceLE, Option.isSome_some, Option.isSome_none, Bool.not_eq_true', Bool.if_true_left, k0, km]
      refine ho l c k _ j kvs _ (r1 k0) (by omega) hj T fun kvs1 T1 => ?_
      refine ho c h (m - k) _ j kvs1 _ (r2 km) (by omega) (set_get hj) T1 fun kvs2 T2 => ?_
      simp only [↓wp_bnd, ↓wp_pure, ↓wp_mVar, ↓wp_oVar, ↓wp_oE, ↓wp_mFrz, ↓wp_mRV, ↓wp_m1, ↓wp_m2, ↓wp_mB, ↓wp_mChain, ↓wp_mAnd, ↓wp_mOr, ↓wp_mNot, ↓wp_mTru, ↓wp_mIf, ↓wp_mAndV, ↓wp_mOrV, ↓wp_mNotV, ↓wp_aNil, ↓wp_aCons, ↓wp_qNil, ↓wp_qCons, ↓wp_mA, ↓wp_mTup, ↓wp_mLst, ↓wp_mIsi, ↓wp_mPart, ↓wp_mSlice, ↓wp_mRg1, ↓wp_mRg2, ↓wp_mRgL, ↓wp_iRg, ↓wp_iLst, ↓wp_mApp, ↓wp_mSeq, ↓wp_mExpr, ↓wp_mRet, ↓wp_mSet, ↓wp_mAsg, ↓wp_mgName, ↓wp_mgNil, ↓wp_mgCons, ↓wp_mgTup, ↓wp_mgSub, ↓wp_mAug, ↓wp_mAugS, ↓wp_mFor, ↓wp_mLc, ↓wp_mCall, ↓wp_mFn, ↓wp_mCallL, tab1_self, ↓wp_mAlloc, ↓wp_mNew, ↓wp_mDGet, ↓wp_mDIn, ↓wp_mDPut, ↓wp_mListK, ↓wp_mPopAt, ↓wp_mScIx, ↓wp_mScLen, ↓wp_mScSlice, Op.get, rs, RV.toD, stV, setW, gets, f1, fII, fAdd, fSub, fMul, fDiv, fMod, fLt, fLe, fGt, fGe, fNeg, asB, truD, isN, fIsN, fNotN, lenD, absD, PD.intD, max2D, min2D, min3D, listD, tupleD, ixD, isiD, PD.listAt, putAtL, Option.map_some, List.getElem?_cons_zero, List.getElem?_cons_succ, List.set_cons_zero, List.set_cons_succ, List.map_cons, List.map_nil, List.replicate_succ, List.replicate_zero, List.cons_append, List.nil_append, List.append_nil, List.length_cons, List.length_nil, List.length_map, if_true, if_false, Bool.not_true, Bool.not_false, Bool.false_eq_true, decide_true, decide_false, decide_eq_true_eq, and_true, true_and, and_self, reduceIte, Nat.reduceAdd, Nat.reduceSub, Nat.reduceLeDiff, Nat.reduceLT, Nat.reduceEqDiff, Int.reduceLT, Int.reduceLE, Option.isSome_some, Option.isSome_none, Bool.not_eq_true', Bool.if_true_left, minD2]
      rw [List.set_set]
      have := hq kvs2 T2
      unfold sideV at this
      rw [if_pos k0, if_pos km] at this
      exact this
    · simp only [↓wp_bnd, ↓wp_pure, ↓wp_mVar, ↓wp_oVar, ↓wp_oE, ↓wp_mFrz, ↓wp_mRV, ↓wp_m1, ↓wp_m2, ↓wp_mB, ↓wp_mChain, ↓wp_mAnd, ↓wp_mOr, ↓wp_mNot, ↓wp_mTru, ↓wp_mIf, ↓wp_mAndV, ↓wp_mOrV, ↓wp_mNotV, ↓wp_aNil, ↓wp_aCons, ↓wp_qNil, ↓wp_qCons, ↓wp_mA, ↓wp_mTup, ↓wp_mLst, ↓wp_mIsi, ↓wp_mPart, ↓wp_mSlice, ↓wp_mRg1, ↓wp_mRg2, ↓wp_mRgL, ↓wp_iRg, ↓wp_iLst, ↓wp_mApp, ↓wp_mSeq, ↓wp_mExpr, ↓wp_mRet, ↓wp_mSet, ↓wp_mAsg, ↓wp_mgName, ↓wp_mgNil, ↓wp_mgCons, ↓wp_mgTup, ↓wp_mgSub, ↓wp_mAug, ↓wp_mAugS, ↓wp_mFor, ↓wp_mLc, ↓wp_mCall, ↓wp_mFn, ↓wp_mCallL, tab1_self, ↓wp_mAlloc, ↓wp_mNew, ↓wp_mDGet, ↓wp_mDIn, ↓wp_mDPut, ↓wp_mListK, ↓wp_mPopAt, ↓wp_mScIx, ↓wp_mScLen, ↓wp_mScSlice, Op.get, rs, RV.toD, stV, setW, gets, f1, fII, fAdd, fSub, fMul, fDiv, fMod, fLt, fLe, fGt, fGe, fNeg, asB, truD, isN, fIsN, fNotN, lenD, absD, PD.intD, max2D, min2D, min3D, listD, tupleD, ixD, isiD, PD.listAt, putAtL, Option.map_some, List.getElem?_cons_zero, List.getElem?_cons_succ, List.set_cons_zero, List.set_cons_succ, List.map_cons, List.map_nil, List.replicate_succ, List.replicate_zero, List.cons_append, List.nil_append, List.append_nil, List.length_cons, List.length_nil, List.length_map, if_true, if_false, Bool.not_true, Bool.not_false, Bool.false_eq_true, decide_true, decide_false, decide_eq_true_eq, and_true, true_and, and_self, reduceIte, Nat.reduceAdd, Nat.reduceSub, Nat.reduceLeDiff, Nat.reduceLT, Nat.reduceEqDiff, Int.reduceLT, Int.reduceLE, Option.isSome_some, Option.isSome_none, Bool.not_eq_true', Bool.if_true_left, k0, km]
      refine ho l c k _ j kvs _ (r1 k0) (by omega) hj T fun kvs1 T1 => ?_
      simp only [↓wp_bnd, ↓wp_pure, ↓wp_mVar, ↓wp_oVar, ↓wp_oE, ↓wp_mFrz, ↓wp_mRV, ↓wp_m1, ↓wp_m2, ↓wp_mB, ↓wp_mChain, ↓wp_mAnd, ↓wp_mOr, ↓wp_mNot, ↓wp_mTru, ↓wp_mIf, ↓wp_mAndV, ↓wp_mOrV, ↓wp_mNotV, ↓wp_aNil, ↓wp_aCons, ↓wp_qNil, ↓wp_qCons, ↓wp_mA, ↓wp_mTup, ↓wp_mLst, ↓wp_mIsi, ↓wp_mPart, ↓wp_mSlice, ↓wp_mRg1, ↓wp_mRg2, ↓wp_mRgL, ↓wp_iRg, ↓wp_iLst, ↓wp_mApp, ↓wp_mSeq, ↓wp_mExpr, ↓wp_mRet, ↓wp_mSet, ↓wp_mAsg, ↓wp_mgName, ↓wp_mgNil, ↓wp_mgCons, ↓wp_mgTup, ↓wp_mgSub, ↓wp_mAug, ↓wp_mAugS, ↓wp_mFor, ↓wp_mLc, ↓wp_mCall, ↓wp_mFn, ↓wp_mCallL, tab1_self, ↓wp_mAlloc, ↓wp_mNew, ↓wp_mDGet, ↓wp_mDIn, ↓wp_mDPut, ↓wp_mListK, ↓wp_mPopAt, ↓wp_mScIx, ↓wp_mScLen, ↓wp_mScSlice, Op.get, rs, RV.toD, stV, setW, gets, f1, fII, fAdd, fSub, fMul, fDiv, fMod, fLt, fLe, fGt, fGe, fNeg, asB, truD, isN, fIsN, fNotN, lenD, absD, PD.intD, max2D, min2D, min3D, listD, tupleD, ixD, isiD, PD.listAt, putAtL, Option.map_some, List.getElem?_cons_zero, List.getElem?_cons_succ, List.set_cons_zero, List.set_cons_succ, List.map_cons, List.map_nil, List.replicate_succ, List.replicate_zero, List.cons_append, List.nil_append, List.append_nil, List.length_cons, List.length_nil, List.length_map, if_true, if_false, Bool.not_true, Bool.not_false, Bool.false_eq_true, decide_true, decide_false, decide_eq_true_eq, and_true, true_and, and_self, reduceIte, Nat.reduceAdd, Nat.reduceSub, Nat.reduceLeDiff, Nat.reduceLT, Nat.reduceEqDiff, Int.reduceLT, Int.reduceLE, Option.isSome_some, Option.isSome_none, Bool.not_eq_true', Bool.if_true_left, minD1]
      have := hq kvs1 T1
      unfold sideV at this
      rw [if_pos k0, if_neg km] at this
      exact this
  · have km : k < m := by have := r.row.lo; omega
    simp only [↓wp_bnd, ↓wp_pure, ↓wp_mVar, ↓wp_oVar, ↓wp_oE, ↓wp_mFrz, ↓wp_mRV, ↓wp_m1, ↓wp_m2, ↓wp_mB, ↓wp_mChain, ↓wp_mAnd, ↓wp_mOr, ↓wp_mNot, ↓wp_mTru, ↓wp_mIf, ↓wp_mAndV, ↓wp_mOrV, ↓wp_mNotV, ↓wp_aNil, ↓wp_aCons, ↓wp_qNil, ↓wp_qCons, ↓wp_mA, ↓wp_mTup, ↓wp_mLst, ↓wp_mIsi, ↓wp_mPart, ↓wp_mSlice, ↓wp_mRg1, ↓wp_mRg2, ↓wp_mRgL, ↓wp_iRg, ↓wp_iLst, ↓wp_mApp, ↓wp_mSeq, ↓wp_mExpr, ↓wp_mRet, ↓wp_mSet, ↓wp_mAsg, ↓wp_mgName, ↓wp_mgNil, ↓wp_mgCons, ↓wp_mgTup, ↓wp_mgSub, ↓wp_mAug, ↓wp_mAugS, ↓wp_mFor, ↓wp_mLc, ↓wp_mCall, ↓wp_mFn, ↓wp_mCallL, tab1_self, ↓wp_mAlloc, ↓wp_mNew, ↓wp_mDGet, ↓wp_mDIn, ↓wp_mDPut, ↓wp_mListK, ↓wp_mPopAt, ↓wp_mScIx, ↓wp_mScLen, ↓wp_mScSlice, Op.get, rs, RV.toD, stV, setW, gets, f1, fII, fAdd, fSub, fMul, fDiv, fMod, fLt, fLe, fGt, fGe, fNeg, asB, truD, isN, fIsN, fNotN, lenD, absD, PD.intD, max2D, min2D, min3D, listD, tupleD, ixD, isiD, PD.listAt, putAtL, Option.map_some, List.getElem?_cons_zero, List.getElem?_cons_succ, List.set_cons_zero, List.set_cons_succ, List.map_cons, List.map_nil, List.replicate_succ, List.replicate_zero, List.cons_append, List.nil_append, List.append_nil, List.length_cons, List.length_nil, List.length_map, if_true, if_false, Bool.not_true, Bool.not_false, Bool.false_eq_true, decide_true, decide_false, decide_eq_true_eq, and_true, true_and, and_self, reduceIte, Nat.reduceAdd, Nat.reduceSub, Nat.reduceLeDiff, Nat.reduceLT, Nat.reduceEqDiff, Int.reduceLT, Int.reduceLE, Option.isSome_some, Option.isSome_none, Bool.not_eq_true', Bool.if_true_left, k0, km]
    refine ho c h (m - k) _ j kvs _ (r2 km) (by omega) hj T fun kvs2 T2 => ?_
    simp only [↓wp_bnd, ↓wp_pure, ↓wp_mVar, ↓wp_oVar, ↓wp_oE, ↓wp_mFrz, ↓wp_mRV, ↓wp_m1, ↓wp_m2, ↓wp_mB, ↓wp_mChain, ↓wp_mAnd, ↓wp_mOr, ↓wp_mNot, ↓wp_mTru, ↓wp_mIf, ↓wp_mAndV, ↓wp_mOrV, ↓wp_mNotV, ↓wp_aNil, ↓wp_aCons, ↓wp_qNil, ↓wp_qCons, ↓wp_mA, ↓wp_mTup, ↓wp_mLst, ↓wp_mIsi, ↓wp_mPart, ↓wp_mSlice, ↓wp_mRg1, ↓wp_mRg2, ↓wp_mRgL, ↓wp_iRg, ↓wp_iLst, ↓wp_mApp, ↓wp_mSeq, ↓wp_mExpr, ↓wp_mRet, ↓wp_mSet, ↓wp_mAsg, ↓wp_mgName, ↓wp_mgNil, ↓wp_mgCons, ↓wp_mgTup, ↓wp_mgSub, ↓wp_mAug, ↓wp_mAugS, ↓wp_mFor, ↓wp_mLc, ↓wp_mCall, ↓wp_mFn, ↓wp_mCallL, tab1_self, ↓wp_mAlloc, ↓wp_mNew, ↓wp_mDGet, ↓wp_mDIn, ↓wp_mDPut, ↓wp_mListK, ↓wp_mPopAt, ↓wp_mScIx, ↓wp_mScLen, ↓wp_mScSlice, Op.get, rs, RV.toD, stV, setW, gets, f1, fII, fAdd, fSub, fMul, fDiv, fMod, fLt, fLe, fGt, fGe, fNeg, asB, truD, isN, fIsN, fNotN, lenD, absD, PD.intD, max2D, min2D, min3D, listD, tupleD, ixD, isiD, PD.listAt, putAtL, Option.map_some, List.getElem?_cons_zero, List.getElem?_cons_succ, List.set_cons_zero, List.set_cons_succ, List.map_cons, List.map_nil, List.replicate_succ, List.replicate_zero, List.cons_append, List.nil_append, List.append_nil, List.length_cons, List.length_nil, List.length_map, if_true, if_false, Bool.not_true, Bool.not_false, Bool.false_eq_true, decide_true, decide_false, decide_eq_true_eq, and_true, true_and, and_self, reduceIte, Nat.reduceAdd, Nat.reduceSub, Nat.reduceLeDiff, Nat.reduceLT, Nat.reduceEqDiff, Int.reduceLT, Int.reduceLE, Option.isSome_some, Option.isSome_none, Bool.not_eq_true', Bool.if_true_left, minD1]
    have := hq kvs2 T2
    unfold sideV at this
    rw [if_neg k0] at this
    exact this
theorem take_snoc {α : Type} {xs : List α} {i : Nat} {x : α} (h : xs[i]? = some x) : xs.take (i + 1) = xs.take i ++ [x] := by rw [List.take_succ, h]; rfl
theorem rgD_at {a b : Int} {i : Nat} {d : D} (h : (rgD a b)[i]? = some d) : ∃ x, (rng a b)[i]? = some x ∧ d = .int x ∧ a ≤ x ∧ x < b := by
  rw [rgD_rng, List.getElem?_map] at h
  cases q : (rng a b)[i]? with
  | none => rw [q] at h; cases h
  | some x =>
    rw [q] at h
    cases h
    exact ⟨x, rfl, rfl, mem_rng.mp (List.mem_of_getElem? q)⟩
theorem wp_cut (s : Sm p) (ho : OnOk p n on) (r : RowI p l h m) (h1 : l < c) (h2 : c < h) (hn : h - l ≤ n + 1) (hj : sto[j]? = some (.dt kvs)) (T : TabT p kvs)
    (hq : ∀ kvs', TabT p kvs' → Q (.int (cutI p l h m c)) ⟨[], sto.set j (.dt kvs')⟩) : wp (m_cut_number on [DI p, .int l, .int c, .int h, .int m, .o j]) ⟨[], sto⟩ Q := by
  have a1 := r.l0
  have a2 := r.hn
  have a3 := r.row.lo
  have a4 := r.row.hi
  have b0 := sum_nn (ps := sl p l c) fun x hx => s.nn x (List.mem_of_mem_drop (List.mem_of_mem_take hx))
  have b1 := sum_nn (ps := sl p c h) fun x hx => s.nn x (List.mem_of_mem_drop (List.mem_of_mem_take hx))
  have b2 : (sl p l h).sum ≤ 60 := by
    have h4 := sum_cut p l.toNat
    have h5 := sum_cut (p.drop l.toNat) (h.toNat - l.toNat)
    have h6 := sum_nn (ps := p.take l.toNat) fun x hx => s.nn x (List.mem_of_mem_take hx)
    have h7 := sum_nn (ps := (p.drop l.toNat).drop (h.toNat - l.toNat)) fun x hx => s.nn x (List.mem_of_mem_drop (List.mem_of_mem_drop hx))
    have h8 := s.sum
    unfold sl
    omega
  have b3 := sum_cut (sl p l h) (c - l).toNat
  rw [sl_take r.l0 (show l ≤ c by omega) (show c ≤ h by omega), sl_drop r.l0 (show l ≤ c by omega) (show c ≤ h by omega)] at b3
  unfold m_cut_number
  simp only [↓wp_bnd, ↓wp_pure, ↓wp_mVar, ↓wp_oVar, ↓wp_oE, ↓wp_mFrz, ↓wp_mRV, ↓wp_m1, ↓wp_m2, ↓wp_mB, ↓wp_mChain, ↓wp_mAnd, ↓wp_mOr, ↓wp_mNot, ↓wp_mTru, ↓wp_mIf, ↓wp_mAndV, ↓wp_mOrV, ↓wp_mNotV, ↓wp_aNil, ↓wp_aCons, ↓wp_qNil, ↓wp_qCons, ↓wp_mA, ↓wp_mTup, ↓wp_mLst, ↓wp_mIsi, ↓wp_mPart, ↓wp_mSlice, ↓wp_mRg1, ↓wp_mRg2, ↓wp_mRgL, ↓wp_iRg, ↓wp_iLst, ↓wp_mApp, ↓wp_mSeq, ↓wp_mExpr, ↓wp_mRet, ↓wp_mSet, ↓wp_mAsg, ↓wp_mgName, ↓wp_mgNil, ↓wp_mgCons, ↓wp_mgTup, ↓wp_mgSub, ↓wp_mAug, ↓wp_mAugS, ↓wp_mFor, ↓wp_mLc, ↓wp_mCall, ↓wp_mFn, ↓wp_mCallL, tab1_self, ↓wp_mAlloc, ↓wp_mNew, ↓wp_mDGet, ↓wp_mDIn, ↓wp_mDPut, ↓wp_mListK, ↓wp_mPopAt, ↓wp_mScIx, ↓wp_mScLen, ↓wp_mScSlice, Op.get, rs, RV.toD, stV, setW, gets, f1, fII, fAdd, fSub, fMul, fDiv, fMod, fLt, fLe, fGt, fGe, fNeg, asB, truD, isN, fIsN, fNotN, lenD, absD, PD.intD, max2D, min2D, min3D, listD, tupleD, ixD, isiD, PD.listAt, putAtL, Option.map_some, List.getElem?_cons_zero, List.getElem?_cons_succ, List.set_cons_zero, List.set_cons_succ, List.map_cons, List.map_nil, List.replicate_succ, List.replicate_zero, List.cons_append, List.nil_append, List.append_nil, List.length_cons, List.length_nil, List.length_map, if_true, if_false, Bool.not_true, Bool.not_false, Bool.false_eq_true, decide_true, decide_false, decide_eq_true_eq, and_true, true_and, and_self, reduceIte, Nat.reduceAdd, Nat.reduceSub, Nat.reduceLeDiff, Nat.reduceLT, Nat.reduceEqDiff, Int.reduceLT, Int.reduceLE, Option.isSome_some, Option.isSome_none, Bool.not_eq_true', Bool.if_true_left]
  refine wp_amounts_before a1 (by omega) (by omega) a2 ?_
  simp only [↓wp_bnd, ↓wp_pure, ↓wp_mVar, ↓wp_oVar, ↓wp_oE, ↓wp_mFrz, ↓wp_mRV, ↓wp_m1, ↓wp_m2, ↓wp_mB, ↓wp_mChain, ↓wp_mAnd, ↓wp_mOr, ↓wp_mNot, ↓wp_mTru, ↓wp_mIf, ↓wp_mAndV, ↓wp_mOrV, ↓wp_mNotV, ↓wp_aNil, ↓wp_aCons, ↓wp_qNil, ↓wp_qCons, ↓wp_mA, ↓wp_mTup, ↓wp_mLst, ↓wp_mIsi, ↓wp_mPart, ↓wp_mSlice, ↓wp_mRg1, ↓wp_mRg2, ↓wp_mRgL, ↓wp_iRg, ↓wp_iLst, ↓wp_mApp, ↓wp_mSeq, ↓wp_mExpr, ↓wp_mRet, ↓wp_mSet, ↓wp_mAsg, ↓wp_mgName, ↓wp_mgNil, ↓wp_mgCons, ↓wp_mgTup, ↓wp_mgSub, ↓wp_mAug, ↓wp_mAugS, ↓wp_mFor, ↓wp_mLc, ↓wp_mCall, ↓wp_mFn, ↓wp_mCallL, tab1_self, ↓wp_mAlloc, ↓wp_mNew, ↓wp_mDGet, ↓wp_mDIn, ↓wp_mDPut, ↓wp_mListK, ↓wp_mPopAt, ↓wp_mScIx, ↓wp_mScLen, ↓wp_mScSlice, Op.get, rs, RV.toD, stV, setW, gets, f1, fII, fAdd, fSub, fMul, fDiv, fMod, fLt, fLe, fGt, fGe, fNeg, asB, truD, isN, fIsN, fNotN, lenD, absD, PD.intD, max2D, min2D, min3D, listD, tupleD, ixD, isiD, PD.listAt, putAtL, Option.map_some, List.getElem?_cons_zero, List.getElem?_cons_succ, List.set_cons_zero, List.set_cons_succ, List.map_cons, List.map_nil, List.replicate_succ, List.replicate_zero, List.cons_append, List.nil_append, List.append_nil, List.length_cons, List.length_nil, List.length_map, if_true, if_false, Bool.not_true, Bool.not_false, Bool.false_eq_true, decide_true, decide_false, decide_eq_true_eq, and_true, true_and, and_self, reduceIte, Nat.reduceAdd, Nat.reduceSub, Nat.reduceLeDiff, Nat.reduceLT, Nat.reduceEqDiff, Int.reduceLT, Int.reduceLE, Option.isSome_some, Option.isSome_none, Bool.not_eq_true', Bool.if_true_left]
  have c1 : 0 ≤ imax 0 (m - (sl p c h).sum) ∧ imax 0 (m - (sl p c h).sum) ≤ 60 := by unfold imax; split <;> omega
  have c2 : 0 ≤ imin m (sl p l c).sum ∧ imin m (sl p l c).sum ≤ 60 := by unfold imin; split <;> omega
  refine ⟨rg2_ok (by omega) (by omega) (by omega) (by omega), ?_⟩
  refine wp_for (fun i w => ∃ kvs' x, TabT p kvs' ∧ w = ⟨[SV.d (DI p), SV.d (D.int l), SV.d (D.int c), SV.d (D.int h), SV.d (D.int m), SV.d (D.o j), SV.d (D.int (imax 0 (m - (sl p c h).sum))), SV.d (D.int (imin m (sl p l c).sum)), SV.d (D.int (((rng (imax 0 (m - (sl p c h).sum)) (imin m (sl p l c).sum + 1)).take i).foldl (fun w k => imax w (sideV numN (sl p l c) (sl p c h) m k)) 0)), x], sto.set j (.dt kvs')⟩) ?_ ?_ ?_
  · refine ⟨kvs, SV.un, T, ?_⟩
    rw [set_same hj]
    rfl
  · rintro i d w hd ⟨kvs1, x, T1, rfl⟩
    obtain ⟨k, hk, rfl, k1, k2⟩ := rgD_at hd
    simp only [↓wp_bnd, ↓wp_pure, ↓wp_mVar, ↓wp_oVar, ↓wp_oE, ↓wp_mFrz, ↓wp_mRV, ↓wp_m1, ↓wp_m2, ↓wp_mB, ↓wp_mChain, ↓wp_mAnd, ↓wp_mOr, ↓wp_mNot, ↓wp_mTru, ↓wp_mIf, ↓wp_mAndV, ↓wp_mOrV, ↓wp_mNotV, ↓wp_aNil, ↓wp_aCons, ↓wp_qNil, ↓wp_qCons, ↓wp_mA, ↓wp_mTup, ↓wp_mLst, ↓wp_mIsi, ↓wp_mPart, ↓wp_mSlice, ↓wp_mRg1, ↓wp_mRg2, ↓wp_mRgL, ↓wp_iRg, ↓wp_iLst, ↓wp_mApp, ↓wp_mSeq, ↓wp_mExpr, ↓wp_mRet, ↓wp_mSet, ↓wp_mAsg, ↓wp_mgName, ↓wp_mgNil, ↓wp_mgCons, ↓wp_mgTup, ↓wp_mgSub, ↓wp_mAug, ↓wp_mAugS, ↓wp_mFor, ↓wp_mLc, ↓wp_mCall, ↓wp_mFn, ↓wp_mCallL, tab1_self, ↓wp_mAlloc, ↓wp_mNew, ↓wp_mDGet, ↓wp_mDIn, ↓wp_mDPut, ↓wp_mListK, ↓wp_mPopAt, ↓wp_mScIx, ↓wp_mScLen, ↓wp_mScSlice, Op.get, rs, RV.toD, stV, setW, gets, f1, fII, fAdd, fSub, fMul, fDiv, fMod, fLt, fLe, fGt, fGe, fNeg, asB, truD, isN, fIsN, fNotN, lenD, absD, PD.intD, max2D, min2D, min3D, listD, tupleD, ixD, isiD, PD.listAt, putAtL, Option.map_some, List.getElem?_cons_zero, List.getElem?_cons_succ, List.set_cons_zero, List.set_cons_succ, List.map_cons, List.map_nil, List.replicate_succ, List.replicate_zero, List.cons_append, List.nil_append, List.append_nil, List.length_cons, List.length_nil, List.length_map, if_true, if_false, Bool.not_true, Bool.not_false, Bool.false_eq_true, decide_true, decide_false, decide_eq_true_eq, and_true, true_and, and_self, reduceIte, Nat.reduceAdd, Nat.reduceSub, Nat.reduceLeDiff, Nat.reduceLT, Nat.reduceEqDiff, Int.reduceLT, Int.reduceLE, Option.isSome_some, Option.isSome_none, Bool.not_eq_true', Bool.if_true_left]
    refine wp_side ho r h1 h2 hn (mem_fits.mp (mem_rng.mpr ⟨k1, k2⟩)) (set_get hj) T1 fun kvs2 T2 => ?_
    simp only [↓wp_bnd, ↓wp_pure, ↓wp_mVar, ↓wp_oVar, ↓wp_oE, ↓wp_mFrz, ↓wp_mRV, ↓wp_m1, ↓wp_m2, ↓wp_mB, ↓wp_mChain, ↓wp_mAnd, ↓wp_mOr, ↓wp_mNot, ↓wp_mTru, ↓wp_mIf, ↓wp_mAndV, ↓wp_mOrV, ↓wp_mNotV, ↓wp_aNil, ↓wp_aCons, ↓wp_qNil, ↓wp_qCons, ↓wp_mA, ↓wp_mTup, ↓wp_mLst, ↓wp_mIsi, ↓wp_mPart, ↓wp_mSlice, ↓wp_mRg1, ↓wp_mRg2, ↓wp_mRgL, ↓wp_iRg, ↓wp_iLst, ↓wp_mApp, ↓wp_mSeq, ↓wp_mExpr, ↓wp_mRet, ↓wp_mSet, ↓wp_mAsg, ↓wp_mgName, ↓wp_mgNil, ↓wp_mgCons, ↓wp_mgTup, ↓wp_mgSub, ↓wp_mAug, ↓wp_mAugS, ↓wp_mFor, ↓wp_mLc, ↓wp_mCall, ↓wp_mFn, ↓wp_mCallL, tab1_self, ↓wp_mAlloc, ↓wp_mNew, ↓wp_mDGet, ↓wp_mDIn, ↓wp_mDPut, ↓wp_mListK, ↓wp_mPopAt, ↓wp_mScIx, ↓wp_mScLen, ↓wp_mScSlice, Op.get, rs, RV.toD, stV, setW, gets, f1, fII, fAdd, fSub, fMul, fDiv, fMod, fLt, fLe, fGt, fGe, fNeg, asB, truD, isN, fIsN, fNotN, lenD, absD, PD.intD, max2D, min2D, min3D, listD, tupleD, ixD, isiD, PD.listAt, putAtL, Option.map_some, List.getElem?_cons_zero, List.getElem?_cons_succ, List.set_cons_zero, List.set_cons_succ, List.map_cons, List.map_nil, List.replicate_succ, List.replicate_zero, List.cons_append, List.nil_append, List.append_nil, List.length_cons, List.length_nil, List.length_map, if_true, if_false, Bool.not_true, Bool.not_false, Bool.false_eq_true, decide_true, decide_false, decide_eq_true_eq, and_true, true_and, and_self, reduceIte, Nat.reduceAdd, Nat.reduceSub, Nat.reduceLeDiff, Nat.reduceLT, Nat.reduceEqDiff, Int.reduceLT, Int.reduceLE, Option.isSome_some, Option.isSome_none, Bool.not_eq_true', Bool.if_true_left]
    refine ⟨kvs2, SV.d (D.int k), T2, ?_⟩
    rw [List.set_set, take_snoc hk, List.foldl_append]
    rfl
  · rintro w ⟨kvs1, x, T1, rfl⟩
    simp only [↓wp_bnd, ↓wp_pure, ↓wp_mVar, ↓wp_oVar, ↓wp_oE, ↓wp_mFrz, ↓wp_mRV, ↓wp_m1, ↓wp_m2, ↓wp_mB, ↓wp_mChain, ↓wp_mAnd, ↓wp_mOr, ↓wp_mNot, ↓wp_mTru, ↓wp_mIf, ↓wp_mAndV, ↓wp_mOrV, ↓wp_mNotV, ↓wp_aNil, ↓wp_aCons, ↓wp_qNil, ↓wp_qCons, ↓wp_mA, ↓wp_mTup, ↓wp_mLst, ↓wp_mIsi, ↓wp_mPart, ↓wp_mSlice, ↓wp_mRg1, ↓wp_mRg2, ↓wp_mRgL, ↓wp_iRg, ↓wp_iLst, ↓wp_mApp, ↓wp_mSeq, ↓wp_mExpr, ↓wp_mRet, ↓wp_mSet, ↓wp_mAsg, ↓wp_mgName, ↓wp_mgNil, ↓wp_mgCons, ↓wp_mgTup, ↓wp_mgSub, ↓wp_mAug, ↓wp_mAugS, ↓wp_mFor, ↓wp_mLc, ↓wp_mCall, ↓wp_mFn, ↓wp_mCallL, tab1_self, ↓wp_mAlloc, ↓wp_mNew, ↓wp_mDGet, ↓wp_mDIn, ↓wp_mDPut, ↓wp_mListK, ↓wp_mPopAt, ↓wp_mScIx, ↓wp_mScLen, ↓wp_mScSlice, Op.get, rs, RV.toD, stV, setW, gets, f1, fII, fAdd, fSub, fMul, fDiv, fMod, fLt, fLe, fGt, fGe, fNeg, asB, truD, isN, fIsN, fNotN, lenD, absD, PD.intD, max2D, min2D, min3D, listD, tupleD, ixD, isiD, PD.listAt, putAtL, Option.map_some, List.getElem?_cons_zero, List.getElem?_cons_succ, List.set_cons_zero, List.set_cons_succ, List.map_cons, List.map_nil, List.replicate_succ, List.replicate_zero, List.cons_append, List.nil_append, List.append_nil, List.length_cons, List.length_nil, List.length_map, if_true, if_false, Bool.not_true, Bool.not_false, Bool.false_eq_true, decide_true, decide_false, decide_eq_true_eq, and_true, true_and, and_self, reduceIte, Nat.reduceAdd, Nat.reduceSub, Nat.reduceLeDiff, Nat.reduceLT, Nat.reduceEqDiff, Int.reduceLT, Int.reduceLE, Option.isSome_some, Option.isSome_none, Bool.not_eq_true', Bool.if_true_left]
    have := hq kvs1 T1
    rw [rgD_rng, List.length_map, List.take_length]
    exact this
def encB : Option (Int × Int) → D
  | none => .non
  | some q => .tup [.int q.1, .int q.2]
theorem encB_none : encB none = .non := rfl
theorem encB_some (q : Int × Int) : encB (some q) = .tup [.int q.1, .int q.2] := rfl
theorem wp_best (s : Sm p) (ho : OnOk p n on) (r : RowI p l h m) (hn : h - l ≤ n + 1) (hj : sto[j]? = some (.dt kvs)) (T : TabT p kvs)
    (hq : ∀ kvs', TabT p kvs' → Q (encB (bestI p l h m)) ⟨[], sto.set j (.dt kvs')⟩) : wp (m_best_cut on [DI p, .int l, .int h, .int m, .o j]) ⟨[], sto⟩ Q := by
  have a1 := r.l0
  have a2 := r.hn
  have a3 := r.lh
  have a4 := s.len
  unfold m_best_cut
  simp only [↓wp_bnd, ↓wp_pure, ↓wp_mVar, ↓wp_oVar, ↓wp_oE, ↓wp_mFrz, ↓wp_mRV, ↓wp_m1, ↓wp_m2, ↓wp_mB, ↓wp_mChain, ↓wp_mAnd, ↓wp_mOr, ↓wp_mNot, ↓wp_mTru, ↓wp_mIf, ↓wp_mAndV, ↓wp_mOrV, ↓wp_mNotV, ↓wp_aNil, ↓wp_aCons, ↓wp_qNil, ↓wp_qCons, ↓wp_mA, ↓wp_mTup, ↓wp_mLst, ↓wp_mIsi, ↓wp_mPart, ↓wp_mSlice, ↓wp_mRg1, ↓wp_mRg2, ↓wp_mRgL, ↓wp_iRg, ↓wp_iLst, ↓wp_mApp, ↓wp_mSeq, ↓wp_mExpr, ↓wp_mRet, ↓wp_mSet, ↓wp_mAsg, ↓wp_mgName, ↓wp_mgNil, ↓wp_mgCons, ↓wp_mgTup, ↓wp_mgSub, ↓wp_mAug, ↓wp_mAugS, ↓wp_mFor, ↓wp_mLc, ↓wp_mCall, ↓wp_mFn, ↓wp_mCallL, tab1_self, ↓wp_mAlloc, ↓wp_mNew, ↓wp_mDGet, ↓wp_mDIn, ↓wp_mDPut, ↓wp_mListK, ↓wp_mPopAt, ↓wp_mScIx, ↓wp_mScLen, ↓wp_mScSlice, Op.get, rs, RV.toD, stV, setW, gets, f1, fII, fAdd, fSub, fMul, fDiv, fMod, fLt, fLe, fGt, fGe, fNeg, asB, truD, isN, fIsN, fNotN, lenD, absD, PD.intD, max2D, min2D, min3D, listD, tupleD, ixD, isiD, PD.listAt, putAtL, Option.map_some, List.getElem?_cons_zero, List.getElem?_cons_succ, List.set_cons_zero, List.set_cons_succ, List.map_cons, List.map_nil, List.replicate_succ, List.replicate_zero, List.cons_append, List.nil_append, List.append_nil, List.length_cons, List.length_nil, List.length_map, if_true, if_false, Bool.not_true, Bool.not_false, Bool.false_eq_true, decide_true, decide_false, decide_eq_true_eq, and_true, true_and, and_self, reduceIte, Nat.reduceAdd, Nat.reduceSub, Nat.reduceLeDiff, Nat.reduceLT, Nat.reduceEqDiff, Int.reduceLT, Int.reduceLE, Option.isSome_some, Option.isSome_none, Bool.not_eq_true', Bool.if_true_left]
  refine ⟨rg2_ok (by omega) (by omega) (by omega) (by omega), ?_⟩
  refine wp_for (fun i w => ∃ kvs' x y, TabT p kvs' ∧ w = ⟨[SV.d (DI p), SV.d (D.int l), SV.d (D.int h), SV.d (D.int m), SV.d (D.o j), SV.d (encB (((rng (l + 1) h).take i).foldl (stepB (cutI p l h m)) none)), x, y], sto.set j (.dt kvs')⟩) ?_ ?_ ?_
  · refine ⟨kvs, SV.un, SV.un, T, ?_⟩
    rw [set_same hj]
    rfl
  · rintro i d w hd ⟨kvs1, x, y, T1, rfl⟩
    obtain ⟨c, hc, rfl, k1, k2⟩ := rgD_at hd
    simp only [↓wp_bnd, ↓wp_pure, ↓wp_mVar, ↓wp_oVar, ↓wp_oE, ↓wp_mFrz, ↓wp_mRV, ↓wp_m1, ↓wp_m2, ↓wp_mB, ↓wp_mChain, ↓wp_mAnd, ↓wp_mOr, ↓wp_mNot, ↓wp_mTru, ↓wp_mIf, ↓wp_mAndV, ↓wp_mOrV, ↓wp_mNotV, ↓wp_aNil, ↓wp_aCons, ↓wp_qNil, ↓wp_qCons, ↓wp_mA, ↓wp_mTup, ↓wp_mLst, ↓wp_mIsi, ↓wp_mPart, ↓wp_mSlice, ↓wp_mRg1, ↓wp_mRg2, ↓wp_mRgL, ↓wp_iRg, ↓wp_iLst, ↓wp_mApp, ↓wp_mSeq, ↓wp_mExpr, ↓wp_mRet, ↓wp_mSet, ↓wp_mAsg, ↓wp_mgName, ↓wp_mgNil, ↓wp_mgCons, ↓wp_mgTup, ↓wp_mgSub, ↓wp_mAug, ↓wp_mAugS, ↓wp_mFor, ↓wp_mLc, ↓wp_mCall, ↓wp_mFn, ↓wp_mCallL, tab1_self, ↓wp_mAlloc, ↓wp_mNew, ↓wp_mDGet, ↓wp_mDIn, ↓wp_mDPut, ↓wp_mListK, ↓wp_mPopAt, ↓wp_mScIx, ↓wp_mScLen, ↓wp_mScSlice, Op.get, rs, RV.toD, stV, setW, gets, f1, fII, fAdd, fSub, fMul, fDiv, fMod, fLt, fLe, fGt, fGe, fNeg, asB, truD, isN, fIsN, fNotN, lenD, absD, PD.intD, max2D, min2D, min3D, listD, tupleD, ixD, isiD, PD.listAt, putAtL, Option.map_some, List.getElem?_cons_zero, List.getElem?_cons_succ, List.set_cons_zero, List.set_cons_succ, List.map_cons, List.map_nil, List.replicate_succ, List.replicate_zero, List.cons_append, List.nil_append, List.append_nil, List.length_cons, List.length_nil, List.length_map, if_true, if_false, Bool.not_true, Bool.not_false, Bool.false_eq_true, decide_true, decide_false, decide_eq_true_eq, and_true, true_and, and_self, reduceIte, Nat.reduceAdd, Nat.reduceSub, Nat.reduceLeDiff, Nat.reduceLT, Nat.reduceEqDiff, Int.reduceLT, Int.reduceLE, Option.isSome_some, Option.isSome_none, Bool.not_eq_true', Bool.if_true_left]
    refine wp_cut s ho r (by omega) k2 hn (set_get hj) T1 fun kvs2 T2 => ?_
    rw [List.set_set]
    cases hb : ((rng (l + 1) h).take i).foldl (stepB (cutI p l h m)) none with
    | none =>
      simp only [↓wp_bnd, ↓wp_pure, ↓wp_mVar, ↓wp_oVar, ↓wp_oE, ↓wp_mFrz, ↓wp_mRV, ↓wp_m1, ↓wp_m2, ↓wp_mB, ↓wp_mChain, ↓wp_mAnd, ↓wp_mOr, ↓wp_mNot, ↓wp_mTru, ↓wp_mIf, ↓wp_mAndV, ↓wp_mOrV, ↓wp_mNotV, ↓wp_aNil, ↓wp_aCons, ↓wp_qNil, ↓wp_qCons, ↓wp_mA, ↓wp_mTup, ↓wp_mLst, ↓wp_mIsi, ↓wp_mPart, ↓wp_mSlice, ↓wp_mRg1, ↓wp_mRg2, ↓wp_mRgL, ↓wp_iRg, ↓wp_iLst, ↓wp_mApp, ↓wp_mSeq, ↓wp_mExpr, ↓wp_mRet, ↓wp_mSet, ↓wp_mAsg, ↓wp_mgName, ↓wp_mgNil, ↓wp_mgCons, ↓wp_mgTup, ↓wp_mgSub, ↓wp_mAug, ↓wp_mAugS, ↓wp_mFor, ↓wp_mLc, ↓wp_mCall, ↓wp_mFn, ↓wp_mCallL, tab1_self, ↓wp_mAlloc, ↓wp_mNew, ↓wp_mDGet, ↓wp_mDIn, ↓wp_mDPut, ↓wp_mListK, ↓wp_mPopAt, ↓wp_mScIx, ↓wp_mScLen, ↓wp_mScSlice, Op.get, rs, RV.toD, stV, setW, gets, f1, fII, fAdd, fSub, fMul, fDiv, fMod, fLt, fLe, fGt, fGe, fNeg, asB, truD, isN, fIsN, fNotN, lenD, absD, PD.intD, max2D, min2D, min3D, listD, tupleD, ixD, isiD, PD.listAt, putAtL, Option.map_some, List.getElem?_cons_zero, List.getElem?_cons_succ, List.set_cons_zero, List.set_cons_succ, List.map_cons, List.map_nil, List.replicate_succ, List.replicate_zero, List.cons_append, List.nil_append, List.append_nil, List.length_cons, List.length_nil, List.length_map, if_true, if_false, Bool.not_true, Bool.not_false, Bool.false_eq_true, decide_true, decide_false, decide_eq_true_eq, and_true, true_and, and_self, reduceIte, Nat.reduceAdd, Nat.reduceSub, Nat.reduceLeDiff, Nat.reduceLT, Nat.reduceEqDiff, Int.reduceLT, Int.reduceLE, Option.isSome_some, Option.isSome_none, Bool.not_eq_true', Bool.if_true_left, encB_none]
      refine ⟨kvs2, SV.d (D.int c), SV.d (D.int (cutI p l h m c)), T2, ?_⟩
      rw [take_snoc hc, List.foldl_append, hb]
      rfl
    | some q =>
      by_cases hlt : cutI p l h m c < q.1
      · simp only [↓wp_bnd, ↓wp_pure, ↓wp_mVar, ↓wp_oVar, ↓wp_oE, ↓wp_mFrz, ↓wp_mRV, ↓wp_m1, ↓wp_m2, ↓wp_mB, ↓wp_mChain, ↓wp_mAnd, ↓wp_mOr, ↓wp_mNot, ↓wp_mTru, ↓wp_mIf, ↓wp_mAndV, ↓wp_mOrV, ↓wp_mNotV, ↓wp_aNil, ↓wp_aCons, ↓wp_qNil, ↓wp_qCons, ↓wp_mA, ↓wp_mTup, ↓wp_mLst, ↓wp_mIsi, ↓wp_mPart, ↓wp_mSlice, ↓wp_mRg1, ↓wp_mRg2, ↓wp_mRgL, ↓wp_iRg, ↓wp_iLst, ↓wp_mApp, ↓wp_mSeq, ↓wp_mExpr, ↓wp_mRet, ↓wp_mSet, ↓wp_mAsg, ↓wp_mgName, ↓wp_mgNil, ↓wp_mgCons, ↓wp_mgTup, ↓wp_mgSub, ↓wp_mAug, ↓wp_mAugS, ↓wp_mFor, ↓wp_mLc, ↓wp_mCall, ↓wp_mFn, ↓wp_mCallL, tab1_self, ↓wp_mAlloc, ↓wp_mNew, ↓wp_mDGet, ↓wp_mDIn, ↓wp_mDPut, ↓wp_mListK, ↓wp_mPopAt, ↓wp_mScIx, ↓wp_mScLen, ↓wp_mScSlice, Op.get, rs, RV.toD, stV, setW, gets, f1, fII, fAdd, fSub, fMul, fDiv, fMod, fLt, fLe, fGt, fGe, fNeg, asB, truD, isN, fIsN, fNotN, lenD, absD, PD.intD, max2D, min2D, min3D, listD, tupleD, ixD, isiD, PD.listAt, putAtL, Option.map_some, List.getElem?_cons_zero, List.getElem?_cons_succ, List.set_cons_zero, List.set_cons_succ, List.map_cons, List.map_nil, List.replicate_succ, List.replicate_zero, List.cons_append, List.nil_append, List.append_nil, List.length_cons, List.length_nil, List.length_map, if_true, if_false, Bool.not_true, Bool.not_false, Bool.false_eq_true, decide_true, decide_false, decide_eq_true_eq, and_true, true_and, and_self, reduceIte, Nat.reduceAdd, Nat.reduceSub, Nat.reduceLeDiff, Nat.reduceLT, Nat.reduceEqDiff, Int.reduceLT, Int.reduceLE, Option.isSome_some, Option.isSome_none, Bool.not_eq_true', Bool.if_true_left, encB_some, at20, hlt]
        refine ⟨kvs2, SV.d (D.int c), SV.d (D.int (cutI p l h m c)), T2, ?_⟩
        rw [take_snoc hc, List.foldl_append, hb]
        show _ = (⟨[_, _, _, _, _, SV.d (encB (if cutI p l h m c < q.1 then some (cutI p l h m c, c) else some q)), _, _], _⟩ : Wd)
        rw [if_pos hlt]
        rfl
      · simp only [↓wp_bnd, ↓wp_pure, ↓wp_mVar, ↓wp_oVar, ↓wp_oE, ↓wp_mFrz, ↓wp_mRV, ↓wp_m1, ↓wp_m2, ↓wp_mB, ↓wp_mChain, ↓wp_mAnd, ↓wp_mOr, ↓wp_mNot, ↓wp_mTru, ↓wp_mIf, ↓wp_mAndV, ↓wp_mOrV, ↓wp_mNotV, ↓wp_aNil, ↓wp_aCons, ↓wp_qNil, ↓wp_qCons, ↓wp_mA, ↓wp_mTup, ↓wp_mLst, ↓wp_mIsi, ↓wp_mPart, ↓wp_mSlice, ↓wp_mRg1, ↓wp_mRg2, ↓wp_mRgL, ↓wp_iRg, ↓wp_iLst, ↓wp_mApp, ↓wp_mSeq, ↓wp_mExpr, ↓wp_mRet, ↓wp_mSet, ↓wp_mAsg, ↓wp_mgName, ↓wp_mgNil, ↓wp_mgCons, ↓wp_mgTup, ↓wp_mgSub, ↓wp_mAug, ↓wp_mAugS, ↓wp_mFor, ↓wp_mLc, ↓wp_mCall, ↓wp_mFn, ↓wp_mCallL, tab1_self, ↓wp_mAlloc, ↓wp_mNew, ↓wp_mDGet, ↓wp_mDIn, ↓wp_mDPut, ↓wp_mListK, ↓wp_mPopAt, ↓wp_mScIx, ↓wp_mScLen, ↓wp_mScSlice, Op.get, rs, RV.toD, stV, setW, gets, f1, fII, fAdd, fSub, fMul, fDiv, fMod, fLt, fLe, fGt, fGe, fNeg, asB, truD, isN, fIsN, fNotN, lenD, absD, PD.intD, max2D, min2D, min3D, listD, tupleD, ixD, isiD, PD.listAt, putAtL, Option.map_some, List.getElem?_cons_zero, List.getElem?_cons_succ, List.set_cons_zero, List.set_cons_succ, List.map_cons, List.map_nil, List.replicate_succ, List.replicate_zero, List.cons_append, List.nil_append, List.append_nil, List.length_cons, List.length_nil, List.length_map, if_true, if_false, Bool.not_true, Bool.not_false, Bool.false_eq_true, decide_true, decide_false, decide_eq_true_eq, and_true, true_and, and_self, reduceIte, Nat.reduceAdd, Nat.reduceSub, Nat.reduceLeDiff, Nat.reduceLT, Nat.reduceEqDiff, Int.reduceLT, Int.reduceLE, Option.isSome_some, Option.isSome_none, Bool.not_eq_true', Bool.if_true_left, encB_some, at20, hlt]
        refine ⟨kvs2, SV.d (D.int c), SV.d (D.int (cutI p l h m c)), T2, ?_⟩
        rw [take_snoc hc, List.foldl_append, hb]
        show _ = (⟨[_, _, _, _, _, SV.d (encB (if cutI p l h m c < q.1 then some (cutI p l h m c, c) else some q)), _, _], _⟩ : Wd)
        rw [if_neg hlt]
        rfl
  · rintro w ⟨kvs1, x, y, T1, rfl⟩
    simp only [↓wp_bnd, ↓wp_pure, ↓wp_mVar, ↓wp_oVar, ↓wp_oE, ↓wp_mFrz, ↓wp_mRV, ↓wp_m1, ↓wp_m2, ↓wp_mB, ↓wp_mChain, ↓wp_mAnd, ↓wp_mOr, ↓wp_mNot, ↓wp_mTru, ↓wp_mIf, ↓wp_mAndV, ↓wp_mOrV, ↓wp_mNotV, ↓wp_aNil, ↓wp_aCons, ↓wp_qNil, ↓wp_qCons, ↓wp_mA, ↓wp_mTup, ↓wp_mLst, ↓wp_mIsi, ↓wp_mPart, ↓wp_mSlice, ↓wp_mRg1, ↓wp_mRg2, ↓wp_mRgL, ↓wp_iRg, ↓wp_iLst, ↓wp_mApp, ↓wp_mSeq, ↓wp_mExpr, ↓wp_mRet, ↓wp_mSet, ↓wp_mAsg, ↓wp_mgName, ↓wp_mgNil, ↓wp_mgCons, ↓wp_mgTup, ↓wp_mgSub, ↓wp_mAug, ↓wp_mAugS, ↓wp_mFor, ↓wp_mLc, ↓wp_mCall, ↓wp_mFn, ↓wp_mCallL, tab1_self, ↓wp_mAlloc, ↓wp_mNew, ↓wp_mDGet, ↓wp_mDIn, ↓wp_mDPut, ↓wp_mListK, ↓wp_mPopAt, ↓wp_mScIx, ↓wp_mScLen, ↓wp_mScSlice, Op.get, rs, RV.toD, stV, setW, gets, f1, fII, fAdd, fSub, fMul, fDiv, fMod, fLt, fLe, fGt, fGe, fNeg, asB, truD, isN, fIsN, fNotN, lenD, absD, PD.intD, max2D, min2D, min3D, listD, tupleD, ixD, isiD, PD.listAt, putAtL, Option.map_some, List.getElem?_cons_zero, List.getElem?_cons_succ, List.set_cons_zero, List.set_cons_succ, List.map_cons, List.map_nil, List.replicate_succ, List.replicate_zero, List.cons_append, List.nil_append, List.append_nil, List.length_cons, List.length_nil, List.length_map, if_true, if_false, Bool.not_true, Bool.not_false, Bool.false_eq_true, decide_true, decide_false, decide_eq_true_eq, and_true, true_and, and_self, reduceIte, Nat.reduceAdd, Nat.reduceSub, Nat.reduceLeDiff, Nat.reduceLT, Nat.reduceEqDiff, Int.reduceLT, Int.reduceLE, Option.isSome_some, Option.isSome_none, Bool.not_eq_true', Bool.if_true_left]
    have := hq kvs1 T1
    rw [rgD_rng, List.length_map, List.take_length]
    exact this
theorem key3 (l h m : Int) : PD.keyT (.tup [.int l, .int h, .int m]) = some [.inl l, .inl h, .inl m] := rfl
theorem dget_t {kvs : List (List Key × D)} (hj : sto[j]? = some (.dt kvs)) (l h m : Int) : dget sto (.o j) (.tup [.int l, .int h, .int m]) = some (valD kvs [.inl l, .inl h, .inl m]) := by
  unfold dget
  dsimp only
  rw [hj]
  dsimp only
  rw [key3]
theorem dput_t {kvs : List (List Key × D)} (hj : sto[j]? = some (.dt kvs)) (hl : kvs.length < 16777216) (l h m : Int) (x : D) : dput sto (.o j) (.tup [.int l, .int h, .int m]) x = some (sto.set j (.dt (putDk kvs [.inl l, .inl h, .inl m] x))) := by
  unfold dput
  dsimp only
  rw [hj]
  dsimp only
  rw [key3]
  dsimp only
  rw [if_pos hl]
theorem pys_ints : ∀ ns : List Int, pys (ns.map D.int) = some (ns.map PyData.int)
  | [] => rfl
  | n :: ns => by
    show (match some (PyData.int n) with | some y => (match pys (ns.map D.int) with | some ys => some (y :: ys) | none => none) | none => none) = _
    rw [pys_ints ns]
    rfl
theorem lay_ints : ∀ ns : List Int, PyData.canLayAll0 (ns.map PyData.int) = true
  | [] => rfl
  | n :: ns => by
    show (PyData.canLay0 (.int n) && PyData.canLayAll0 (ns.map PyData.int)) = true
    rw [lay_ints ns]
    rfl
theorem dep_ints : ∀ ns : List Int, PyData.depthAll (ns.map PyData.int) ≤ 1
  | [] => by simp [PyData.depthAll]
  | n :: ns => by
    have := dep_ints ns
    simp [PyData.depthAll, PyData.depth]
    omega
theorem shaped_ints (ns : List Int) : SeqAt.shaped (.list (ns.map PyData.int)) = true := by
  unfold SeqAt.shaped
  have h1 := lay_ints ns
  have h2 := dep_ints ns
  have h3 : PyData.canLay0 (.list (ns.map PyData.int)) = true := by simpa [PyData.canLay0] using h1
  have h4 : PyData.depth (.list (ns.map PyData.int)) ≤ 64 := by simp [PyData.depth]; omega
  rw [h3, decide_eq_true h4]
  rfl
theorem py_ints (ns : List Int) : py (DI ns) = some (.list (ns.map PyData.int)) := by
  show (match pys (ns.map D.int) with | some ys => some (PyData.list ys) | none => none) = _
  rw [pys_ints]
theorem eq_nil (ns : List Int) : fNe (DI ns) (.lst []) = some (.d (.bl (decide (ns ≠ [])))) := by
  unfold fNe eqD
  rw [py_ints, show py (.lst []) = some (.list (([] : List Int).map PyData.int)) from py_ints []]
  dsimp only
  rw [shaped_ints, shaped_ints, if_pos (show (true && true) = true from rfl)]
  cases ns with
  | nil => simp [PyData.eqv, PyData.eqvAll]
  | cons n ns => simp [PyData.eqv, PyData.eqvAll]
theorem handsI_ne {p : List Int} {l h m : Int} (r : RowI p l h m) : handsI p l h m ≠ [] ↔ numN (sl p l h) m = 0 := by
  rw [numN_named r.row]
  have h0 := r.l0
  have h1 := r.lh
  have h2 := r.hn
  have hl := sl_length h0 h1 h2
  unfold handsI Named
  rw [Ne, List.map_eq_nil_iff, List.filter_eq_nil_iff]
  have get : ∀ i, l ≤ i → i < h → (sl p l h)[(i - l).toNat]? = some (p.getD i.toNat 0) := fun i a b => by
    unfold sl
    rw [List.getElem?_take, if_pos (by omega), List.getElem?_drop, show l.toNat + (i - l).toNat = i.toNat by omega, List.getElem?_eq_getElem (by omega), List.getD_eq_getElem?_getD, List.getElem?_eq_getElem (by omega)]
    rfl
  constructor
  · intro z
    apply Classical.byContradiction
    intro y
    refine z fun i hi => ?_
    rw [mem_rng] at hi
    intro q
    exact y ⟨_, List.mem_of_getElem? (get i hi.1 hi.2), of_decide_eq_true q⟩
  · rintro ⟨x, hx, hlt⟩ z
    obtain ⟨i, hi, e⟩ := List.getElem_of_mem hx
    have e2 := get (l + i) (by omega) (by omega)
    rw [show (l + (i : Int) - l).toNat = i by omega, List.getElem?_eq_getElem hi, e] at e2
    refine z (l + i) (mem_rng.mpr (by omega)) (decide_eq_true ?_)
    rw [← Option.some.inj e2]
    exact hlt
theorem on_ok (s : Sm p) : ∀ n : Nat, OnOk p n (m_opening_number n)
  | 0 => fun l h m sto j kvs Q r hn hj T hq => by
    exfalso
    have h1 := r.row.ne
    have h2 := sl_length r.l0 r.lh r.hn
    exact h1 (List.length_eq_zero_iff.mp (by omega))
  | n + 1 => fun l h m sto j kvs Q r hn hj T hq => by
    have h0 := r.l0
    have h1 := r.lh
    have h2 := r.hn
    have h3 := r.row.lo
    have h4 := s.len
    have hm : m ≤ p.sum := by
      have := r.row.hi
      have h4 := sum_cut p l.toNat
      have h5 := sum_cut (p.drop l.toNat) (h.toNat - l.toNat)
      have h6 := sum_nn (ps := p.take l.toNat) fun x hx => s.nn x (List.mem_of_mem_take hx)
      have h7 := sum_nn (ps := (p.drop l.toNat).drop (h.toNat - l.toNat)) fun x hx => s.nn x (List.mem_of_mem_drop (List.mem_of_mem_drop hx))
      have : (sl p l h).sum = ((p.drop l.toNat).take (h.toNat - l.toNat)).sum := rfl
      omega
    have hk := mem_keysT r hm
    have tl : ∀ {kvs}, TabT p kvs → kvs.length < 16777216 := fun T => Nat.lt_of_le_of_lt T.len (keysT_len s)
    unfold m_opening_number
    rcases T.val [.inl l, .inl h, .inl m] with e | e
    · simp only [↓wp_bnd, ↓wp_pure, ↓wp_mVar, ↓wp_oVar, ↓wp_oE, ↓wp_mFrz, ↓wp_mRV, ↓wp_m1, ↓wp_m2, ↓wp_mB, ↓wp_mChain, ↓wp_mAnd, ↓wp_mOr, ↓wp_mNot, ↓wp_mTru, ↓wp_mIf, ↓wp_mAndV, ↓wp_mOrV, ↓wp_mNotV, ↓wp_aNil, ↓wp_aCons, ↓wp_qNil, ↓wp_qCons, ↓wp_mA, ↓wp_mTup, ↓wp_mLst, ↓wp_mIsi, ↓wp_mPart, ↓wp_mSlice, ↓wp_mRg1, ↓wp_mRg2, ↓wp_mRgL, ↓wp_iRg, ↓wp_iLst, ↓wp_mApp, ↓wp_mSeq, ↓wp_mExpr, ↓wp_mRet, ↓wp_mSet, ↓wp_mAsg, ↓wp_mgName, ↓wp_mgNil, ↓wp_mgCons, ↓wp_mgTup, ↓wp_mgSub, ↓wp_mAug, ↓wp_mAugS, ↓wp_mFor, ↓wp_mLc, ↓wp_mCall, ↓wp_mFn, ↓wp_mCallL, tab1_self, ↓wp_mAlloc, ↓wp_mNew, ↓wp_mDGet, ↓wp_mDIn, ↓wp_mDPut, ↓wp_mListK, ↓wp_mPopAt, ↓wp_mScIx, ↓wp_mScLen, ↓wp_mScSlice, Op.get, rs, RV.toD, stV, setW, gets, f1, fII, fAdd, fSub, fMul, fDiv, fMod, fLt, fLe, fGt, fGe, fNeg, asB, truD, isN, fIsN, fNotN, lenD, absD, PD.intD, max2D, min2D, min3D, listD, tupleD, ixD, isiD, PD.listAt, putAtL, Option.map_some, List.getElem?_cons_zero, List.getElem?_cons_succ, List.set_cons_zero, List.set_cons_succ, List.map_cons, List.map_nil, List.replicate_succ, List.replicate_zero, List.cons_append, List.nil_append, List.append_nil, List.length_cons, List.length_nil, List.length_map, if_true, if_false, Bool.not_true, Bool.not_false, Bool.false_eq_true, decide_true, decide_false, decide_eq_true_eq, and_true, true_and, and_self, reduceIte, Nat.reduceAdd, Nat.reduceSub, Nat.reduceLeDiff, Nat.reduceLT, Nat.reduceEqDiff, Int.reduceLT, Int.reduceLE, Option.isSome_some, Option.isSome_none, Bool.not_eq_true', Bool.if_true_left, hj, dget_t hj, e]
      refine wp_hands_named h0 h1 h2 (by omega) (by omega) ?_
      by_cases z : handsI p l h m = []
      · simp only [↓wp_bnd, ↓wp_pure, ↓wp_mVar, ↓wp_oVar, ↓wp_oE, ↓wp_mFrz, ↓wp_mRV, ↓wp_m1, ↓wp_m2, ↓wp_mB, ↓wp_mChain, ↓wp_mAnd, ↓wp_mOr, ↓wp_mNot, ↓wp_mTru, ↓wp_mIf, ↓wp_mAndV, ↓wp_mOrV, ↓wp_mNotV, ↓wp_aNil, ↓wp_aCons, ↓wp_qNil, ↓wp_qCons, ↓wp_mA, ↓wp_mTup, ↓wp_mLst, ↓wp_mIsi, ↓wp_mPart, ↓wp_mSlice, ↓wp_mRg1, ↓wp_mRg2, ↓wp_mRgL, ↓wp_iRg, ↓wp_iLst, ↓wp_mApp, ↓wp_mSeq, ↓wp_mExpr, ↓wp_mRet, ↓wp_mSet, ↓wp_mAsg, ↓wp_mgName, ↓wp_mgNil, ↓wp_mgCons, ↓wp_mgTup, ↓wp_mgSub, ↓wp_mAug, ↓wp_mAugS, ↓wp_mFor, ↓wp_mLc, ↓wp_mCall, ↓wp_mFn, ↓wp_mCallL, tab1_self, ↓wp_mAlloc, ↓wp_mNew, ↓wp_mDGet, ↓wp_mDIn, ↓wp_mDPut, ↓wp_mListK, ↓wp_mPopAt, ↓wp_mScIx, ↓wp_mScLen, ↓wp_mScSlice, Op.get, rs, RV.toD, stV, setW, gets, f1, fII, fAdd, fSub, fMul, fDiv, fMod, fLt, fLe, fGt, fGe, fNeg, asB, truD, isN, fIsN, fNotN, lenD, absD, PD.intD, max2D, min2D, min3D, listD, tupleD, ixD, isiD, PD.listAt, putAtL, Option.map_some, List.getElem?_cons_zero, List.getElem?_cons_succ, List.set_cons_zero, List.set_cons_succ, List.map_cons, List.map_nil, List.replicate_succ, List.replicate_zero, List.cons_append, List.nil_append, List.append_nil, List.length_cons, List.length_nil, List.length_map, if_true, if_false, Bool.not_true, Bool.not_false, Bool.false_eq_true, decide_true, decide_false, decide_eq_true_eq, and_true, true_and, and_self, reduceIte, Nat.reduceAdd, Nat.reduceSub, Nat.reduceLeDiff, Nat.reduceLT, Nat.reduceEqDiff, Int.reduceLT, Int.reduceLE, Option.isSome_some, Option.isSome_none, Bool.not_eq_true', Bool.if_true_left, eq_nil, z]
        refine wp_best s (on_ok s n) r hn hj T fun kvs1 T1 => ?_
        have nz : numN (sl p l h) m ≠ 0 := fun q => (handsI_ne r).mpr q z
        obtain ⟨q, b1, _, _, b4, _⟩ := bestI_spec r nz
        simp only [↓wp_bnd, ↓wp_pure, ↓wp_mVar, ↓wp_oVar, ↓wp_oE, ↓wp_mFrz, ↓wp_mRV, ↓wp_m1, ↓wp_m2, ↓wp_mB, ↓wp_mChain, ↓wp_mAnd, ↓wp_mOr, ↓wp_mNot, ↓wp_mTru, ↓wp_mIf, ↓wp_mAndV, ↓wp_mOrV, ↓wp_mNotV, ↓wp_aNil, ↓wp_aCons, ↓wp_qNil, ↓wp_qCons, ↓wp_mA, ↓wp_mTup, ↓wp_mLst, ↓wp_mIsi, ↓wp_mPart, ↓wp_mSlice, ↓wp_mRg1, ↓wp_mRg2, ↓wp_mRgL, ↓wp_iRg, ↓wp_iLst, ↓wp_mApp, ↓wp_mSeq, ↓wp_mExpr, ↓wp_mRet, ↓wp_mSet, ↓wp_mAsg, ↓wp_mgName, ↓wp_mgNil, ↓wp_mgCons, ↓wp_mgTup, ↓wp_mgSub, ↓wp_mAug, ↓wp_mAugS, ↓wp_mFor, ↓wp_mLc, ↓wp_mCall, ↓wp_mFn, ↓wp_mCallL, tab1_self, ↓wp_mAlloc, ↓wp_mNew, ↓wp_mDGet, ↓wp_mDIn, ↓wp_mDPut, ↓wp_mListK, ↓wp_mPopAt, ↓wp_mScIx, ↓wp_mScLen, ↓wp_mScSlice, Op.get, rs, RV.toD, stV, setW, gets, f1, fII, fAdd, fSub, fMul, fDiv, fMod, fLt, fLe, fGt, fGe, fNeg, asB, truD, isN, fIsN, fNotN, lenD, absD, PD.intD, max2D, min2D, min3D, listD, tupleD, ixD, isiD, PD.listAt, putAtL, Option.map_some, List.getElem?_cons_zero, List.getElem?_cons_succ, List.set_cons_zero, List.set_cons_succ, List.map_cons, List.map_nil, List.replicate_succ, List.replicate_zero, List.cons_append, List.nil_append, List.append_nil, List.length_cons, List.length_nil, List.length_map, if_true, if_false, Bool.not_true, Bool.not_false, Bool.false_eq_true, decide_true, decide_false, decide_eq_true_eq, and_true, true_and, and_self, reduceIte, Nat.reduceAdd, Nat.reduceSub, Nat.reduceLeDiff, Nat.reduceLT, Nat.reduceEqDiff, Int.reduceLT, Int.reduceLE, Option.isSome_some, Option.isSome_none, Bool.not_eq_true', Bool.if_true_left, b1, encB_some, at20, set_get hj, set_get (set_get hj), dput_t (set_get hj) (tl T1), dget_t (set_get (set_get hj)), valD_put]
        rw [List.set_set]
        rw [← b4]
        exact hq _ (T1.put hk)
      · have nz : numN (sl p l h) m = 0 := (handsI_ne r).mp z
        simp only [↓wp_bnd, ↓wp_pure, ↓wp_mVar, ↓wp_oVar, ↓wp_oE, ↓wp_mFrz, ↓wp_mRV, ↓wp_m1, ↓wp_m2, ↓wp_mB, ↓wp_mChain, ↓wp_mAnd, ↓wp_mOr, ↓wp_mNot, ↓wp_mTru, ↓wp_mIf, ↓wp_mAndV, ↓wp_mOrV, ↓wp_mNotV, ↓wp_aNil, ↓wp_aCons, ↓wp_qNil, ↓wp_qCons, ↓wp_mA, ↓wp_mTup, ↓wp_mLst, ↓wp_mIsi, ↓wp_mPart, ↓wp_mSlice, ↓wp_mRg1, ↓wp_mRg2, ↓wp_mRgL, ↓wp_iRg, ↓wp_iLst, ↓wp_mApp, ↓wp_mSeq, ↓wp_mExpr, ↓wp_mRet, ↓wp_mSet, ↓wp_mAsg, ↓wp_mgName, ↓wp_mgNil, ↓wp_mgCons, ↓wp_mgTup, ↓wp_mgSub, ↓wp_mAug, ↓wp_mAugS, ↓wp_mFor, ↓wp_mLc, ↓wp_mCall, ↓wp_mFn, ↓wp_mCallL, tab1_self, ↓wp_mAlloc, ↓wp_mNew, ↓wp_mDGet, ↓wp_mDIn, ↓wp_mDPut, ↓wp_mListK, ↓wp_mPopAt, ↓wp_mScIx, ↓wp_mScLen, ↓wp_mScSlice, Op.get, rs, RV.toD, stV, setW, gets, f1, fII, fAdd, fSub, fMul, fDiv, fMod, fLt, fLe, fGt, fGe, fNeg, asB, truD, isN, fIsN, fNotN, lenD, absD, PD.intD, max2D, min2D, min3D, listD, tupleD, ixD, isiD, PD.listAt, putAtL, Option.map_some, List.getElem?_cons_zero, List.getElem?_cons_succ, List.set_cons_zero, List.set_cons_succ, List.map_cons, List.map_nil, List.replicate_succ, List.replicate_zero, List.cons_append, List.nil_append, List.append_nil, List.length_cons, List.length_nil, List.length_map, if_true, if_false, Bool.not_true, Bool.not_false, Bool.false_eq_true, decide_true, decide_false, decide_eq_true_eq, and_true, true_and, and_self, reduceIte, Nat.reduceAdd, Nat.reduceSub, Nat.reduceLeDiff, Nat.reduceLT, Nat.reduceEqDiff, Int.reduceLT, Int.reduceLE, Option.isSome_some, Option.isSome_none, Bool.not_eq_true', Bool.if_true_left, eq_nil, z, hj, set_get hj, dput_t hj (tl T), dget_t (set_get hj), valD_put]
        have := hq _ (T.put hk)
        rw [show valT p [.inl l, .inl h, .inl m] = 0 from nz] at this
        rw [if_pos z]
        rw [nz] at this
        exact this
    · simp only [↓wp_bnd, ↓wp_pure, ↓wp_mVar, ↓wp_oVar, ↓wp_oE, ↓wp_mFrz, ↓wp_mRV, ↓wp_m1, ↓wp_m2, ↓wp_mB, ↓wp_mChain, ↓wp_mAnd, ↓wp_mOr, ↓wp_mNot, ↓wp_mTru, ↓wp_mIf, ↓wp_mAndV, ↓wp_mOrV, ↓wp_mNotV, ↓wp_aNil, ↓wp_aCons, ↓wp_qNil, ↓wp_qCons, ↓wp_mA, ↓wp_mTup, ↓wp_mLst, ↓wp_mIsi, ↓wp_mPart, ↓wp_mSlice, ↓wp_mRg1, ↓wp_mRg2, ↓wp_mRgL, ↓wp_iRg, ↓wp_iLst, ↓wp_mApp, ↓wp_mSeq, ↓wp_mExpr, ↓wp_mRet, ↓wp_mSet, ↓wp_mAsg, ↓wp_mgName, ↓wp_mgNil, ↓wp_mgCons, ↓wp_mgTup, ↓wp_mgSub, ↓wp_mAug, ↓wp_mAugS, ↓wp_mFor, ↓wp_mLc, ↓wp_mCall, ↓wp_mFn, ↓wp_mCallL, tab1_self, ↓wp_mAlloc, ↓wp_mNew, ↓wp_mDGet, ↓wp_mDIn, ↓wp_mDPut, ↓wp_mListK, ↓wp_mPopAt, ↓wp_mScIx, ↓wp_mScLen, ↓wp_mScSlice, Op.get, rs, RV.toD, stV, setW, gets, f1, fII, fAdd, fSub, fMul, fDiv, fMod, fLt, fLe, fGt, fGe, fNeg, asB, truD, isN, fIsN, fNotN, lenD, absD, PD.intD, max2D, min2D, min3D, listD, tupleD, ixD, isiD, PD.listAt, putAtL, Option.map_some, List.getElem?_cons_zero, List.getElem?_cons_succ, List.set_cons_zero, List.set_cons_succ, List.map_cons, List.map_nil, List.replicate_succ, List.replicate_zero, List.cons_append, List.nil_append, List.append_nil, List.length_cons, List.length_nil, List.length_map, if_true, if_false, Bool.not_true, Bool.not_false, Bool.false_eq_true, decide_true, decide_false, decide_eq_true_eq, and_true, true_and, and_self, reduceIte, Nat.reduceAdd, Nat.reduceSub, Nat.reduceLeDiff, Nat.reduceLT, Nat.reduceEqDiff, Int.reduceLT, Int.reduceLE, Option.isSome_some, Option.isSome_none, Bool.not_eq_true', Bool.if_true_left, hj, dget_t hj, e]
      have := hq kvs T
      rw [set_same hj] at this
      exact this
end
end K73

set_option maxHeartbeats 1000000
namespace K73
open PySem PySem.Spec PyProof.Rows L2 PD
section
variable {p : List Int} {l c h m : Int} {sto : List O} {Q : D → Wd → Prop} {j : Nat} {rows : List (Int × Int)}
def encD (rows : List (Int × Int)) : List (Key × D) := rows.map fun r => (.inl r.1, .int r.2)
def encS (s : Int × Int × Int) : D := .tup [.int s.1, .int s.2.1, .int s.2.2]
def encR (r : Int × Int) : D := .tup [.int r.1, .int r.2]
theorem valD_encD : ∀ {rows : List (Int × Int)} {c : Int}, c ∈ rows.map (·.1) → valD (encD rows) (.inl c : Key) = some (.int (lookR rows c))
  | [], _, h => by cases h
  | r :: rows, c, h => by
    show (if (Sum.inl r.1 : Key) = .inl c then some (D.int r.2) else valD (encD rows) (.inl c)) = some (.int (if r.1 = c then r.2 else lookR rows c))
    by_cases e : r.1 = c
    · rw [if_pos (by rw [e]), if_pos e]
    · rw [if_neg (fun q => e (Sum.inl.inj q)), if_neg e]
      rw [List.map_cons] at h
      rcases List.mem_cons.mp h with q | q
      · exact absurd q.symm e
      · exact valD_encD q
theorem valD_encD_none : ∀ {rows : List (Int × Int)} {c : Int}, c ∉ rows.map (·.1) → valD (encD rows) (.inl c : Key) = none
  | [], _, _ => rfl
  | r :: rows, c, h => by
    show (if (Sum.inl r.1 : Key) = .inl c then some (D.int r.2) else valD (encD rows) (.inl c)) = none
    rw [List.map_cons, List.mem_cons] at h
    rw [if_neg (fun q => h (.inl (Sum.inl.inj q).symm))]
    exact valD_encD_none fun q => h (.inr q)
theorem dget_k {kvs : List (Key × D)} (hj : sto[j]? = some (.dk kvs)) (c : Int) : dget sto (.o j) (.int c) = some (valD kvs (.inl c)) := by
  unfold dget
  dsimp only
  rw [hj]
  dsimp only [keyD]
theorem dput_k {kvs : List (Key × D)} (hj : sto[j]? = some (.dk kvs)) (hl : kvs.length < 16777216) (c : Int) (x : D) : dput sto (.o j) (.int c) x = some (sto.set j (.dk (putDk kvs (.inl c) x))) := by
  unfold dput
  dsimp only
  rw [hj]
  dsimp only [keyD]
  rw [if_pos hl]
theorem keys_out (rows : List (Int × Int)) : (encD rows).map (fun kv => keyOut kv.1) = (rows.map (·.1)).map D.int := by
  unfold encD; rw [List.map_map, List.map_map]; rfl
theorem sortedD_map (ns : List Int) : sortedD (DI ns) = some (.l ((isort ns).map D.int)) := by
  unfold sortedD onInts DI; dsimp only; rw [intsD_map]
theorem wp_along (hj : sto[j]? = some (.dk (encD rows))) (hl : rows.length ≤ 1000)
    (hq : Q (.lst ((strh p m rows).map encS)) ⟨[], sto⟩) : wp (m_stretches_along [DI p, .int m, .o j]) ⟨[], sto⟩ Q := by
  have pe : ∀ x, x ∈ isort (rows.map (·.1)) ↔ x ∈ rows.map (·.1) := fun x => (isort_perm _).mem_iff
  have pl : (isort (rows.map (·.1))).length = rows.length := by rw [(isort_perm _).length_eq, List.length_map]
  unfold m_stretches_along
  simp only [↓wp_bnd, ↓wp_pure, ↓wp_mVar, ↓wp_oVar, ↓wp_oE, ↓wp_mFrz, ↓wp_mRV, ↓wp_m1, ↓wp_m2, ↓wp_mB, ↓wp_mChain, ↓wp_mAnd, ↓wp_mOr, ↓wp_mNot, ↓wp_mTru, ↓wp_mIf, ↓wp_mAndV, ↓wp_mOrV, ↓wp_mNotV, ↓wp_aNil, ↓wp_aCons, ↓wp_qNil, ↓wp_qCons, ↓wp_mA, ↓wp_mTup, ↓wp_mLst, ↓wp_mIsi, ↓wp_mPart, ↓wp_mSlice, ↓wp_mRg1, ↓wp_mRg2, ↓wp_mRgL, ↓wp_iRg, ↓wp_iLst, ↓wp_mApp, ↓wp_mSeq, ↓wp_mExpr, ↓wp_mRet, ↓wp_mSet, ↓wp_mAsg, ↓wp_mgName, ↓wp_mgNil, ↓wp_mgCons, ↓wp_mgTup, ↓wp_mgSub, ↓wp_mAug, ↓wp_mAugS, ↓wp_mFor, ↓wp_mLc, ↓wp_mCall, ↓wp_mFn, ↓wp_mCallL, tab1_self, ↓wp_mAlloc, ↓wp_mNew, ↓wp_mDGet, ↓wp_mDIn, ↓wp_mDPut, ↓wp_mListK, ↓wp_mPopAt, ↓wp_mScIx, ↓wp_mScLen, ↓wp_mScSlice, Op.get, rs, RV.toD, stV, setW, gets, f1, fII, fAdd, fSub, fMul, fDiv, fMod, fLt, fLe, fGt, fGe, fNeg, asB, truD, isN, fIsN, fNotN, lenD, absD, PD.intD, max2D, min2D, min3D, listD, tupleD, ixD, isiD, PD.listAt, putAtL, Option.map_some, List.getElem?_cons_zero, List.getElem?_cons_succ, List.set_cons_zero, List.set_cons_succ, List.map_cons, List.map_nil, List.replicate_succ, List.replicate_zero, List.cons_append, List.nil_append, List.append_nil, List.length_cons, List.length_nil, List.length_map, if_true, if_false, Bool.not_true, Bool.not_false, Bool.false_eq_true, decide_true, decide_false, decide_eq_true_eq, and_true, true_and, and_self, reduceIte, Nat.reduceAdd, Nat.reduceSub, Nat.reduceLeDiff, Nat.reduceLT, Nat.reduceEqDiff, Int.reduceLT, Int.reduceLE, Option.isSome_some, Option.isSome_none, Bool.not_eq_true', Bool.if_true_left, hj, keys_out, sortedD_map]
  refine wp_for (fun i w => ∃ F low known x, F.length = i ∧ F ++ (strG p m rows low known ((isort (rows.map (·.1))).drop i)).map encS = (strh p m rows).map encS ∧ w = ⟨[SV.d (DI p), SV.d (D.int m), SV.d (D.o j), SV.own F, SV.d (D.int low), SV.d (D.int known), x], sto⟩) ?_ ?_ ?_
  · exact ⟨[], 0, 0, SV.un, rfl, by rw [List.drop_zero, List.nil_append]; rfl, rfl⟩
  · rintro i d w hd ⟨F, low, known, x, hF, e, rfl⟩
    rw [List.getElem?_map] at hd
    cases hc : (isort (rows.map (·.1)))[i]? with
    | none => rw [hc] at hd; cases hd
    | some c =>
      rw [hc] at hd
      cases hd
      have hi : i < (isort (rows.map (·.1))).length := by
        apply Classical.byContradiction
        intro z
        rw [List.getElem?_eq_none (by omega)] at hc
        cases hc
      have hm := valD_encD ((pe c).mp (List.mem_of_getElem? hc))
      simp only [↓wp_bnd, ↓wp_pure, ↓wp_mVar, ↓wp_oVar, ↓wp_oE, ↓wp_mFrz, ↓wp_mRV, ↓wp_m1, ↓wp_m2, ↓wp_mB, ↓wp_mChain, ↓wp_mAnd, ↓wp_mOr, ↓wp_mNot, ↓wp_mTru, ↓wp_mIf, ↓wp_mAndV, ↓wp_mOrV, ↓wp_mNotV, ↓wp_aNil, ↓wp_aCons, ↓wp_qNil, ↓wp_qCons, ↓wp_mA, ↓wp_mTup, ↓wp_mLst, ↓wp_mIsi, ↓wp_mPart, ↓wp_mSlice, ↓wp_mRg1, ↓wp_mRg2, ↓wp_mRgL, ↓wp_iRg, ↓wp_iLst, ↓wp_mApp, ↓wp_mSeq, ↓wp_mExpr, ↓wp_mRet, ↓wp_mSet, ↓wp_mAsg, ↓wp_mgName, ↓wp_mgNil, ↓wp_mgCons, ↓wp_mgTup, ↓wp_mgSub, ↓wp_mAug, ↓wp_mAugS, ↓wp_mFor, ↓wp_mLc, ↓wp_mCall, ↓wp_mFn, ↓wp_mCallL, tab1_self, ↓wp_mAlloc, ↓wp_mNew, ↓wp_mDGet, ↓wp_mDIn, ↓wp_mDPut, ↓wp_mListK, ↓wp_mPopAt, ↓wp_mScIx, ↓wp_mScLen, ↓wp_mScSlice, Op.get, rs, RV.toD, stV, setW, gets, f1, fII, fAdd, fSub, fMul, fDiv, fMod, fLt, fLe, fGt, fGe, fNeg, asB, truD, isN, fIsN, fNotN, lenD, absD, PD.intD, max2D, min2D, min3D, listD, tupleD, ixD, isiD, PD.listAt, putAtL, Option.map_some, List.getElem?_cons_zero, List.getElem?_cons_succ, List.set_cons_zero, List.set_cons_succ, List.map_cons, List.map_nil, List.replicate_succ, List.replicate_zero, List.cons_append, List.nil_append, List.append_nil, List.length_cons, List.length_nil, List.length_map, if_true, if_false, Bool.not_true, Bool.not_false, Bool.false_eq_true, decide_true, decide_false, decide_eq_true_eq, and_true, true_and, and_self, reduceIte, Nat.reduceAdd, Nat.reduceSub, Nat.reduceLeDiff, Nat.reduceLT, Nat.reduceEqDiff, Int.reduceLT, Int.reduceLE, Option.isSome_some, Option.isSome_none, Bool.not_eq_true', Bool.if_true_left, hj, dget_k hj, hm]
      refine ⟨by omega, F ++ [encS (low, c, lookR rows c - known)], c, lookR rows c, _, by rw [List.length_append, hF]; rfl, ?_, rfl⟩
      rw [← e, List.append_assoc]
      congr 1
      have e2 : (isort (rows.map (·.1)))[i] = c := by
        have := List.getElem?_eq_getElem hi
        rw [this] at hc
        exact Option.some.inj hc
      rw [List.drop_eq_getElem_cons hi, e2]
      rfl
  · rintro w ⟨F, low, known, x, hF, e, rfl⟩
    rw [List.length_map] at hF
    rw [List.length_map, List.drop_length] at e
    simp only [↓wp_bnd, ↓wp_pure, ↓wp_mVar, ↓wp_oVar, ↓wp_oE, ↓wp_mFrz, ↓wp_mRV, ↓wp_m1, ↓wp_m2, ↓wp_mB, ↓wp_mChain, ↓wp_mAnd, ↓wp_mOr, ↓wp_mNot, ↓wp_mTru, ↓wp_mIf, ↓wp_mAndV, ↓wp_mOrV, ↓wp_mNotV, ↓wp_aNil, ↓wp_aCons, ↓wp_qNil, ↓wp_qCons, ↓wp_mA, ↓wp_mTup, ↓wp_mLst, ↓wp_mIsi, ↓wp_mPart, ↓wp_mSlice, ↓wp_mRg1, ↓wp_mRg2, ↓wp_mRgL, ↓wp_iRg, ↓wp_iLst, ↓wp_mApp, ↓wp_mSeq, ↓wp_mExpr, ↓wp_mRet, ↓wp_mSet, ↓wp_mAsg, ↓wp_mgName, ↓wp_mgNil, ↓wp_mgCons, ↓wp_mgTup, ↓wp_mgSub, ↓wp_mAug, ↓wp_mAugS, ↓wp_mFor, ↓wp_mLc, ↓wp_mCall, ↓wp_mFn, ↓wp_mCallL, tab1_self, ↓wp_mAlloc, ↓wp_mNew, ↓wp_mDGet, ↓wp_mDIn, ↓wp_mDPut, ↓wp_mListK, ↓wp_mPopAt, ↓wp_mScIx, ↓wp_mScLen, ↓wp_mScSlice, Op.get, rs, RV.toD, stV, setW, gets, f1, fII, fAdd, fSub, fMul, fDiv, fMod, fLt, fLe, fGt, fGe, fNeg, asB, truD, isN, fIsN, fNotN, lenD, absD, PD.intD, max2D, min2D, min3D, listD, tupleD, ixD, isiD, PD.listAt, putAtL, Option.map_some, List.getElem?_cons_zero, List.getElem?_cons_succ, List.set_cons_zero, List.set_cons_succ, List.map_cons, List.map_nil, List.replicate_succ, List.replicate_zero, List.cons_append, List.nil_append, List.append_nil, List.length_cons, List.length_nil, List.length_map, if_true, if_false, Bool.not_true, Bool.not_false, Bool.false_eq_true, decide_true, decide_false, decide_eq_true_eq, and_true, true_and, and_self, reduceIte, Nat.reduceAdd, Nat.reduceSub, Nat.reduceLeDiff, Nat.reduceLT, Nat.reduceEqDiff, Int.reduceLT, Int.reduceLE, Option.isSome_some, Option.isSome_none, Bool.not_eq_true', Bool.if_true_left]
    refine ⟨by omega, ?_⟩
    have e3 : F ++ [D.tup [D.int low, D.int (p.length : Int), D.int (m - known)]] = (strh p m rows).map encS := e
    rw [e3]
    exact hq
theorem wp_table (nd : (rows.map (·.1)).Nodup) (hl : rows.length ≤ 1000) (hq : Q (.o sto.length) ⟨[], sto ++ [.dk (encD rows)]⟩) : wp (m_opened_table [.lst (rows.map encR)]) ⟨[], sto⟩ Q := by
  unfold m_opened_table
  simp only [↓wp_bnd, ↓wp_pure, ↓wp_mVar, ↓wp_oVar, ↓wp_oE, ↓wp_mFrz, ↓wp_mRV, ↓wp_m1, ↓wp_m2, ↓wp_mB, ↓wp_mChain, ↓wp_mAnd, ↓wp_mOr, ↓wp_mNot, ↓wp_mTru, ↓wp_mIf, ↓wp_mAndV, ↓wp_mOrV, ↓wp_mNotV, ↓wp_aNil, ↓wp_aCons, ↓wp_qNil, ↓wp_qCons, ↓wp_mA, ↓wp_mTup, ↓wp_mLst, ↓wp_mIsi, ↓wp_mPart, ↓wp_mSlice, ↓wp_mRg1, ↓wp_mRg2, ↓wp_mRgL, ↓wp_iRg, ↓wp_iLst, ↓wp_mApp, ↓wp_mSeq, ↓wp_mExpr, ↓wp_mRet, ↓wp_mSet, ↓wp_mAsg, ↓wp_mgName, ↓wp_mgNil, ↓wp_mgCons, ↓wp_mgTup, ↓wp_mgSub, ↓wp_mAug, ↓wp_mAugS, ↓wp_mFor, ↓wp_mLc, ↓wp_mCall, ↓wp_mFn, ↓wp_mCallL, tab1_self, ↓wp_mAlloc, ↓wp_mNew, ↓wp_mDGet, ↓wp_mDIn, ↓wp_mDPut, ↓wp_mListK, ↓wp_mPopAt, ↓wp_mScIx, ↓wp_mScLen, ↓wp_mScSlice, Op.get, rs, RV.toD, stV, setW, gets, f1, fII, fAdd, fSub, fMul, fDiv, fMod, fLt, fLe, fGt, fGe, fNeg, asB, truD, isN, fIsN, fNotN, lenD, absD, PD.intD, max2D, min2D, min3D, listD, tupleD, ixD, isiD, PD.listAt, putAtL, Option.map_some, List.getElem?_cons_zero, List.getElem?_cons_succ, List.set_cons_zero, List.set_cons_succ, List.map_cons, List.map_nil, List.replicate_succ, List.replicate_zero, List.cons_append, List.nil_append, List.append_nil, List.length_cons, List.length_nil, List.length_map, if_true, if_false, Bool.not_true, Bool.not_false, Bool.false_eq_true, decide_true, decide_false, decide_eq_true_eq, and_true, true_and, and_self, reduceIte, Nat.reduceAdd, Nat.reduceSub, Nat.reduceLeDiff, Nat.reduceLT, Nat.reduceEqDiff, Int.reduceLT, Int.reduceLE, Option.isSome_some, Option.isSome_none, Bool.not_eq_true', Bool.if_true_left]
  refine wp_for (fun i w => ∃ x y, w = ⟨[SV.d (.lst (rows.map encR)), SV.d (D.o sto.length), x, y], sto ++ [.dk (encD (rows.take i))]⟩) ?_ ?_ ?_
  · exact ⟨_, _, rfl⟩
  · rintro i d w hd ⟨x, y, rfl⟩
    rw [List.getElem?_map] at hd
    cases hc : rows[i]? with
    | none => rw [hc] at hd; cases hd
    | some r =>
      rw [hc] at hd
      cases hd
      have hg : (sto ++ [O.dk (encD (rows.take i))])[sto.length]? = some (.dk (encD (rows.take i))) := by
        rw [List.getElem?_append_right (Nat.le_refl _), Nat.sub_self]; rfl
      have hn : valD (encD (rows.take i)) (.inl r.1 : Key) = none := by
        refine valD_encD_none fun q => ?_
        obtain ⟨r', h1, h2⟩ := List.mem_map.mp q
        obtain ⟨i', hi', e'⟩ := List.getElem_of_mem h1
        rw [List.length_take] at hi'
        rw [List.getElem_take] at e'
        have hi : i < rows.length := by
          apply Classical.byContradiction
          intro z
          rw [List.getElem?_eq_none (by omega)] at hc
          cases hc
        have := (List.pairwise_iff_getElem.mp nd) i' i (by rw [List.length_map]; omega) (by rw [List.length_map]; exact hi) (by omega)
        apply this
        rw [List.getElem_map, List.getElem_map, e', h2]
        rw [List.getElem?_eq_getElem hi] at hc
        rw [Option.some.inj hc]
      simp only [↓wp_bnd, ↓wp_pure, ↓wp_mVar, ↓wp_oVar, ↓wp_oE, ↓wp_mFrz, ↓wp_mRV, ↓wp_m1, ↓wp_m2, ↓wp_mB, ↓wp_mChain, ↓wp_mAnd, ↓wp_mOr, ↓wp_mNot, ↓wp_mTru, ↓wp_mIf, ↓wp_mAndV, ↓wp_mOrV, ↓wp_mNotV, ↓wp_aNil, ↓wp_aCons, ↓wp_qNil, ↓wp_qCons, ↓wp_mA, ↓wp_mTup, ↓wp_mLst, ↓wp_mIsi, ↓wp_mPart, ↓wp_mSlice, ↓wp_mRg1, ↓wp_mRg2, ↓wp_mRgL, ↓wp_iRg, ↓wp_iLst, ↓wp_mApp, ↓wp_mSeq, ↓wp_mExpr, ↓wp_mRet, ↓wp_mSet, ↓wp_mAsg, ↓wp_mgName, ↓wp_mgNil, ↓wp_mgCons, ↓wp_mgTup, ↓wp_mgSub, ↓wp_mAug, ↓wp_mAugS, ↓wp_mFor, ↓wp_mLc, ↓wp_mCall, ↓wp_mFn, ↓wp_mCallL, tab1_self, ↓wp_mAlloc, ↓wp_mNew, ↓wp_mDGet, ↓wp_mDIn, ↓wp_mDPut, ↓wp_mListK, ↓wp_mPopAt, ↓wp_mScIx, ↓wp_mScLen, ↓wp_mScSlice, Op.get, rs, RV.toD, stV, setW, gets, f1, fII, fAdd, fSub, fMul, fDiv, fMod, fLt, fLe, fGt, fGe, fNeg, asB, truD, isN, fIsN, fNotN, lenD, absD, PD.intD, max2D, min2D, min3D, listD, tupleD, ixD, isiD, PD.listAt, putAtL, Option.map_some, List.getElem?_cons_zero, List.getElem?_cons_succ, List.set_cons_zero, List.set_cons_succ, List.map_cons, List.map_nil, List.replicate_succ, List.replicate_zero, List.cons_append, List.nil_append, List.append_nil, List.length_cons, List.length_nil, List.length_map, if_true, if_false, Bool.not_true, Bool.not_false, Bool.false_eq_true, decide_true, decide_false, decide_eq_true_eq, and_true, true_and, and_self, reduceIte, Nat.reduceAdd, Nat.reduceSub, Nat.reduceLeDiff, Nat.reduceLT, Nat.reduceEqDiff, Int.reduceLT, Int.reduceLE, Option.isSome_some, Option.isSome_none, Bool.not_eq_true', Bool.if_true_left, encR, hg, dput_k hg (by unfold encD; rw [List.length_map, List.length_take]; omega)]
      refine ⟨SV.d (.int r.1), SV.d (.int r.2), ?_⟩
      congr 1
      rw [List.set_append_right _ _ (Nat.le_refl _), Nat.sub_self]
      show sto ++ [O.dk (putDk (encD (rows.take i)) (.inl r.1) (.int r.2))] = _
      congr 2
      unfold putDk
      rw [hn]
      unfold encD
      rw [take_snoc hc, List.map_append]
      rfl
  · rintro w ⟨x, y, rfl⟩
    simp only [↓wp_bnd, ↓wp_pure, ↓wp_mVar, ↓wp_oVar, ↓wp_oE, ↓wp_mFrz, ↓wp_mRV, ↓wp_m1, ↓wp_m2, ↓wp_mB, ↓wp_mChain, ↓wp_mAnd, ↓wp_mOr, ↓wp_mNot, ↓wp_mTru, ↓wp_mIf, ↓wp_mAndV, ↓wp_mOrV, ↓wp_mNotV, ↓wp_aNil, ↓wp_aCons, ↓wp_qNil, ↓wp_qCons, ↓wp_mA, ↓wp_mTup, ↓wp_mLst, ↓wp_mIsi, ↓wp_mPart, ↓wp_mSlice, ↓wp_mRg1, ↓wp_mRg2, ↓wp_mRgL, ↓wp_iRg, ↓wp_iLst, ↓wp_mApp, ↓wp_mSeq, ↓wp_mExpr, ↓wp_mRet, ↓wp_mSet, ↓wp_mAsg, ↓wp_mgName, ↓wp_mgNil, ↓wp_mgCons, ↓wp_mgTup, ↓wp_mgSub, ↓wp_mAug, ↓wp_mAugS, ↓wp_mFor, ↓wp_mLc, ↓wp_mCall, ↓wp_mFn, ↓wp_mCallL, tab1_self, ↓wp_mAlloc, ↓wp_mNew, ↓wp_mDGet, ↓wp_mDIn, ↓wp_mDPut, ↓wp_mListK, ↓wp_mPopAt, ↓wp_mScIx, ↓wp_mScLen, ↓wp_mScSlice, Op.get, rs, RV.toD, stV, setW, gets, f1, fII, fAdd, fSub, fMul, fDiv, fMod, fLt, fLe, fGt, fGe, fNeg, asB, truD, isN, fIsN, fNotN, lenD, absD, PD.intD, max2D, min2D, min3D, listD, tupleD, ixD, isiD, PD.listAt, putAtL, Option.map_some, List.getElem?_cons_zero, List.getElem?_cons_succ, List.set_cons_zero, List.set_cons_succ, List.map_cons, List.map_nil, List.replicate_succ, List.replicate_zero, List.cons_append, List.nil_append, List.append_nil, List.length_cons, List.length_nil, List.length_map, if_true, if_false, Bool.not_true, Bool.not_false, Bool.false_eq_true, decide_true, decide_false, decide_eq_true_eq, and_true, true_and, and_self, reduceIte, Nat.reduceAdd, Nat.reduceSub, Nat.reduceLeDiff, Nat.reduceLT, Nat.reduceEqDiff, Int.reduceLT, Int.reduceLE, Option.isSome_some, Option.isSome_none, Bool.not_eq_true', Bool.if_true_left]
    rw [List.take_length]
    exact hq
theorem wp_short (hj : sto[j]? = some (.dk (encD rows))) (hl : rows.length ≤ 1000)
    (hq : Q (.lst ((short p m rows).map encS)) ⟨[], sto⟩) : wp (m_short_stretches [DI p, .int m, .o j]) ⟨[], sto⟩ Q := by
  have sl' : (strh p m rows).length ≤ 1001 := by
    have : ∀ (L : List Int) (a b : Int), (strG p m rows a b L).length = L.length + 1 := by
      intro L
      induction L with
      | nil => intro a b; rfl
      | cons x L ih => intro a b; unfold strG; rw [List.length_cons, ih, List.length_cons]
    unfold strh
    rw [this, (isort_perm _).length_eq, List.length_map]
    omega
  unfold m_short_stretches
  simp only [↓wp_bnd, ↓wp_pure, ↓wp_mVar, ↓wp_oVar, ↓wp_oE, ↓wp_mFrz, ↓wp_mRV, ↓wp_m1, ↓wp_m2, ↓wp_mB, ↓wp_mChain, ↓wp_mAnd, ↓wp_mOr, ↓wp_mNot, ↓wp_mTru, ↓wp_mIf, ↓wp_mAndV, ↓wp_mOrV, ↓wp_mNotV, ↓wp_aNil, ↓wp_aCons, ↓wp_qNil, ↓wp_qCons, ↓wp_mA, ↓wp_mTup, ↓wp_mLst, ↓wp_mIsi, ↓wp_mPart, ↓wp_mSlice, ↓wp_mRg1, ↓wp_mRg2, ↓wp_mRgL, ↓wp_iRg, ↓wp_iLst, ↓wp_mApp, ↓wp_mSeq, ↓wp_mExpr, ↓wp_mRet, ↓wp_mSet, ↓wp_mAsg, ↓wp_mgName, ↓wp_mgNil, ↓wp_mgCons, ↓wp_mgTup, ↓wp_mgSub, ↓wp_mAug, ↓wp_mAugS, ↓wp_mFor, ↓wp_mLc, ↓wp_mCall, ↓wp_mFn, ↓wp_mCallL, tab1_self, ↓wp_mAlloc, ↓wp_mNew, ↓wp_mDGet, ↓wp_mDIn, ↓wp_mDPut, ↓wp_mListK, ↓wp_mPopAt, ↓wp_mScIx, ↓wp_mScLen, ↓wp_mScSlice, Op.get, rs, RV.toD, stV, setW, gets, f1, fII, fAdd, fSub, fMul, fDiv, fMod, fLt, fLe, fGt, fGe, fNeg, asB, truD, isN, fIsN, fNotN, lenD, absD, PD.intD, max2D, min2D, min3D, listD, tupleD, ixD, isiD, PD.listAt, putAtL, Option.map_some, List.getElem?_cons_zero, List.getElem?_cons_succ, List.set_cons_zero, List.set_cons_succ, List.map_cons, List.map_nil, List.replicate_succ, List.replicate_zero, List.cons_append, List.nil_append, List.append_nil, List.length_cons, List.length_nil, List.length_map, if_true, if_false, Bool.not_true, Bool.not_false, Bool.false_eq_true, decide_true, decide_false, decide_eq_true_eq, and_true, true_and, and_self, reduceIte, Nat.reduceAdd, Nat.reduceSub, Nat.reduceLeDiff, Nat.reduceLT, Nat.reduceEqDiff, Int.reduceLT, Int.reduceLE, Option.isSome_some, Option.isSome_none, Bool.not_eq_true', Bool.if_true_left]
  refine wp_along hj hl ?_
  simp only [↓wp_bnd, ↓wp_pure, ↓wp_mVar, ↓wp_oVar, ↓wp_oE, ↓wp_mFrz, ↓wp_mRV, ↓wp_m1, ↓wp_m2, ↓wp_mB, ↓wp_mChain, ↓wp_mAnd, ↓wp_mOr, ↓wp_mNot, ↓wp_mTru, ↓wp_mIf, ↓wp_mAndV, ↓wp_mOrV, ↓wp_mNotV, ↓wp_aNil, ↓wp_aCons, ↓wp_qNil, ↓wp_qCons, ↓wp_mA, ↓wp_mTup, ↓wp_mLst, ↓wp_mIsi, ↓wp_mPart, ↓wp_mSlice, ↓wp_mRg1, ↓wp_mRg2, ↓wp_mRgL, ↓wp_iRg, ↓wp_iLst, ↓wp_mApp, ↓wp_mSeq, ↓wp_mExpr, ↓wp_mRet, ↓wp_mSet, ↓wp_mAsg, ↓wp_mgName, ↓wp_mgNil, ↓wp_mgCons, ↓wp_mgTup, ↓wp_mgSub, ↓wp_mAug, ↓wp_mAugS, ↓wp_mFor, ↓wp_mLc, ↓wp_mCall, ↓wp_mFn, ↓wp_mCallL, tab1_self, ↓wp_mAlloc, ↓wp_mNew, ↓wp_mDGet, ↓wp_mDIn, ↓wp_mDPut, ↓wp_mListK, ↓wp_mPopAt, ↓wp_mScIx, ↓wp_mScLen, ↓wp_mScSlice, Op.get, rs, RV.toD, stV, setW, gets, f1, fII, fAdd, fSub, fMul, fDiv, fMod, fLt, fLe, fGt, fGe, fNeg, asB, truD, isN, fIsN, fNotN, lenD, absD, PD.intD, max2D, min2D, min3D, listD, tupleD, ixD, isiD, PD.listAt, putAtL, Option.map_some, List.getElem?_cons_zero, List.getElem?_cons_succ, List.set_cons_zero, List.set_cons_succ, List.map_cons, List.map_nil, List.replicate_succ, List.replicate_zero, List.cons_append, List.nil_append, List.append_nil, List.length_cons, List.length_nil, List.length_map, if_true, if_false, Bool.not_true, Bool.not_false, Bool.false_eq_true, decide_true, decide_false, decide_eq_true_eq, and_true, true_and, and_self, reduceIte, Nat.reduceAdd, Nat.reduceSub, Nat.reduceLeDiff, Nat.reduceLT, Nat.reduceEqDiff, Int.reduceLT, Int.reduceLE, Option.isSome_some, Option.isSome_none, Bool.not_eq_true', Bool.if_true_left]
  refine wp_lcE (E0 := [SV.d (DI p), SV.d (D.int m), SV.d (D.o j), SV.un]) (st := sto) (fun d => match d with | .tup [_, _, .int x] => decide (0 < x) | _ => false) id rfl rfl ?_ (fun d hd => ?_) fun w2 h1 h2 => ?_
  · rw [List.length_nil, List.length_map]; omega
  · obtain ⟨s, _, rfl⟩ := List.mem_map.mp hd
    by_cases hs : 0 < s.2.2
    · simp only [↓wp_bnd, ↓wp_pure, ↓wp_mVar, ↓wp_oVar, ↓wp_oE, ↓wp_mFrz, ↓wp_mRV, ↓wp_m1, ↓wp_m2, ↓wp_mB, ↓wp_mChain, ↓wp_mAnd, ↓wp_mOr, ↓wp_mNot, ↓wp_mTru, ↓wp_mIf, ↓wp_mAndV, ↓wp_mOrV, ↓wp_mNotV, ↓wp_aNil, ↓wp_aCons, ↓wp_qNil, ↓wp_qCons, ↓wp_mA, ↓wp_mTup, ↓wp_mLst, ↓wp_mIsi, ↓wp_mPart, ↓wp_mSlice, ↓wp_mRg1, ↓wp_mRg2, ↓wp_mRgL, ↓wp_iRg, ↓wp_iLst, ↓wp_mApp, ↓wp_mSeq, ↓wp_mExpr, ↓wp_mRet, ↓wp_mSet, ↓wp_mAsg, ↓wp_mgName, ↓wp_mgNil, ↓wp_mgCons, ↓wp_mgTup, ↓wp_mgSub, ↓wp_mAug, ↓wp_mAugS, ↓wp_mFor, ↓wp_mLc, ↓wp_mCall, ↓wp_mFn, ↓wp_mCallL, tab1_self, ↓wp_mAlloc, ↓wp_mNew, ↓wp_mDGet, ↓wp_mDIn, ↓wp_mDPut, ↓wp_mListK, ↓wp_mPopAt, ↓wp_mScIx, ↓wp_mScLen, ↓wp_mScSlice, Op.get, rs, RV.toD, stV, setW, gets, f1, fII, fAdd, fSub, fMul, fDiv, fMod, fLt, fLe, fGt, fGe, fNeg, asB, truD, isN, fIsN, fNotN, lenD, absD, PD.intD, max2D, min2D, min3D, listD, tupleD, ixD, isiD, PD.listAt, putAtL, Option.map_some, List.getElem?_cons_zero, List.getElem?_cons_succ, List.set_cons_zero, List.set_cons_succ, List.map_cons, List.map_nil, List.replicate_succ, List.replicate_zero, List.cons_append, List.nil_append, List.append_nil, List.length_cons, List.length_nil, List.length_map, if_true, if_false, Bool.not_true, Bool.not_false, Bool.false_eq_true, decide_true, decide_false, decide_eq_true_eq, and_true, true_and, and_self, reduceIte, Nat.reduceAdd, Nat.reduceSub, Nat.reduceLeDiff, Nat.reduceLT, Nat.reduceEqDiff, Int.reduceLT, Int.reduceLE, Option.isSome_some, Option.isSome_none, Bool.not_eq_true', Bool.if_true_left, encS, at32, hs]
      exact ⟨rfl, rfl⟩
    · simp only [↓wp_bnd, ↓wp_pure, ↓wp_mVar, ↓wp_oVar, ↓wp_oE, ↓wp_mFrz, ↓wp_mRV, ↓wp_m1, ↓wp_m2, ↓wp_mB, ↓wp_mChain, ↓wp_mAnd, ↓wp_mOr, ↓wp_mNot, ↓wp_mTru, ↓wp_mIf, ↓wp_mAndV, ↓wp_mOrV, ↓wp_mNotV, ↓wp_aNil, ↓wp_aCons, ↓wp_qNil, ↓wp_qCons, ↓wp_mA, ↓wp_mTup, ↓wp_mLst, ↓wp_mIsi, ↓wp_mPart, ↓wp_mSlice, ↓wp_mRg1, ↓wp_mRg2, ↓wp_mRgL, ↓wp_iRg, ↓wp_iLst, ↓wp_mApp, ↓wp_mSeq, ↓wp_mExpr, ↓wp_mRet, ↓wp_mSet, ↓wp_mAsg, ↓wp_mgName, ↓wp_mgNil, ↓wp_mgCons, ↓wp_mgTup, ↓wp_mgSub, ↓wp_mAug, ↓wp_mAugS, ↓wp_mFor, ↓wp_mLc, ↓wp_mCall, ↓wp_mFn, ↓wp_mCallL, tab1_self, ↓wp_mAlloc, ↓wp_mNew, ↓wp_mDGet, ↓wp_mDIn, ↓wp_mDPut, ↓wp_mListK, ↓wp_mPopAt, ↓wp_mScIx, ↓wp_mScLen, ↓wp_mScSlice, Op.get, rs, RV.toD, stV, setW, gets, f1, fII, fAdd, fSub, fMul, fDiv, fMod, fLt, fLe, fGt, fGe, fNeg, asB, truD, isN, fIsN, fNotN, lenD, absD, PD.intD, max2D, min2D, min3D, listD, tupleD, ixD, isiD, PD.listAt, putAtL, Option.map_some, List.getElem?_cons_zero, List.getElem?_cons_succ, List.set_cons_zero, List.set_cons_succ, List.map_cons, List.map_nil, List.replicate_succ, List.replicate_zero, List.cons_append, List.nil_append, List.append_nil, List.length_cons, List.length_nil, List.length_map, if_true, if_false, Bool.not_true, Bool.not_false, Bool.false_eq_true, decide_true, decide_false, decide_eq_true_eq, and_true, true_and, and_self, reduceIte, Nat.reduceAdd, Nat.reduceSub, Nat.reduceLeDiff, Nat.reduceLT, Nat.reduceEqDiff, Int.reduceLT, Int.reduceLE, Option.isSome_some, Option.isSome_none, Bool.not_eq_true', Bool.if_true_left, encS, at32, hs]
      rfl
  · have : (List.filter (fun d => match d with | .tup [_, _, .int x] => decide (0 < x) | _ => false) ((strh p m rows).map encS)).map id = (short p m rows).map encS := by
      rw [List.map_id, List.filter_map]
      rfl
    rw [List.nil_append, this, h2]
    exact hq
theorem wp_opens (hq : Q (.tup [DI p, .int m, .lst []]) ⟨[], sto⟩) : wp (m_opener_opens [DI p, .int m]) ⟨[], sto⟩ Q := by
  unfold m_opener_opens
  simp only [↓wp_bnd, ↓wp_pure, ↓wp_mVar, ↓wp_oVar, ↓wp_oE, ↓wp_mFrz, ↓wp_mRV, ↓wp_m1, ↓wp_m2, ↓wp_mB, ↓wp_mChain, ↓wp_mAnd, ↓wp_mOr, ↓wp_mNot, ↓wp_mTru, ↓wp_mIf, ↓wp_mAndV, ↓wp_mOrV, ↓wp_mNotV, ↓wp_aNil, ↓wp_aCons, ↓wp_qNil, ↓wp_qCons, ↓wp_mA, ↓wp_mTup, ↓wp_mLst, ↓wp_mIsi, ↓wp_mPart, ↓wp_mSlice, ↓wp_mRg1, ↓wp_mRg2, ↓wp_mRgL, ↓wp_iRg, ↓wp_iLst, ↓wp_mApp, ↓wp_mSeq, ↓wp_mExpr, ↓wp_mRet, ↓wp_mSet, ↓wp_mAsg, ↓wp_mgName, ↓wp_mgNil, ↓wp_mgCons, ↓wp_mgTup, ↓wp_mgSub, ↓wp_mAug, ↓wp_mAugS, ↓wp_mFor, ↓wp_mLc, ↓wp_mCall, ↓wp_mFn, ↓wp_mCallL, tab1_self, ↓wp_mAlloc, ↓wp_mNew, ↓wp_mDGet, ↓wp_mDIn, ↓wp_mDPut, ↓wp_mListK, ↓wp_mPopAt, ↓wp_mScIx, ↓wp_mScLen, ↓wp_mScSlice, Op.get, rs, RV.toD, stV, setW, gets, f1, fII, fAdd, fSub, fMul, fDiv, fMod, fLt, fLe, fGt, fGe, fNeg, asB, truD, isN, fIsN, fNotN, lenD, absD, PD.intD, max2D, min2D, min3D, listD, tupleD, ixD, isiD, PD.listAt, putAtL, Option.map_some, List.getElem?_cons_zero, List.getElem?_cons_succ, List.set_cons_zero, List.set_cons_succ, List.map_cons, List.map_nil, List.replicate_succ, List.replicate_zero, List.cons_append, List.nil_append, List.append_nil, List.length_cons, List.length_nil, List.length_map, if_true, if_false, Bool.not_true, Bool.not_false, Bool.false_eq_true, decide_true, decide_false, decide_eq_true_eq, and_true, true_and, and_self, reduceIte, Nat.reduceAdd, Nat.reduceSub, Nat.reduceLeDiff, Nat.reduceLT, Nat.reduceEqDiff, Int.reduceLT, Int.reduceLE, Option.isSome_some, Option.isSome_none, Bool.not_eq_true', Bool.if_true_left]
  exact hq
theorem wp_told {a : Int} (hl : rows.length ≤ 1000) (hq : Q (.tup [DI p, .int m, .lst ((rows ++ [(c, a)]).map encR)]) ⟨[], sto⟩) : wp (m_opener_told [.tup [DI p, .int m, .lst (rows.map encR)], .int c, .int a]) ⟨[], sto⟩ Q := by
  unfold m_opener_told
  simp only [↓wp_bnd, ↓wp_pure, ↓wp_mVar, ↓wp_oVar, ↓wp_oE, ↓wp_mFrz, ↓wp_mRV, ↓wp_m1, ↓wp_m2, ↓wp_mB, ↓wp_mChain, ↓wp_mAnd, ↓wp_mOr, ↓wp_mNot, ↓wp_mTru, ↓wp_mIf, ↓wp_mAndV, ↓wp_mOrV, ↓wp_mNotV, ↓wp_aNil, ↓wp_aCons, ↓wp_qNil, ↓wp_qCons, ↓wp_mA, ↓wp_mTup, ↓wp_mLst, ↓wp_mIsi, ↓wp_mPart, ↓wp_mSlice, ↓wp_mRg1, ↓wp_mRg2, ↓wp_mRgL, ↓wp_iRg, ↓wp_iLst, ↓wp_mApp, ↓wp_mSeq, ↓wp_mExpr, ↓wp_mRet, ↓wp_mSet, ↓wp_mAsg, ↓wp_mgName, ↓wp_mgNil, ↓wp_mgCons, ↓wp_mgTup, ↓wp_mgSub, ↓wp_mAug, ↓wp_mAugS, ↓wp_mFor, ↓wp_mLc, ↓wp_mCall, ↓wp_mFn, ↓wp_mCallL, tab1_self, ↓wp_mAlloc, ↓wp_mNew, ↓wp_mDGet, ↓wp_mDIn, ↓wp_mDPut, ↓wp_mListK, ↓wp_mPopAt, ↓wp_mScIx, ↓wp_mScLen, ↓wp_mScSlice, Op.get, rs, RV.toD, stV, setW, gets, f1, fII, fAdd, fSub, fMul, fDiv, fMod, fLt, fLe, fGt, fGe, fNeg, asB, truD, isN, fIsN, fNotN, lenD, absD, PD.intD, max2D, min2D, min3D, listD, tupleD, ixD, isiD, PD.listAt, putAtL, Option.map_some, List.getElem?_cons_zero, List.getElem?_cons_succ, List.set_cons_zero, List.set_cons_succ, List.map_cons, List.map_nil, List.replicate_succ, List.replicate_zero, List.cons_append, List.nil_append, List.append_nil, List.length_cons, List.length_nil, List.length_map, if_true, if_false, Bool.not_true, Bool.not_false, Bool.false_eq_true, decide_true, decide_false, decide_eq_true_eq, and_true, true_and, and_self, reduceIte, Nat.reduceAdd, Nat.reduceSub, Nat.reduceLeDiff, Nat.reduceLT, Nat.reduceEqDiff, Int.reduceLT, Int.reduceLE, Option.isSome_some, Option.isSome_none, Bool.not_eq_true', Bool.if_true_left, at30, at31, at32]
  rw [if_pos (show rows.length ≤ 16777215 by omega)]
  rw [List.map_append] at hq
  exact hq
def encA : Option (Int × Int × Int × Int) → D
  | none => .non
  | some q => .tup [.int q.1, .int q.2.1, .int q.2.2.1, .int q.2.2.2]
theorem encA_none : encA none = .non := rfl
theorem encA_some (q : Int × Int × Int × Int) : encA (some q) = .tup [.int q.1, .int q.2.1, .int q.2.2.1, .int q.2.2.2] := rfl
theorem at40 {α : Type} (a b c d : α) : atI [a, b, c, d] 0 = some a := rfl
abbrev encSt (p : List Int) (m : Int) (rows : List (Int × Int)) : D := .tup [DI p, .int m, .lst (rows.map encR)]
/-- what an act answers -/
def deed (p : List Int) (m : Int) (rows : List (Int × Int)) : D := match act p m rows with
  | some q => if q.1 = 0 then .tup [.str "name", .int ((handsI p q.2.1 q.2.2.1 q.2.2.2).getD 0 0)] else (match bestI p q.2.1 q.2.2.1 q.2.2.2 with
    | some b => .tup [.str "open", .int b.2]
    | none => .non)
  | none => .non
variable {K : Int → Int} {C : List Int}
theorem wp_acts (s : Sm p) (I : Inv p m K C) (hC : C.length ≤ 1000)
    (hq : ∀ ext, Q (.tup [encSt p m (rowsOf K C), deed p m (rowsOf K C)]) ⟨[], sto ++ ext⟩) : wp (m_built_acts [encSt p m (rowsOf K C)]) ⟨[], sto⟩ Q := by
  have hrl : (rowsOf K C).length ≤ 1000 := by rw [rowsOf_length]; exact hC
  have hnd : ((rowsOf K C).map (·.1)).Nodup := by rw [rowsOf_fst]; exact I.nd
  obtain ⟨q, a1, a2, a3, _⟩ := I.act
  obtain ⟨rq, _, _⟩ := I.row a2
  have h4 := s.len
  unfold m_built_acts
  simp only [↓wp_bnd, ↓wp_pure, ↓wp_mVar, ↓wp_oVar, ↓wp_oE, ↓wp_mFrz, ↓wp_mRV, ↓wp_m1, ↓wp_m2, ↓wp_mB, ↓wp_mChain, ↓wp_mAnd, ↓wp_mOr, ↓wp_mNot, ↓wp_mTru, ↓wp_mIf, ↓wp_mAndV, ↓wp_mOrV, ↓wp_mNotV, ↓wp_aNil, ↓wp_aCons, ↓wp_qNil, ↓wp_qCons, ↓wp_mA, ↓wp_mTup, ↓wp_mLst, ↓wp_mIsi, ↓wp_mPart, ↓wp_mSlice, ↓wp_mRg1, ↓wp_mRg2, ↓wp_mRgL, ↓wp_iRg, ↓wp_iLst, ↓wp_mApp, ↓wp_mSeq, ↓wp_mExpr, ↓wp_mRet, ↓wp_mSet, ↓wp_mAsg, ↓wp_mgName, ↓wp_mgNil, ↓wp_mgCons, ↓wp_mgTup, ↓wp_mgSub, ↓wp_mAug, ↓wp_mAugS, ↓wp_mFor, ↓wp_mLc, ↓wp_mCall, ↓wp_mFn, ↓wp_mCallL, tab1_self, ↓wp_mAlloc, ↓wp_mNew, ↓wp_mDGet, ↓wp_mDIn, ↓wp_mDPut, ↓wp_mListK, ↓wp_mPopAt, ↓wp_mScIx, ↓wp_mScLen, ↓wp_mScSlice, Op.get, rs, RV.toD, stV, setW, gets, f1, fII, fAdd, fSub, fMul, fDiv, fMod, fLt, fLe, fGt, fGe, fNeg, asB, truD, isN, fIsN, fNotN, lenD, absD, PD.intD, max2D, min2D, min3D, listD, tupleD, ixD, isiD, PD.listAt, putAtL, Option.map_some, List.getElem?_cons_zero, List.getElem?_cons_succ, List.set_cons_zero, List.set_cons_succ, List.map_cons, List.map_nil, List.replicate_succ, List.replicate_zero, List.cons_append, List.nil_append, List.append_nil, List.length_cons, List.length_nil, List.length_map, if_true, if_false, Bool.not_true, Bool.not_false, Bool.false_eq_true, decide_true, decide_false, decide_eq_true_eq, and_true, true_and, and_self, reduceIte, Nat.reduceAdd, Nat.reduceSub, Nat.reduceLeDiff, Nat.reduceLT, Nat.reduceEqDiff, Int.reduceLT, Int.reduceLE, Option.isSome_some, Option.isSome_none, Bool.not_eq_true', Bool.if_true_left]
  refine wp_table hnd hrl ?_
  simp only [↓wp_bnd, ↓wp_pure, ↓wp_mVar, ↓wp_oVar, ↓wp_oE, ↓wp_mFrz, ↓wp_mRV, ↓wp_m1, ↓wp_m2, ↓wp_mB, ↓wp_mChain, ↓wp_mAnd, ↓wp_mOr, ↓wp_mNot, ↓wp_mTru, ↓wp_mIf, ↓wp_mAndV, ↓wp_mOrV, ↓wp_mNotV, ↓wp_aNil, ↓wp_aCons, ↓wp_qNil, ↓wp_qCons, ↓wp_mA, ↓wp_mTup, ↓wp_mLst, ↓wp_mIsi, ↓wp_mPart, ↓wp_mSlice, ↓wp_mRg1, ↓wp_mRg2, ↓wp_mRgL, ↓wp_iRg, ↓wp_iLst, ↓wp_mApp, ↓wp_mSeq, ↓wp_mExpr, ↓wp_mRet, ↓wp_mSet, ↓wp_mAsg, ↓wp_mgName, ↓wp_mgNil, ↓wp_mgCons, ↓wp_mgTup, ↓wp_mgSub, ↓wp_mAug, ↓wp_mAugS, ↓wp_mFor, ↓wp_mLc, ↓wp_mCall, ↓wp_mFn, ↓wp_mCallL, tab1_self, ↓wp_mAlloc, ↓wp_mNew, ↓wp_mDGet, ↓wp_mDIn, ↓wp_mDPut, ↓wp_mListK, ↓wp_mPopAt, ↓wp_mScIx, ↓wp_mScLen, ↓wp_mScSlice, Op.get, rs, RV.toD, stV, setW, gets, f1, fII, fAdd, fSub, fMul, fDiv, fMod, fLt, fLe, fGt, fGe, fNeg, asB, truD, isN, fIsN, fNotN, lenD, absD, PD.intD, max2D, min2D, min3D, listD, tupleD, ixD, isiD, PD.listAt, putAtL, Option.map_some, List.getElem?_cons_zero, List.getElem?_cons_succ, List.set_cons_zero, List.set_cons_succ, List.map_cons, List.map_nil, List.replicate_succ, List.replicate_zero, List.cons_append, List.nil_append, List.append_nil, List.length_cons, List.length_nil, List.length_map, if_true, if_false, Bool.not_true, Bool.not_false, Bool.false_eq_true, decide_true, decide_false, decide_eq_true_eq, and_true, true_and, and_self, reduceIte, Nat.reduceAdd, Nat.reduceSub, Nat.reduceLeDiff, Nat.reduceLT, Nat.reduceEqDiff, Int.reduceLT, Int.reduceLE, Option.isSome_some, Option.isSome_none, Bool.not_eq_true', Bool.if_true_left]
  have hT : (sto ++ [O.dt []] ++ [O.dk (encD (rowsOf K C))])[sto.length + 1]? = some (.dk (encD (rowsOf K C))) := by
    rw [List.getElem?_append_right (by simp)]
    simp
  rw [show (sto ++ [O.dt []]).length = sto.length + 1 by simp]
  refine wp_short hT hrl ?_
  simp only [↓wp_bnd, ↓wp_pure, ↓wp_mVar, ↓wp_oVar, ↓wp_oE, ↓wp_mFrz, ↓wp_mRV, ↓wp_m1, ↓wp_m2, ↓wp_mB, ↓wp_mChain, ↓wp_mAnd, ↓wp_mOr, ↓wp_mNot, ↓wp_mTru, ↓wp_mIf, ↓wp_mAndV, ↓wp_mOrV, ↓wp_mNotV, ↓wp_aNil, ↓wp_aCons, ↓wp_qNil, ↓wp_qCons, ↓wp_mA, ↓wp_mTup, ↓wp_mLst, ↓wp_mIsi, ↓wp_mPart, ↓wp_mSlice, ↓wp_mRg1, ↓wp_mRg2, ↓wp_mRgL, ↓wp_iRg, ↓wp_iLst, ↓wp_mApp, ↓wp_mSeq, ↓wp_mExpr, ↓wp_mRet, ↓wp_mSet, ↓wp_mAsg, ↓wp_mgName, ↓wp_mgNil, ↓wp_mgCons, ↓wp_mgTup, ↓wp_mgSub, ↓wp_mAug, ↓wp_mAugS, ↓wp_mFor, ↓wp_mLc, ↓wp_mCall, ↓wp_mFn, ↓wp_mCallL, tab1_self, ↓wp_mAlloc, ↓wp_mNew, ↓wp_mDGet, ↓wp_mDIn, ↓wp_mDPut, ↓wp_mListK, ↓wp_mPopAt, ↓wp_mScIx, ↓wp_mScLen, ↓wp_mScSlice, Op.get, rs, RV.toD, stV, setW, gets, f1, fII, fAdd, fSub, fMul, fDiv, fMod, fLt, fLe, fGt, fGe, fNeg, asB, truD, isN, fIsN, fNotN, lenD, absD, PD.intD, max2D, min2D, min3D, listD, tupleD, ixD, isiD, PD.listAt, putAtL, Option.map_some, List.getElem?_cons_zero, List.getElem?_cons_succ, List.set_cons_zero, List.set_cons_succ, List.map_cons, List.map_nil, List.replicate_succ, List.replicate_zero, List.cons_append, List.nil_append, List.append_nil, List.length_cons, List.length_nil, List.length_map, if_true, if_false, Bool.not_true, Bool.not_false, Bool.false_eq_true, decide_true, decide_false, decide_eq_true_eq, and_true, true_and, and_self, reduceIte, Nat.reduceAdd, Nat.reduceSub, Nat.reduceLeDiff, Nat.reduceLT, Nat.reduceEqDiff, Int.reduceLT, Int.reduceLE, Option.isSome_some, Option.isSome_none, Bool.not_eq_true', Bool.if_true_left]
  have get1 : ∀ (kvs : List (List Key × D)), (sto ++ [O.dt kvs] ++ [O.dk (encD (rowsOf K C))])[sto.length]? = some (.dt kvs) := fun kvs => by
    rw [List.append_assoc, List.getElem?_append_right (Nat.le_refl _), Nat.sub_self]; rfl
  have set1 : ∀ (kvs kvs' : List (List Key × D)), (sto ++ [O.dt kvs] ++ [O.dk (encD (rowsOf K C))]).set sto.length (.dt kvs') = sto ++ [O.dt kvs'] ++ [O.dk (encD (rowsOf K C))] := fun kvs kvs' => by
    rw [List.append_assoc, List.set_append_right _ _ (Nat.le_refl _), Nat.sub_self, List.append_assoc]; rfl
  refine wp_for (fun i w => ∃ kvs x y z u, TabT p kvs ∧ w = ⟨[SV.d (encSt p m (rowsOf K C)), SV.d (DI p), SV.d (.int m), SV.d (.lst ((rowsOf K C).map encR)), SV.d (D.o sto.length), SV.d (encA (((short p m (rowsOf K C)).take i).foldl (stepB fun s => numN (sl p s.1 s.2.1) s.2.2) none)), x, y, z, u], sto ++ [O.dt kvs] ++ [O.dk (encD (rowsOf K C))]⟩) ?_ ?_ ?_
  · exact ⟨[], _, _, _, _, Tab.nil, rfl⟩
  · rintro i d w hd ⟨kvs, x, y, z, u, T, rfl⟩
    rw [List.getElem?_map] at hd
    cases hc : (short p m (rowsOf K C))[i]? with
    | none => rw [hc] at hd; cases hd
    | some t =>
      rw [hc] at hd
      cases hd
      obtain ⟨rt, _, _⟩ := I.row (List.mem_of_getElem? hc)
      dsimp only [encS]
      simp only [↓wp_bnd, ↓wp_pure, ↓wp_mVar, ↓wp_oVar, ↓wp_oE, ↓wp_mFrz, ↓wp_mRV, ↓wp_m1, ↓wp_m2, ↓wp_mB, ↓wp_mChain, ↓wp_mAnd, ↓wp_mOr, ↓wp_mNot, ↓wp_mTru, ↓wp_mIf, ↓wp_mAndV, ↓wp_mOrV, ↓wp_mNotV, ↓wp_aNil, ↓wp_aCons, ↓wp_qNil, ↓wp_qCons, ↓wp_mA, ↓wp_mTup, ↓wp_mLst, ↓wp_mIsi, ↓wp_mPart, ↓wp_mSlice, ↓wp_mRg1, ↓wp_mRg2, ↓wp_mRgL, ↓wp_iRg, ↓wp_iLst, ↓wp_mApp, ↓wp_mSeq, ↓wp_mExpr, ↓wp_mRet, ↓wp_mSet, ↓wp_mAsg, ↓wp_mgName, ↓wp_mgNil, ↓wp_mgCons, ↓wp_mgTup, ↓wp_mgSub, ↓wp_mAug, ↓wp_mAugS, ↓wp_mFor, ↓wp_mLc, ↓wp_mCall, ↓wp_mFn, ↓wp_mCallL, tab1_self, ↓wp_mAlloc, ↓wp_mNew, ↓wp_mDGet, ↓wp_mDIn, ↓wp_mDPut, ↓wp_mListK, ↓wp_mPopAt, ↓wp_mScIx, ↓wp_mScLen, ↓wp_mScSlice, Op.get, rs, RV.toD, stV, setW, gets, f1, fII, fAdd, fSub, fMul, fDiv, fMod, fLt, fLe, fGt, fGe, fNeg, asB, truD, isN, fIsN, fNotN, lenD, absD, PD.intD, max2D, min2D, min3D, listD, tupleD, ixD, isiD, PD.listAt, putAtL, Option.map_some, List.getElem?_cons_zero, List.getElem?_cons_succ, List.set_cons_zero, List.set_cons_succ, List.map_cons, List.map_nil, List.replicate_succ, List.replicate_zero, List.cons_append, List.nil_append, List.append_nil, List.length_cons, List.length_nil, List.length_map, if_true, if_false, Bool.not_true, Bool.not_false, Bool.false_eq_true, decide_true, decide_false, decide_eq_true_eq, and_true, true_and, and_self, reduceIte, Nat.reduceAdd, Nat.reduceSub, Nat.reduceLeDiff, Nat.reduceLT, Nat.reduceEqDiff, Int.reduceLT, Int.reduceLE, Option.isSome_some, Option.isSome_none, Bool.not_eq_true', Bool.if_true_left]
      refine on_ok s 12 _ _ _ _ _ kvs _ rt (by have := rt.l0; have := rt.hn; omega) (get1 kvs) T fun kvs' T' => ?_
      rw [set1]
      cases hb : ((short p m (rowsOf K C)).take i).foldl (stepB fun s => numN (sl p s.1 s.2.1) s.2.2) none with
      | none =>
        simp only [↓wp_bnd, ↓wp_pure, ↓wp_mVar, ↓wp_oVar, ↓wp_oE, ↓wp_mFrz, ↓wp_mRV, ↓wp_m1, ↓wp_m2, ↓wp_mB, ↓wp_mChain, ↓wp_mAnd, ↓wp_mOr, ↓wp_mNot, ↓wp_mTru, ↓wp_mIf, ↓wp_mAndV, ↓wp_mOrV, ↓wp_mNotV, ↓wp_aNil, ↓wp_aCons, ↓wp_qNil, ↓wp_qCons, ↓wp_mA, ↓wp_mTup, ↓wp_mLst, ↓wp_mIsi, ↓wp_mPart, ↓wp_mSlice, ↓wp_mRg1, ↓wp_mRg2, ↓wp_mRgL, ↓wp_iRg, ↓wp_iLst, ↓wp_mApp, ↓wp_mSeq, ↓wp_mExpr, ↓wp_mRet, ↓wp_mSet, ↓wp_mAsg, ↓wp_mgName, ↓wp_mgNil, ↓wp_mgCons, ↓wp_mgTup, ↓wp_mgSub, ↓wp_mAug, ↓wp_mAugS, ↓wp_mFor, ↓wp_mLc, ↓wp_mCall, ↓wp_mFn, ↓wp_mCallL, tab1_self, ↓wp_mAlloc, ↓wp_mNew, ↓wp_mDGet, ↓wp_mDIn, ↓wp_mDPut, ↓wp_mListK, ↓wp_mPopAt, ↓wp_mScIx, ↓wp_mScLen, ↓wp_mScSlice, Op.get, rs, RV.toD, stV, setW, gets, f1, fII, fAdd, fSub, fMul, fDiv, fMod, fLt, fLe, fGt, fGe, fNeg, asB, truD, isN, fIsN, fNotN, lenD, absD, PD.intD, max2D, min2D, min3D, listD, tupleD, ixD, isiD, PD.listAt, putAtL, Option.map_some, List.getElem?_cons_zero, List.getElem?_cons_succ, List.set_cons_zero, List.set_cons_succ, List.map_cons, List.map_nil, List.replicate_succ, List.replicate_zero, List.cons_append, List.nil_append, List.append_nil, List.length_cons, List.length_nil, List.length_map, if_true, if_false, Bool.not_true, Bool.not_false, Bool.false_eq_true, decide_true, decide_false, decide_eq_true_eq, and_true, true_and, and_self, reduceIte, Nat.reduceAdd, Nat.reduceSub, Nat.reduceLeDiff, Nat.reduceLT, Nat.reduceEqDiff, Int.reduceLT, Int.reduceLE, Option.isSome_some, Option.isSome_none, Bool.not_eq_true', Bool.if_true_left, encA_none]
        refine ⟨kvs', SV.d (.int t.1), SV.d (.int t.2.1), SV.d (.int t.2.2), SV.d (.int (numN (sl p t.1 t.2.1) t.2.2)), T', ?_⟩
        rw [take_snoc hc, List.foldl_append, hb]
        rfl
      | some q =>
        by_cases hlt : numN (sl p t.1 t.2.1) t.2.2 < q.1
        · simp only [↓wp_bnd, ↓wp_pure, ↓wp_mVar, ↓wp_oVar, ↓wp_oE, ↓wp_mFrz, ↓wp_mRV, ↓wp_m1, ↓wp_m2, ↓wp_mB, ↓wp_mChain, ↓wp_mAnd, ↓wp_mOr, ↓wp_mNot, ↓wp_mTru, ↓wp_mIf, ↓wp_mAndV, ↓wp_mOrV, ↓wp_mNotV, ↓wp_aNil, ↓wp_aCons, ↓wp_qNil, ↓wp_qCons, ↓wp_mA, ↓wp_mTup, ↓wp_mLst, ↓wp_mIsi, ↓wp_mPart, ↓wp_mSlice, ↓wp_mRg1, ↓wp_mRg2, ↓wp_mRgL, ↓wp_iRg, ↓wp_iLst, ↓wp_mApp, ↓wp_mSeq, ↓wp_mExpr, ↓wp_mRet, ↓wp_mSet, ↓wp_mAsg, ↓wp_mgName, ↓wp_mgNil, ↓wp_mgCons, ↓wp_mgTup, ↓wp_mgSub, ↓wp_mAug, ↓wp_mAugS, ↓wp_mFor, ↓wp_mLc, ↓wp_mCall, ↓wp_mFn, ↓wp_mCallL, tab1_self, ↓wp_mAlloc, ↓wp_mNew, ↓wp_mDGet, ↓wp_mDIn, ↓wp_mDPut, ↓wp_mListK, ↓wp_mPopAt, ↓wp_mScIx, ↓wp_mScLen, ↓wp_mScSlice, Op.get, rs, RV.toD, stV, setW, gets, f1, fII, fAdd, fSub, fMul, fDiv, fMod, fLt, fLe, fGt, fGe, fNeg, asB, truD, isN, fIsN, fNotN, lenD, absD, PD.intD, max2D, min2D, min3D, listD, tupleD, ixD, isiD, PD.listAt, putAtL, Option.map_some, List.getElem?_cons_zero, List.getElem?_cons_succ, List.set_cons_zero, List.set_cons_succ, List.map_cons, List.map_nil, List.replicate_succ, List.replicate_zero, List.cons_append, List.nil_append, List.append_nil, List.length_cons, List.length_nil, List.length_map, if_true, if_false, Bool.not_true, Bool.not_false, Bool.false_eq_true, decide_true, decide_false, decide_eq_true_eq, and_true, true_and, and_self, reduceIte, Nat.reduceAdd, Nat.reduceSub, Nat.reduceLeDiff, Nat.reduceLT, Nat.reduceEqDiff, Int.reduceLT, Int.reduceLE, Option.isSome_some, Option.isSome_none, Bool.not_eq_true', Bool.if_true_left, encA_some, at40, hlt]
          refine ⟨kvs', SV.d (.int t.1), SV.d (.int t.2.1), SV.d (.int t.2.2), SV.d (.int (numN (sl p t.1 t.2.1) t.2.2)), T', ?_⟩
          rw [take_snoc hc, List.foldl_append, hb]
          show _ = (⟨[_, _, _, _, _, SV.d (encA (if numN (sl p t.1 t.2.1) t.2.2 < q.1 then some (numN (sl p t.1 t.2.1) t.2.2, t) else some q)), _, _, _, _], _⟩ : Wd)
          rw [if_pos hlt]
          rfl
        · simp only [↓wp_bnd, ↓wp_pure, ↓wp_mVar, ↓wp_oVar, ↓wp_oE, ↓wp_mFrz, ↓wp_mRV, ↓wp_m1, ↓wp_m2, ↓wp_mB, ↓wp_mChain, ↓wp_mAnd, ↓wp_mOr, ↓wp_mNot, ↓wp_mTru, ↓wp_mIf, ↓wp_mAndV, ↓wp_mOrV, ↓wp_mNotV, ↓wp_aNil, ↓wp_aCons, ↓wp_qNil, ↓wp_qCons, ↓wp_mA, ↓wp_mTup, ↓wp_mLst, ↓wp_mIsi, ↓wp_mPart, ↓wp_mSlice, ↓wp_mRg1, ↓wp_mRg2, ↓wp_mRgL, ↓wp_iRg, ↓wp_iLst, ↓wp_mApp, ↓wp_mSeq, ↓wp_mExpr, ↓wp_mRet, ↓wp_mSet, ↓wp_mAsg, ↓wp_mgName, ↓wp_mgNil, ↓wp_mgCons, ↓wp_mgTup, ↓wp_mgSub, ↓wp_mAug, ↓wp_mAugS, ↓wp_mFor, ↓wp_mLc, ↓wp_mCall, ↓wp_mFn, ↓wp_mCallL, tab1_self, ↓wp_mAlloc, ↓wp_mNew, ↓wp_mDGet, ↓wp_mDIn, ↓wp_mDPut, ↓wp_mListK, ↓wp_mPopAt, ↓wp_mScIx, ↓wp_mScLen, ↓wp_mScSlice, Op.get, rs, RV.toD, stV, setW, gets, f1, fII, fAdd, fSub, fMul, fDiv, fMod, fLt, fLe, fGt, fGe, fNeg, asB, truD, isN, fIsN, fNotN, lenD, absD, PD.intD, max2D, min2D, min3D, listD, tupleD, ixD, isiD, PD.listAt, putAtL, Option.map_some, List.getElem?_cons_zero, List.getElem?_cons_succ, List.set_cons_zero, List.set_cons_succ, List.map_cons, List.map_nil, List.replicate_succ, List.replicate_zero, List.cons_append, List.nil_append, List.append_nil, List.length_cons, List.length_nil, List.length_map, if_true, if_false, Bool.not_true, Bool.not_false, Bool.false_eq_true, decide_true, decide_false, decide_eq_true_eq, and_true, true_and, and_self, reduceIte, Nat.reduceAdd, Nat.reduceSub, Nat.reduceLeDiff, Nat.reduceLT, Nat.reduceEqDiff, Int.reduceLT, Int.reduceLE, Option.isSome_some, Option.isSome_none, Bool.not_eq_true', Bool.if_true_left, encA_some, at40, hlt]
          refine ⟨kvs', SV.d (.int t.1), SV.d (.int t.2.1), SV.d (.int t.2.2), SV.d (.int (numN (sl p t.1 t.2.1) t.2.2)), T', ?_⟩
          rw [take_snoc hc, List.foldl_append, hb]
          show _ = (⟨[_, _, _, _, _, SV.d (encA (if numN (sl p t.1 t.2.1) t.2.2 < q.1 then some (numN (sl p t.1 t.2.1) t.2.2, t) else some q)), _, _, _, _], _⟩ : Wd)
          rw [if_neg hlt]
          rfl
  · rintro w ⟨kvs, x, y, z, u, T, rfl⟩
    have e1 : ((short p m (rowsOf K C)).take ((short p m (rowsOf K C)).map encS).length).foldl (stepB fun s => numN (sl p s.1 s.2.1) s.2.2) none = some q := by
      rw [List.length_map, List.take_length]
      exact a1
    rw [e1]
    by_cases z0 : q.1 = 0
    · simp only [↓wp_bnd, ↓wp_pure, ↓wp_mVar, ↓wp_oVar, ↓wp_oE, ↓wp_mFrz, ↓wp_mRV, ↓wp_m1, ↓wp_m2, ↓wp_mB, ↓wp_mChain, ↓wp_mAnd, ↓wp_mOr, ↓wp_mNot, ↓wp_mTru, ↓wp_mIf, ↓wp_mAndV, ↓wp_mOrV, ↓wp_mNotV, ↓wp_aNil, ↓wp_aCons, ↓wp_qNil, ↓wp_qCons, ↓wp_mA, ↓wp_mTup, ↓wp_mLst, ↓wp_mIsi, ↓wp_mPart, ↓wp_mSlice, ↓wp_mRg1, ↓wp_mRg2, ↓wp_mRgL, ↓wp_iRg, ↓wp_iLst, ↓wp_mApp, ↓wp_mSeq, ↓wp_mExpr, ↓wp_mRet, ↓wp_mSet, ↓wp_mAsg, ↓wp_mgName, ↓wp_mgNil, ↓wp_mgCons, ↓wp_mgTup, ↓wp_mgSub, ↓wp_mAug, ↓wp_mAugS, ↓wp_mFor, ↓wp_mLc, ↓wp_mCall, ↓wp_mFn, ↓wp_mCallL, tab1_self, ↓wp_mAlloc, ↓wp_mNew, ↓wp_mDGet, ↓wp_mDIn, ↓wp_mDPut, ↓wp_mListK, ↓wp_mPopAt, ↓wp_mScIx, ↓wp_mScLen, ↓wp_mScSlice, Op.get, rs, RV.toD, stV, setW, gets, f1, fII, fAdd, fSub, fMul, fDiv, fMod, fLt, fLe, fGt, fGe, fNeg, asB, truD, isN, fIsN, fNotN, lenD, absD, PD.intD, max2D, min2D, min3D, listD, tupleD, ixD, isiD, PD.listAt, putAtL, Option.map_some, List.getElem?_cons_zero, List.getElem?_cons_succ, List.set_cons_zero, List.set_cons_succ, List.map_cons, List.map_nil, List.replicate_succ, List.replicate_zero, List.cons_append, List.nil_append, List.append_nil, List.length_cons, List.length_nil, List.length_map, if_true, if_false, Bool.not_true, Bool.not_false, Bool.false_eq_true, decide_true, decide_false, decide_eq_true_eq, and_true, true_and, and_self, reduceIte, Nat.reduceAdd, Nat.reduceSub, Nat.reduceLeDiff, Nat.reduceLT, Nat.reduceEqDiff, Int.reduceLT, Int.reduceLE, Option.isSome_some, Option.isSome_none, Bool.not_eq_true', Bool.if_true_left, encA_some, fEq_int, z0]
      have nz : numN (sl p q.2.1 q.2.2.1) q.2.2.2 = 0 := by rw [a3]; exact z0
      have hne := (handsI_ne rq).mpr nz
      refine wp_hands_named rq.l0 rq.lh rq.hn (by omega) (by have := rq.row.lo; omega) ?_
      have hpos : 0 < (handsI p q.2.1 q.2.2.1 q.2.2.2).length := List.length_pos_iff.mpr hne
      simp only [↓wp_bnd, ↓wp_pure, ↓wp_mVar, ↓wp_oVar, ↓wp_oE, ↓wp_mFrz, ↓wp_mRV, ↓wp_m1, ↓wp_m2, ↓wp_mB, ↓wp_mChain, ↓wp_mAnd, ↓wp_mOr, ↓wp_mNot, ↓wp_mTru, ↓wp_mIf, ↓wp_mAndV, ↓wp_mOrV, ↓wp_mNotV, ↓wp_aNil, ↓wp_aCons, ↓wp_qNil, ↓wp_qCons, ↓wp_mA, ↓wp_mTup, ↓wp_mLst, ↓wp_mIsi, ↓wp_mPart, ↓wp_mSlice, ↓wp_mRg1, ↓wp_mRg2, ↓wp_mRgL, ↓wp_iRg, ↓wp_iLst, ↓wp_mApp, ↓wp_mSeq, ↓wp_mExpr, ↓wp_mRet, ↓wp_mSet, ↓wp_mAsg, ↓wp_mgName, ↓wp_mgNil, ↓wp_mgCons, ↓wp_mgTup, ↓wp_mgSub, ↓wp_mAug, ↓wp_mAugS, ↓wp_mFor, ↓wp_mLc, ↓wp_mCall, ↓wp_mFn, ↓wp_mCallL, tab1_self, ↓wp_mAlloc, ↓wp_mNew, ↓wp_mDGet, ↓wp_mDIn, ↓wp_mDPut, ↓wp_mListK, ↓wp_mPopAt, ↓wp_mScIx, ↓wp_mScLen, ↓wp_mScSlice, Op.get, rs, RV.toD, stV, setW, gets, f1, fII, fAdd, fSub, fMul, fDiv, fMod, fLt, fLe, fGt, fGe, fNeg, asB, truD, isN, fIsN, fNotN, lenD, absD, PD.intD, max2D, min2D, min3D, listD, tupleD, ixD, isiD, PD.listAt, putAtL, Option.map_some, List.getElem?_cons_zero, List.getElem?_cons_succ, List.set_cons_zero, List.set_cons_succ, List.map_cons, List.map_nil, List.replicate_succ, List.replicate_zero, List.cons_append, List.nil_append, List.append_nil, List.length_cons, List.length_nil, List.length_map, if_true, if_false, Bool.not_true, Bool.not_false, Bool.false_eq_true, decide_true, decide_false, decide_eq_true_eq, and_true, true_and, and_self, reduceIte, Nat.reduceAdd, Nat.reduceSub, Nat.reduceLeDiff, Nat.reduceLT, Nat.reduceEqDiff, Int.reduceLT, Int.reduceLE, Option.isSome_some, Option.isSome_none, Bool.not_eq_true', Bool.if_true_left, at_map (p := handsI p q.2.1 q.2.2.1 q.2.2.2) (i := 0) (by omega) (by omega)]
      have := hq [O.dt kvs, O.dk (encD (rowsOf K C))]
      unfold deed at this
      rw [a1] at this
      dsimp only at this
      rw [if_pos z0] at this
      rw [List.append_assoc]
      exact this
    · simp only [↓wp_bnd, ↓wp_pure, ↓wp_mVar, ↓wp_oVar, ↓wp_oE, ↓wp_mFrz, ↓wp_mRV, ↓wp_m1, ↓wp_m2, ↓wp_mB, ↓wp_mChain, ↓wp_mAnd, ↓wp_mOr, ↓wp_mNot, ↓wp_mTru, ↓wp_mIf, ↓wp_mAndV, ↓wp_mOrV, ↓wp_mNotV, ↓wp_aNil, ↓wp_aCons, ↓wp_qNil, ↓wp_qCons, ↓wp_mA, ↓wp_mTup, ↓wp_mLst, ↓wp_mIsi, ↓wp_mPart, ↓wp_mSlice, ↓wp_mRg1, ↓wp_mRg2, ↓wp_mRgL, ↓wp_iRg, ↓wp_iLst, ↓wp_mApp, ↓wp_mSeq, ↓wp_mExpr, ↓wp_mRet, ↓wp_mSet, ↓wp_mAsg, ↓wp_mgName, ↓wp_mgNil, ↓wp_mgCons, ↓wp_mgTup, ↓wp_mgSub, ↓wp_mAug, ↓wp_mAugS, ↓wp_mFor, ↓wp_mLc, ↓wp_mCall, ↓wp_mFn, ↓wp_mCallL, tab1_self, ↓wp_mAlloc, ↓wp_mNew, ↓wp_mDGet, ↓wp_mDIn, ↓wp_mDPut, ↓wp_mListK, ↓wp_mPopAt, ↓wp_mScIx, ↓wp_mScLen, ↓wp_mScSlice, Op.get, rs, RV.toD, stV, setW, gets, f1, fII, fAdd, fSub, fMul, fDiv, fMod, fLt, fLe, fGt, fGe, fNeg, asB, truD, isN, fIsN, fNotN, lenD, absD, PD.intD, max2D, min2D, min3D, listD, tupleD, ixD, isiD, PD.listAt, putAtL, Option.map_some, List.getElem?_cons_zero, List.getElem?_cons_succ, List.set_cons_zero, List.set_cons_succ, List.map_cons, List.map_nil, List.replicate_succ, List.replicate_zero, List.cons_append, List.nil_append, List.append_nil, List.length_cons, List.length_nil, List.length_map, if_true, if_false, Bool.not_true, Bool.not_false, Bool.false_eq_true, decide_true, decide_false, decide_eq_true_eq, and_true, true_and, and_self, reduceIte, Nat.reduceAdd, Nat.reduceSub, Nat.reduceLeDiff, Nat.reduceLT, Nat.reduceEqDiff, Int.reduceLT, Int.reduceLE, Option.isSome_some, Option.isSome_none, Bool.not_eq_true', Bool.if_true_left, encA_some, fEq_int, z0]
      have nz : numN (sl p q.2.1 q.2.2.1) q.2.2.2 ≠ 0 := by rw [a3]; exact z0
      obtain ⟨b, b1, _⟩ := bestI_spec rq nz
      refine wp_best s (on_ok s 12) rq (by have := rq.l0; have := rq.hn; omega) (get1 kvs) T fun kvs' T' => ?_
      rw [set1]
      simp only [↓wp_bnd, ↓wp_pure, ↓wp_mVar, ↓wp_oVar, ↓wp_oE, ↓wp_mFrz, ↓wp_mRV, ↓wp_m1, ↓wp_m2, ↓wp_mB, ↓wp_mChain, ↓wp_mAnd, ↓wp_mOr, ↓wp_mNot, ↓wp_mTru, ↓wp_mIf, ↓wp_mAndV, ↓wp_mOrV, ↓wp_mNotV, ↓wp_aNil, ↓wp_aCons, ↓wp_qNil, ↓wp_qCons, ↓wp_mA, ↓wp_mTup, ↓wp_mLst, ↓wp_mIsi, ↓wp_mPart, ↓wp_mSlice, ↓wp_mRg1, ↓wp_mRg2, ↓wp_mRgL, ↓wp_iRg, ↓wp_iLst, ↓wp_mApp, ↓wp_mSeq, ↓wp_mExpr, ↓wp_mRet, ↓wp_mSet, ↓wp_mAsg, ↓wp_mgName, ↓wp_mgNil, ↓wp_mgCons, ↓wp_mgTup, ↓wp_mgSub, ↓wp_mAug, ↓wp_mAugS, ↓wp_mFor, ↓wp_mLc, ↓wp_mCall, ↓wp_mFn, ↓wp_mCallL, tab1_self, ↓wp_mAlloc, ↓wp_mNew, ↓wp_mDGet, ↓wp_mDIn, ↓wp_mDPut, ↓wp_mListK, ↓wp_mPopAt, ↓wp_mScIx, ↓wp_mScLen, ↓wp_mScSlice, Op.get, rs, RV.toD, stV, setW, gets, f1, fII, fAdd, fSub, fMul, fDiv, fMod, fLt, fLe, fGt, fGe, fNeg, asB, truD, isN, fIsN, fNotN, lenD, absD, PD.intD, max2D, min2D, min3D, listD, tupleD, ixD, isiD, PD.listAt, putAtL, Option.map_some, List.getElem?_cons_zero, List.getElem?_cons_succ, List.set_cons_zero, List.set_cons_succ, List.map_cons, List.map_nil, List.replicate_succ, List.replicate_zero, List.cons_append, List.nil_append, List.append_nil, List.length_cons, List.length_nil, List.length_map, if_true, if_false, Bool.not_true, Bool.not_false, Bool.false_eq_true, decide_true, decide_false, decide_eq_true_eq, and_true, true_and, and_self, reduceIte, Nat.reduceAdd, Nat.reduceSub, Nat.reduceLeDiff, Nat.reduceLT, Nat.reduceEqDiff, Int.reduceLT, Int.reduceLE, Option.isSome_some, Option.isSome_none, Bool.not_eq_true', Bool.if_true_left, b1, encB_some, at21]
      have := hq [O.dt kvs', O.dk (encD (rowsOf K C))]
      unfold deed at this
      rw [a1] at this
      dsimp only at this
      rw [if_neg z0, b1] at this
      rw [List.append_assoc]
      exact this
end
end K73

set_option maxHeartbeats 1000000
namespace K73
open PySem PySem.Spec PyProof.Rows L2 PD
section
variable {p : List Int} {l c h m : Int} {sto : List O} {Q : D → Wd → Prop} {j : Nat} {rows : List (Int × Int)} {t : List Int}
theorem eq_name : fEq (.str "name") (.str "name") = some (.d (.bl true)) := by kernel_rfl
theorem eq_open_name : fEq (.str "open") (.str "name") = some (.d (.bl false)) := by kernel_rfl
theorem ne_open : fNe (.str "open") (.str "open") = some (.d (.bl false)) := by kernel_rfl
theorem fNe_int (a b : Int) : fNe (.int a) (.int b) = some (.d (.bl (!decide (a = b)))) := rfl
theorem wp_deed (a : D) (ds : List D) (hq : Q (.tup ds) ⟨[], sto⟩) : wp (m_law_deed [.tup [a, .tup ds]]) ⟨[], sto⟩ Q := by
  unfold m_law_deed
  simp only [↓wp_bnd, ↓wp_pure, ↓wp_mVar, ↓wp_oVar, ↓wp_oE, ↓wp_mFrz, ↓wp_mRV, ↓wp_m1, ↓wp_m2, ↓wp_mB, ↓wp_mChain, ↓wp_mAnd, ↓wp_mOr, ↓wp_mNot, ↓wp_mTru, ↓wp_mIf, ↓wp_mAndV, ↓wp_mOrV, ↓wp_mNotV, ↓wp_aNil, ↓wp_aCons, ↓wp_qNil, ↓wp_qCons, ↓wp_mA, ↓wp_mTup, ↓wp_mLst, ↓wp_mIsi, ↓wp_mPart, ↓wp_mSlice, ↓wp_mRg1, ↓wp_mRg2, ↓wp_mRgL, ↓wp_iRg, ↓wp_iLst, ↓wp_mApp, ↓wp_mSeq, ↓wp_mExpr, ↓wp_mRet, ↓wp_mSet, ↓wp_mAsg, ↓wp_mgName, ↓wp_mgNil, ↓wp_mgCons, ↓wp_mgTup, ↓wp_mgSub, ↓wp_mAug, ↓wp_mAugS, ↓wp_mFor, ↓wp_mLc, ↓wp_mCall, ↓wp_mFn, ↓wp_mCallL, tab1_self, ↓wp_mAlloc, ↓wp_mNew, ↓wp_mDGet, ↓wp_mDIn, ↓wp_mDPut, ↓wp_mListK, ↓wp_mPopAt, ↓wp_mScIx, ↓wp_mScLen, ↓wp_mScSlice, Op.get, rs, RV.toD, stV, setW, gets, f1, fII, fAdd, fSub, fMul, fDiv, fMod, fLt, fLe, fGt, fGe, fNeg, asB, truD, isN, fIsN, fNotN, lenD, absD, PD.intD, max2D, min2D, min3D, listD, tupleD, ixD, isiD, PD.listAt, putAtL, Option.map_some, List.getElem?_cons_zero, List.getElem?_cons_succ, List.set_cons_zero, List.set_cons_succ, List.map_cons, List.map_nil, List.replicate_succ, List.replicate_zero, List.cons_append, List.nil_append, List.append_nil, List.length_cons, List.length_nil, List.length_map, if_true, if_false, Bool.not_true, Bool.not_false, Bool.false_eq_true, decide_true, decide_false, decide_eq_true_eq, and_true, true_and, and_self, reduceIte, Nat.reduceAdd, Nat.reduceSub, Nat.reduceLeDiff, Nat.reduceLT, Nat.reduceEqDiff, Int.reduceLT, Int.reduceLE, Option.isSome_some, Option.isSome_none, Bool.not_eq_true', Bool.if_true_left, at21, fNe_int]
  exact hq
theorem wp_whole (i : Int) (hq : Q (.bl true) ⟨[], sto⟩) : wp (m_law_whole_number [.int i]) ⟨[], sto⟩ Q := by
  unfold m_law_whole_number
  simp only [↓wp_bnd, ↓wp_pure, ↓wp_mVar, ↓wp_oVar, ↓wp_oE, ↓wp_mFrz, ↓wp_mRV, ↓wp_m1, ↓wp_m2, ↓wp_mB, ↓wp_mChain, ↓wp_mAnd, ↓wp_mOr, ↓wp_mNot, ↓wp_mTru, ↓wp_mIf, ↓wp_mAndV, ↓wp_mOrV, ↓wp_mNotV, ↓wp_aNil, ↓wp_aCons, ↓wp_qNil, ↓wp_qCons, ↓wp_mA, ↓wp_mTup, ↓wp_mLst, ↓wp_mIsi, ↓wp_mPart, ↓wp_mSlice, ↓wp_mRg1, ↓wp_mRg2, ↓wp_mRgL, ↓wp_iRg, ↓wp_iLst, ↓wp_mApp, ↓wp_mSeq, ↓wp_mExpr, ↓wp_mRet, ↓wp_mSet, ↓wp_mAsg, ↓wp_mgName, ↓wp_mgNil, ↓wp_mgCons, ↓wp_mgTup, ↓wp_mgSub, ↓wp_mAug, ↓wp_mAugS, ↓wp_mFor, ↓wp_mLc, ↓wp_mCall, ↓wp_mFn, ↓wp_mCallL, tab1_self, ↓wp_mAlloc, ↓wp_mNew, ↓wp_mDGet, ↓wp_mDIn, ↓wp_mDPut, ↓wp_mListK, ↓wp_mPopAt, ↓wp_mScIx, ↓wp_mScLen, ↓wp_mScSlice, Op.get, rs, RV.toD, stV, setW, gets, f1, fII, fAdd, fSub, fMul, fDiv, fMod, fLt, fLe, fGt, fGe, fNeg, asB, truD, isN, fIsN, fNotN, lenD, absD, PD.intD, max2D, min2D, min3D, listD, tupleD, ixD, isiD, PD.listAt, putAtL, Option.map_some, List.getElem?_cons_zero, List.getElem?_cons_succ, List.set_cons_zero, List.set_cons_succ, List.map_cons, List.map_nil, List.replicate_succ, List.replicate_zero, List.cons_append, List.nil_append, List.append_nil, List.length_cons, List.length_nil, List.length_map, if_true, if_false, Bool.not_true, Bool.not_false, Bool.false_eq_true, decide_true, decide_false, decide_eq_true_eq, and_true, true_and, and_self, reduceIte, Nat.reduceAdd, Nat.reduceSub, Nat.reduceLeDiff, Nat.reduceLT, Nat.reduceEqDiff, Int.reduceLT, Int.reduceLE, Option.isSome_some, Option.isSome_none, Bool.not_eq_true', Bool.if_true_left]
  exact hq
theorem bd_one : ∀ {t p : List Int} (i : Nat) (a b : Int), t.length = p.length → (∀ (i : Nat) (a b : Int), t[i]? = some a → p[i]? = some b → 0 ≤ a ∧ a ≤ b) → t[i]? = some a → p[i]? = some b → t.sum - a ≤ p.sum - b
  | [], _, i, a, b, _, _, h, _ => by simp at h
  | x :: t, [], i, a, b, hl, _, _, _ => by simp at hl
  | x :: t, y :: p, i, a, b, hl, hb, h1, h2 => by
    rw [List.sum_cons, List.sum_cons]
    cases i with
    | zero =>
      cases h1
      cases h2
      have := bd_sums (t := t) (p := p) (by simpa using hl) fun i a b h1 h2 => hb (i + 1) a b h1 h2
      omega
    | succ i =>
      have h0 := hb 0 x y rfl rfl
      have := bd_one i a b (by simpa using hl) (fun i a b h1 h2 => hb (i + 1) a b h1 h2) h1 h2
      omega
/-- the hand that is named has taken -/
theorem named_took (T : Tk p m t) {x : Int} (r : RowI p l h x) (hx : x = pre t h - pre t l) {k : Int} (hk : k ∈ handsI p l h x) : 1 ≤ k ∧ k ≤ p.length ∧ 0 < t.getD (k - 1).toNat 0 := by
  unfold handsI at hk
  obtain ⟨i, hi, rfl⟩ := List.mem_map.mp hk
  rw [List.mem_filter, mem_rng] at hi
  obtain ⟨⟨h1, h2⟩, h3⟩ := hi
  have h3' := of_decide_eq_true h3
  have a1 := r.l0
  have a2 := r.hn
  have a3 := r.lh
  have hl := T.len
  refine ⟨by omega, by omega, ?_⟩
  have gp : (sl p l h)[(i - l).toNat]? = some (p.getD i.toNat 0) := by
    unfold sl
    rw [List.getElem?_take, if_pos (by omega), List.getElem?_drop, show l.toNat + (i - l).toNat = i.toNat by omega, List.getElem?_eq_getElem (by omega), List.getD_eq_getElem?_getD, List.getElem?_eq_getElem (by omega)]
    rfl
  have gt : (sl t l h)[(i - l).toNat]? = some (t.getD i.toNat 0) := by
    unfold sl
    rw [List.getElem?_take, if_pos (by omega), List.getElem?_drop, show l.toNat + (i - l).toNat = i.toNat by omega, List.getElem?_eq_getElem (by omega), List.getD_eq_getElem?_getD, List.getElem?_eq_getElem (by omega)]
    rfl
  have e1 := sl_length (p := p) a1 a3 a2
  have e2 := sl_length (p := t) a1 a3 (by omega)
  have := bd_one (t := sl t l h) (p := sl p l h) (i - l).toNat _ _ (by omega) (fun i a b h1 h2 => T.bd (l.toNat + i) a b (sl_get h1) (sl_get h2)) gt gp
  rw [← pre_sl a1 a3, ← hx] at this
  show 0 < t.getD (i + 1 - 1).toNat 0
  rw [show i + 1 - 1 = i by omega]
  omega
theorem inD_ints (c : Int) (C : List Int) : inD (.int c) (DI C) = some (decide (c ∈ C)) := by
  unfold inD
  dsimp only
  have h1 : py (.lst (C.map D.int)) = some (.list (C.map PyData.int)) := py_ints C
  rw [show py (.int c) = some (.int c) from rfl]
  rw [h1]
  dsimp only
  rw [shaped_ints, show SeqAt.shaped (.int c) = true from rfl, if_pos (show (true && true) = true from rfl)]
  congr 1
  induction C with
  | nil => rfl
  | cons x C ih =>
    rw [List.map_cons, List.any_cons, ih (py_ints C)]
    show ((x == c) || decide (c ∈ C)) = decide (c ∈ x :: C)
    by_cases e : x = c
    · simp [e]
    · simp [e, Ne.symm e]
theorem wp_records (ad : Str → Addr) (s : Sm p) (T : Tk p m t) (m1 : 1 ≤ m)
    (hq : ∀ ext, Q (.int (play p m (pre t) (p.length + 1) [])) ⟨[], sto ++ ext⟩) : wp (m_law_records ad [.lst [.ref (ad "opener_opens"), .ref (ad "built_acts"), .ref (ad "opener_told")], DI p, .int m, DI t]) ⟨[], sto⟩ Q := by
  have h4 := s.len
  have row : Row p m := by
    have := bd_sums T.len T.bd
    have := T.sum
    exact ⟨s.nn, m1, by omega⟩
  have nn0 := numN_le p.length p m (Nat.le_refl _) row
  unfold m_law_records
  simp only [↓wp_bnd, ↓wp_pure, ↓wp_mVar, ↓wp_oVar, ↓wp_oE, ↓wp_mFrz, ↓wp_mRV, ↓wp_m1, ↓wp_m2, ↓wp_mB, ↓wp_mChain, ↓wp_mAnd, ↓wp_mOr, ↓wp_mNot, ↓wp_mTru, ↓wp_mIf, ↓wp_mAndV, ↓wp_mOrV, ↓wp_mNotV, ↓wp_aNil, ↓wp_aCons, ↓wp_qNil, ↓wp_qCons, ↓wp_mA, ↓wp_mTup, ↓wp_mLst, ↓wp_mIsi, ↓wp_mPart, ↓wp_mSlice, ↓wp_mRg1, ↓wp_mRg2, ↓wp_mRgL, ↓wp_iRg, ↓wp_iLst, ↓wp_mApp, ↓wp_mSeq, ↓wp_mExpr, ↓wp_mRet, ↓wp_mSet, ↓wp_mAsg, ↓wp_mgName, ↓wp_mgNil, ↓wp_mgCons, ↓wp_mgTup, ↓wp_mgSub, ↓wp_mAug, ↓wp_mAugS, ↓wx_mFor, ↓wx_mLc, ↓wx_mCall, ↓wp_mFn, ↓wx_mCallL, tab1_self, ↓wp_mAlloc, ↓wp_mNew, ↓wp_mDGet, ↓wp_mDIn, ↓wp_mDPut, ↓wp_mListK, ↓wp_mPopAt, ↓wp_mScIx, ↓wp_mScLen, ↓wp_mScSlice, Op.get, rs, RV.toD, stV, setW, gets, f1, fII, fAdd, fSub, fMul, fDiv, fMod, fLt, fLe, fGt, fGe, fNeg, asB, truD, isN, fIsN, fNotN, lenD, absD, PD.intD, max2_eq, min2_eq, min3D, listD, tupleD, ixD, isiD, PD.listAt, putAtL, Option.map_some, List.getElem?_cons_zero, List.getElem?_cons_succ, List.set_cons_zero, List.set_cons_succ, List.map_cons, List.map_nil, List.replicate_succ, List.replicate_zero, List.cons_append, List.nil_append, List.append_nil, List.length_cons, List.length_nil, List.length_map, if_true, if_false, Bool.not_true, Bool.not_false, Bool.false_eq_true, decide_true, decide_false, decide_eq_true_eq, and_true, true_and, and_self, reduceIte, Nat.reduceAdd, Nat.reduceSub, Nat.reduceLeDiff, Nat.reduceLT, Nat.reduceEqDiff, Int.reduceLT, Int.reduceLE, Option.isSome_some, Option.isSome_none, Bool.not_eq_true', Bool.if_true_left, at30, at31, at32]
  refine @wpc_e _ _ _ _ (.tup [DI p, .int m, .lst []]) ⟨[], sto⟩ (wp_opens ⟨rfl, rfl⟩) ?_
  simp only [↓wp_bnd, ↓wp_pure, ↓wp_mVar, ↓wp_oVar, ↓wp_oE, ↓wp_mFrz, ↓wp_mRV, ↓wp_m1, ↓wp_m2, ↓wp_mB, ↓wp_mChain, ↓wp_mAnd, ↓wp_mOr, ↓wp_mNot, ↓wp_mTru, ↓wp_mIf, ↓wp_mAndV, ↓wp_mOrV, ↓wp_mNotV, ↓wp_aNil, ↓wp_aCons, ↓wp_qNil, ↓wp_qCons, ↓wp_mA, ↓wp_mTup, ↓wp_mLst, ↓wp_mIsi, ↓wp_mPart, ↓wp_mSlice, ↓wp_mRg1, ↓wp_mRg2, ↓wp_mRgL, ↓wp_iRg, ↓wp_iLst, ↓wp_mApp, ↓wp_mSeq, ↓wp_mExpr, ↓wp_mRet, ↓wp_mSet, ↓wp_mAsg, ↓wp_mgName, ↓wp_mgNil, ↓wp_mgCons, ↓wp_mgTup, ↓wp_mgSub, ↓wp_mAug, ↓wp_mAugS, ↓wx_mFor, ↓wx_mLc, ↓wx_mCall, ↓wp_mFn, ↓wx_mCallL, tab1_self, ↓wp_mAlloc, ↓wp_mNew, ↓wp_mDGet, ↓wp_mDIn, ↓wp_mDPut, ↓wp_mListK, ↓wp_mPopAt, ↓wp_mScIx, ↓wp_mScLen, ↓wp_mScSlice, Op.get, rs, RV.toD, stV, setW, gets, f1, fII, fAdd, fSub, fMul, fDiv, fMod, fLt, fLe, fGt, fGe, fNeg, asB, truD, isN, fIsN, fNotN, lenD, absD, PD.intD, max2_eq, min2_eq, min3D, listD, tupleD, ixD, isiD, PD.listAt, putAtL, Option.map_some, List.getElem?_cons_zero, List.getElem?_cons_succ, List.set_cons_zero, List.set_cons_succ, List.map_cons, List.map_nil, List.replicate_succ, List.replicate_zero, List.cons_append, List.nil_append, List.append_nil, List.length_cons, List.length_nil, List.length_map, if_true, if_false, Bool.not_true, Bool.not_false, Bool.false_eq_true, decide_true, decide_false, decide_eq_true_eq, and_true, true_and, and_self, reduceIte, Nat.reduceAdd, Nat.reduceSub, Nat.reduceLeDiff, Nat.reduceLT, Nat.reduceEqDiff, Int.reduceLT, Int.reduceLE, Option.isSome_some, Option.isSome_none, Bool.not_eq_true', Bool.if_true_left]
  refine Go.mk ⟨rg2_ok (by omega) (by omega) (by omega) (by omega), ?_⟩
  refine @wpf_x (List SV × List O) _ _ _ _ (fun _ => .ret (.int (play p m (pre t) (p.length + 1) []))) (fun i => ⟨i.1, sto ++ i.2⟩) ?_ ?_
  · refine wp_for (fun i w => ∃ C q x9 x10 x11 ext, C.length = i ∧ Inv p m (pre t) C ∧ act p m (rowsOf (pre t) C) = some q ∧ q.1 + i < p.length + 1 ∧ play p m (pre t) (p.length + 1 - i) (rowsOf (pre t) C) = play p m (pre t) (p.length + 1) [] ∧
      w = ⟨[SV.d (.lst [.ref (ad "opener_opens"), .ref (ad "built_acts"), .ref (ad "opener_told")]), SV.d (DI p), SV.d (.int m), SV.d (DI t), SV.d (.ref (ad "opener_opens")), SV.d (.ref (ad "built_acts")), SV.d (.ref (ad "opener_told")), SV.d (encSt p m (rowsOf (pre t) C)), SV.own (C.map D.int), x9, x10, x11], sto ++ ext⟩) ?_ ?_ ?_
    · exact ⟨[], _, SV.un, SV.un, SV.un, [], rfl, T.inv s.nn m1 List.nodup_nil (fun c h => by cases h), act_nil s.nn row, by show numN p m + 0 < _; omega, rfl, by rw [List.append_nil]; rfl⟩
    · rintro i d w hd ⟨C, q, x9, x10, x11, ext, hC, I, ha, hb, hp, rfl⟩
      obtain ⟨k, hk, rfl, k1, k2⟩ := rgD_at hd
      obtain ⟨r, e, hx, hstep⟩ := T.step I ha
      have q0 : 0 ≤ q.1 := by rw [← e]; exact numN_nonneg _ _
      have fuel : p.length + 1 - i = (p.length + 1 - (i + 1)) + 1 := by omega
      have tl := T.len
      simp only [↓wp_bnd, ↓wp_pure, ↓wp_mVar, ↓wp_oVar, ↓wp_oE, ↓wp_mFrz, ↓wp_mRV, ↓wp_m1, ↓wp_m2, ↓wp_mB, ↓wp_mChain, ↓wp_mAnd, ↓wp_mOr, ↓wp_mNot, ↓wp_mTru, ↓wp_mIf, ↓wp_mAndV, ↓wp_mOrV, ↓wp_mNotV, ↓wp_aNil, ↓wp_aCons, ↓wp_qNil, ↓wp_qCons, ↓wp_mA, ↓wp_mTup, ↓wp_mLst, ↓wp_mIsi, ↓wp_mPart, ↓wp_mSlice, ↓wp_mRg1, ↓wp_mRg2, ↓wp_mRgL, ↓wp_iRg, ↓wp_iLst, ↓wp_mApp, ↓wp_mSeq, ↓wp_mExpr, ↓wp_mRet, ↓wp_mSet, ↓wp_mAsg, ↓wp_mgName, ↓wp_mgNil, ↓wp_mgCons, ↓wp_mgTup, ↓wp_mgSub, ↓wp_mAug, ↓wp_mAugS, ↓wx_mFor, ↓wx_mLc, ↓wx_mCall, ↓wp_mFn, ↓wx_mCallL, tab1_self, ↓wp_mAlloc, ↓wp_mNew, ↓wp_mDGet, ↓wp_mDIn, ↓wp_mDPut, ↓wp_mListK, ↓wp_mPopAt, ↓wp_mScIx, ↓wp_mScLen, ↓wp_mScSlice, Op.get, rs, RV.toD, stV, setW, gets, f1, fII, fAdd, fSub, fMul, fDiv, fMod, fLt, fLe, fGt, fGe, fNeg, asB, truD, isN, fIsN, fNotN, lenD, absD, PD.intD, max2_eq, min2_eq, min3D, listD, tupleD, ixD, isiD, PD.listAt, putAtL, Option.map_some, List.getElem?_cons_zero, List.getElem?_cons_succ, List.set_cons_zero, List.set_cons_succ, List.map_cons, List.map_nil, List.replicate_succ, List.replicate_zero, List.cons_append, List.nil_append, List.append_nil, List.length_cons, List.length_nil, List.length_map, if_true, if_false, Bool.not_true, Bool.not_false, Bool.false_eq_true, decide_true, decide_false, decide_eq_true_eq, and_true, true_and, and_self, reduceIte, Nat.reduceAdd, Nat.reduceSub, Nat.reduceLeDiff, Nat.reduceLT, Nat.reduceEqDiff, Int.reduceLT, Int.reduceLE, Option.isSome_some, Option.isSome_none, Bool.not_eq_true', Bool.if_true_left]
      refine @wpc_x _ (List O) _ _ _ (fun _ => .tup [encSt p m (rowsOf (pre t) C), deed p m (rowsOf (pre t) C)]) (fun ext2 => ⟨[], sto ++ ext ++ ext2⟩) (wp_acts s I (by omega) fun ext2 => ⟨ext2, rfl, rfl⟩) ?_
      intro ext2
      by_cases z : q.1 = 0
      · have hne := (handsI_ne r).mpr (by rw [e]; exact z)
        have hpos := List.length_pos_iff.mpr hne
        have hmem : (handsI p q.2.1 q.2.2.1 q.2.2.2).getD 0 0 ∈ handsI p q.2.1 q.2.2.1 q.2.2.2 := by
          rw [List.getD_eq_getElem?_getD, List.getElem?_eq_getElem hpos]
          exact List.getElem_mem _
        obtain ⟨hd, ed, g1, g2, g3⟩ : ∃ hd, deed p m (rowsOf (pre t) C) = .tup [.str "name", .int hd] ∧ 1 ≤ hd ∧ hd ≤ p.length ∧ 0 < t.getD (hd - 1).toNat 0 := by
          refine ⟨_, ?_, named_took T r hx hmem⟩
          unfold deed
          rw [ha]
          dsimp only
          rw [if_pos z]
        rw [ed]
        simp only [↓wp_bnd, ↓wp_pure, ↓wp_mVar, ↓wp_oVar, ↓wp_oE, ↓wp_mFrz, ↓wp_mRV, ↓wp_m1, ↓wp_m2, ↓wp_mB, ↓wp_mChain, ↓wp_mAnd, ↓wp_mOr, ↓wp_mNot, ↓wp_mTru, ↓wp_mIf, ↓wp_mAndV, ↓wp_mOrV, ↓wp_mNotV, ↓wp_aNil, ↓wp_aCons, ↓wp_qNil, ↓wp_qCons, ↓wp_mA, ↓wp_mTup, ↓wp_mLst, ↓wp_mIsi, ↓wp_mPart, ↓wp_mSlice, ↓wp_mRg1, ↓wp_mRg2, ↓wp_mRgL, ↓wp_iRg, ↓wp_iLst, ↓wp_mApp, ↓wp_mSeq, ↓wp_mExpr, ↓wp_mRet, ↓wp_mSet, ↓wp_mAsg, ↓wp_mgName, ↓wp_mgNil, ↓wp_mgCons, ↓wp_mgTup, ↓wp_mgSub, ↓wp_mAug, ↓wp_mAugS, ↓wx_mFor, ↓wx_mLc, ↓wx_mCall, ↓wp_mFn, ↓wx_mCallL, tab1_self, ↓wp_mAlloc, ↓wp_mNew, ↓wp_mDGet, ↓wp_mDIn, ↓wp_mDPut, ↓wp_mListK, ↓wp_mPopAt, ↓wp_mScIx, ↓wp_mScLen, ↓wp_mScSlice, Op.get, rs, RV.toD, stV, setW, gets, f1, fII, fAdd, fSub, fMul, fDiv, fMod, fLt, fLe, fGt, fGe, fNeg, asB, truD, isN, fIsN, fNotN, lenD, absD, PD.intD, max2_eq, min2_eq, min3D, listD, tupleD, ixD, isiD, PD.listAt, putAtL, Option.map_some, List.getElem?_cons_zero, List.getElem?_cons_succ, List.set_cons_zero, List.set_cons_succ, List.map_cons, List.map_nil, List.replicate_succ, List.replicate_zero, List.cons_append, List.nil_append, List.append_nil, List.length_cons, List.length_nil, List.length_map, if_true, if_false, Bool.not_true, Bool.not_false, Bool.false_eq_true, decide_true, decide_false, decide_eq_true_eq, and_true, true_and, and_self, reduceIte, Nat.reduceAdd, Nat.reduceSub, Nat.reduceLeDiff, Nat.reduceLT, Nat.reduceEqDiff, Int.reduceLT, Int.reduceLE, Option.isSome_some, Option.isSome_none, Bool.not_eq_true', Bool.if_true_left]
        refine Go.mk (@wpc_e _ _ _ _ (.tup [.str "name", .int hd]) ⟨[], sto ++ ext ++ ext2⟩ (wp_deed _ _ ⟨rfl, rfl⟩) ?_)
        simp only [↓wp_bnd, ↓wp_pure, ↓wp_mVar, ↓wp_oVar, ↓wp_oE, ↓wp_mFrz, ↓wp_mRV, ↓wp_m1, ↓wp_m2, ↓wp_mB, ↓wp_mChain, ↓wp_mAnd, ↓wp_mOr, ↓wp_mNot, ↓wp_mTru, ↓wp_mIf, ↓wp_mAndV, ↓wp_mOrV, ↓wp_mNotV, ↓wp_aNil, ↓wp_aCons, ↓wp_qNil, ↓wp_qCons, ↓wp_mA, ↓wp_mTup, ↓wp_mLst, ↓wp_mIsi, ↓wp_mPart, ↓wp_mSlice, ↓wp_mRg1, ↓wp_mRg2, ↓wp_mRgL, ↓wp_iRg, ↓wp_iLst, ↓wp_mApp, ↓wp_mSeq, ↓wp_mExpr, ↓wp_mRet, ↓wp_mSet, ↓wp_mAsg, ↓wp_mgName, ↓wp_mgNil, ↓wp_mgCons, ↓wp_mgTup, ↓wp_mgSub, ↓wp_mAug, ↓wp_mAugS, ↓wx_mFor, ↓wx_mLc, ↓wx_mCall, ↓wp_mFn, ↓wx_mCallL, tab1_self, ↓wp_mAlloc, ↓wp_mNew, ↓wp_mDGet, ↓wp_mDIn, ↓wp_mDPut, ↓wp_mListK, ↓wp_mPopAt, ↓wp_mScIx, ↓wp_mScLen, ↓wp_mScSlice, Op.get, rs, RV.toD, stV, setW, gets, f1, fII, fAdd, fSub, fMul, fDiv, fMod, fLt, fLe, fGt, fGe, fNeg, asB, truD, isN, fIsN, fNotN, lenD, absD, PD.intD, max2_eq, min2_eq, min3D, listD, tupleD, ixD, isiD, PD.listAt, putAtL, Option.map_some, List.getElem?_cons_zero, List.getElem?_cons_succ, List.set_cons_zero, List.set_cons_succ, List.map_cons, List.map_nil, List.replicate_succ, List.replicate_zero, List.cons_append, List.nil_append, List.append_nil, List.length_cons, List.length_nil, List.length_map, if_true, if_false, Bool.not_true, Bool.not_false, Bool.false_eq_true, decide_true, decide_false, decide_eq_true_eq, and_true, true_and, and_self, reduceIte, Nat.reduceAdd, Nat.reduceSub, Nat.reduceLeDiff, Nat.reduceLT, Nat.reduceEqDiff, Int.reduceLT, Int.reduceLE, Option.isSome_some, Option.isSome_none, Bool.not_eq_true', Bool.if_true_left, fNe_int, at21]
        refine Go.mk (@wpc_e _ _ _ _ (.bl true) ⟨[], sto ++ ext ++ ext2⟩ (wp_whole _ ⟨rfl, rfl⟩) ?_)
        simp only [↓wp_bnd, ↓wp_pure, ↓wp_mVar, ↓wp_oVar, ↓wp_oE, ↓wp_mFrz, ↓wp_mRV, ↓wp_m1, ↓wp_m2, ↓wp_mB, ↓wp_mChain, ↓wp_mAnd, ↓wp_mOr, ↓wp_mNot, ↓wp_mTru, ↓wp_mIf, ↓wp_mAndV, ↓wp_mOrV, ↓wp_mNotV, ↓wp_aNil, ↓wp_aCons, ↓wp_qNil, ↓wp_qCons, ↓wp_mA, ↓wp_mTup, ↓wp_mLst, ↓wp_mIsi, ↓wp_mPart, ↓wp_mSlice, ↓wp_mRg1, ↓wp_mRg2, ↓wp_mRgL, ↓wp_iRg, ↓wp_iLst, ↓wp_mApp, ↓wp_mSeq, ↓wp_mExpr, ↓wp_mRet, ↓wp_mSet, ↓wp_mAsg, ↓wp_mgName, ↓wp_mgNil, ↓wp_mgCons, ↓wp_mgTup, ↓wp_mgSub, ↓wp_mAug, ↓wp_mAugS, ↓wx_mFor, ↓wx_mLc, ↓wx_mCall, ↓wp_mFn, ↓wx_mCallL, tab1_self, ↓wp_mAlloc, ↓wp_mNew, ↓wp_mDGet, ↓wp_mDIn, ↓wp_mDPut, ↓wp_mListK, ↓wp_mPopAt, ↓wp_mScIx, ↓wp_mScLen, ↓wp_mScSlice, Op.get, rs, RV.toD, stV, setW, gets, f1, fII, fAdd, fSub, fMul, fDiv, fMod, fLt, fLe, fGt, fGe, fNeg, asB, truD, isN, fIsN, fNotN, lenD, absD, PD.intD, max2_eq, min2_eq, min3D, listD, tupleD, ixD, isiD, PD.listAt, putAtL, Option.map_some, List.getElem?_cons_zero, List.getElem?_cons_succ, List.set_cons_zero, List.set_cons_succ, List.map_cons, List.map_nil, List.replicate_succ, List.replicate_zero, List.cons_append, List.nil_append, List.append_nil, List.length_cons, List.length_nil, List.length_map, if_true, if_false, Bool.not_true, Bool.not_false, Bool.false_eq_true, decide_true, decide_false, decide_eq_true_eq, and_true, true_and, and_self, reduceIte, Nat.reduceAdd, Nat.reduceSub, Nat.reduceLeDiff, Nat.reduceLT, Nat.reduceEqDiff, Int.reduceLT, Int.reduceLE, Option.isSome_some, Option.isSome_none, Bool.not_eq_true', Bool.if_true_left, at20, eq_name, g1, g2, at21, at_map (p := t) (i := hd - 1) (by omega) (by omega), g3]
        refine Go.mk ⟨(_, ext ++ ext2), ?_, by rw [List.append_assoc]⟩
        rw [← hp, fuel]
        unfold play
        rw [ha]
        dsimp only
        rw [if_pos z, rowsOf_length]
      · obtain ⟨b, b1, b2, b3, b4, I', q', a1, a2⟩ := hstep z
        have ed : deed p m (rowsOf (pre t) C) = .tup [.str "open", .int b.2] := by
          unfold deed
          rw [ha]
          dsimp only
          rw [if_neg z, b1]
        rw [ed]
        simp only [↓wp_bnd, ↓wp_pure, ↓wp_mVar, ↓wp_oVar, ↓wp_oE, ↓wp_mFrz, ↓wp_mRV, ↓wp_m1, ↓wp_m2, ↓wp_mB, ↓wp_mChain, ↓wp_mAnd, ↓wp_mOr, ↓wp_mNot, ↓wp_mTru, ↓wp_mIf, ↓wp_mAndV, ↓wp_mOrV, ↓wp_mNotV, ↓wp_aNil, ↓wp_aCons, ↓wp_qNil, ↓wp_qCons, ↓wp_mA, ↓wp_mTup, ↓wp_mLst, ↓wp_mIsi, ↓wp_mPart, ↓wp_mSlice, ↓wp_mRg1, ↓wp_mRg2, ↓wp_mRgL, ↓wp_iRg, ↓wp_iLst, ↓wp_mApp, ↓wp_mSeq, ↓wp_mExpr, ↓wp_mRet, ↓wp_mSet, ↓wp_mAsg, ↓wp_mgName, ↓wp_mgNil, ↓wp_mgCons, ↓wp_mgTup, ↓wp_mgSub, ↓wp_mAug, ↓wp_mAugS, ↓wx_mFor, ↓wx_mLc, ↓wx_mCall, ↓wp_mFn, ↓wx_mCallL, tab1_self, ↓wp_mAlloc, ↓wp_mNew, ↓wp_mDGet, ↓wp_mDIn, ↓wp_mDPut, ↓wp_mListK, ↓wp_mPopAt, ↓wp_mScIx, ↓wp_mScLen, ↓wp_mScSlice, Op.get, rs, RV.toD, stV, setW, gets, f1, fII, fAdd, fSub, fMul, fDiv, fMod, fLt, fLe, fGt, fGe, fNeg, asB, truD, isN, fIsN, fNotN, lenD, absD, PD.intD, max2_eq, min2_eq, min3D, listD, tupleD, ixD, isiD, PD.listAt, putAtL, Option.map_some, List.getElem?_cons_zero, List.getElem?_cons_succ, List.set_cons_zero, List.set_cons_succ, List.map_cons, List.map_nil, List.replicate_succ, List.replicate_zero, List.cons_append, List.nil_append, List.append_nil, List.length_cons, List.length_nil, List.length_map, if_true, if_false, Bool.not_true, Bool.not_false, Bool.false_eq_true, decide_true, decide_false, decide_eq_true_eq, and_true, true_and, and_self, reduceIte, Nat.reduceAdd, Nat.reduceSub, Nat.reduceLeDiff, Nat.reduceLT, Nat.reduceEqDiff, Int.reduceLT, Int.reduceLE, Option.isSome_some, Option.isSome_none, Bool.not_eq_true', Bool.if_true_left]
        refine Go.mk (@wpc_e _ _ _ _ (.tup [.str "open", .int b.2]) ⟨[], sto ++ ext ++ ext2⟩ (wp_deed _ _ ⟨rfl, rfl⟩) ?_)
        simp only [↓wp_bnd, ↓wp_pure, ↓wp_mVar, ↓wp_oVar, ↓wp_oE, ↓wp_mFrz, ↓wp_mRV, ↓wp_m1, ↓wp_m2, ↓wp_mB, ↓wp_mChain, ↓wp_mAnd, ↓wp_mOr, ↓wp_mNot, ↓wp_mTru, ↓wp_mIf, ↓wp_mAndV, ↓wp_mOrV, ↓wp_mNotV, ↓wp_aNil, ↓wp_aCons, ↓wp_qNil, ↓wp_qCons, ↓wp_mA, ↓wp_mTup, ↓wp_mLst, ↓wp_mIsi, ↓wp_mPart, ↓wp_mSlice, ↓wp_mRg1, ↓wp_mRg2, ↓wp_mRgL, ↓wp_iRg, ↓wp_iLst, ↓wp_mApp, ↓wp_mSeq, ↓wp_mExpr, ↓wp_mRet, ↓wp_mSet, ↓wp_mAsg, ↓wp_mgName, ↓wp_mgNil, ↓wp_mgCons, ↓wp_mgTup, ↓wp_mgSub, ↓wp_mAug, ↓wp_mAugS, ↓wx_mFor, ↓wx_mLc, ↓wx_mCall, ↓wp_mFn, ↓wx_mCallL, tab1_self, ↓wp_mAlloc, ↓wp_mNew, ↓wp_mDGet, ↓wp_mDIn, ↓wp_mDPut, ↓wp_mListK, ↓wp_mPopAt, ↓wp_mScIx, ↓wp_mScLen, ↓wp_mScSlice, Op.get, rs, RV.toD, stV, setW, gets, f1, fII, fAdd, fSub, fMul, fDiv, fMod, fLt, fLe, fGt, fGe, fNeg, asB, truD, isN, fIsN, fNotN, lenD, absD, PD.intD, max2_eq, min2_eq, min3D, listD, tupleD, ixD, isiD, PD.listAt, putAtL, Option.map_some, List.getElem?_cons_zero, List.getElem?_cons_succ, List.set_cons_zero, List.set_cons_succ, List.map_cons, List.map_nil, List.replicate_succ, List.replicate_zero, List.cons_append, List.nil_append, List.append_nil, List.length_cons, List.length_nil, List.length_map, if_true, if_false, Bool.not_true, Bool.not_false, Bool.false_eq_true, decide_true, decide_false, decide_eq_true_eq, and_true, true_and, and_self, reduceIte, Nat.reduceAdd, Nat.reduceSub, Nat.reduceLeDiff, Nat.reduceLT, Nat.reduceEqDiff, Int.reduceLT, Int.reduceLE, Option.isSome_some, Option.isSome_none, Bool.not_eq_true', Bool.if_true_left, fNe_int, at21]
        refine Go.mk (@wpc_e _ _ _ _ (.bl true) ⟨[], sto ++ ext ++ ext2⟩ (wp_whole _ ⟨rfl, rfl⟩) ?_)
        have g1 : 1 ≤ b.2 := by omega
        simp only [↓wp_bnd, ↓wp_pure, ↓wp_mVar, ↓wp_oVar, ↓wp_oE, ↓wp_mFrz, ↓wp_mRV, ↓wp_m1, ↓wp_m2, ↓wp_mB, ↓wp_mChain, ↓wp_mAnd, ↓wp_mOr, ↓wp_mNot, ↓wp_mTru, ↓wp_mIf, ↓wp_mAndV, ↓wp_mOrV, ↓wp_mNotV, ↓wp_aNil, ↓wp_aCons, ↓wp_qNil, ↓wp_qCons, ↓wp_mA, ↓wp_mTup, ↓wp_mLst, ↓wp_mIsi, ↓wp_mPart, ↓wp_mSlice, ↓wp_mRg1, ↓wp_mRg2, ↓wp_mRgL, ↓wp_iRg, ↓wp_iLst, ↓wp_mApp, ↓wp_mSeq, ↓wp_mExpr, ↓wp_mRet, ↓wp_mSet, ↓wp_mAsg, ↓wp_mgName, ↓wp_mgNil, ↓wp_mgCons, ↓wp_mgTup, ↓wp_mgSub, ↓wp_mAug, ↓wp_mAugS, ↓wx_mFor, ↓wx_mLc, ↓wx_mCall, ↓wp_mFn, ↓wx_mCallL, tab1_self, ↓wp_mAlloc, ↓wp_mNew, ↓wp_mDGet, ↓wp_mDIn, ↓wp_mDPut, ↓wp_mListK, ↓wp_mPopAt, ↓wp_mScIx, ↓wp_mScLen, ↓wp_mScSlice, Op.get, rs, RV.toD, stV, setW, gets, f1, fII, fAdd, fSub, fMul, fDiv, fMod, fLt, fLe, fGt, fGe, fNeg, asB, truD, isN, fIsN, fNotN, lenD, absD, PD.intD, max2_eq, min2_eq, min3D, listD, tupleD, ixD, isiD, PD.listAt, putAtL, Option.map_some, List.getElem?_cons_zero, List.getElem?_cons_succ, List.set_cons_zero, List.set_cons_succ, List.map_cons, List.map_nil, List.replicate_succ, List.replicate_zero, List.cons_append, List.nil_append, List.append_nil, List.length_cons, List.length_nil, List.length_map, if_true, if_false, Bool.not_true, Bool.not_false, Bool.false_eq_true, decide_true, decide_false, decide_eq_true_eq, and_true, true_and, and_self, reduceIte, Nat.reduceAdd, Nat.reduceSub, Nat.reduceLeDiff, Nat.reduceLT, Nat.reduceEqDiff, Int.reduceLT, Int.reduceLE, Option.isSome_some, Option.isSome_none, Bool.not_eq_true', Bool.if_true_left, at20, at21, eq_open_name, ne_open, g1, b3, fIn, inD_ints, b4, cutD_map, cut_to (p := t) (c := b.2) (by omega) (by omega), sumD_map]
        refine Go.mk ⟨by omega, @wpc_e _ _ _ _ (encSt p m (rowsOf (pre t) (C ++ [b.2]))) ⟨[], sto ++ ext ++ ext2⟩ (wp_told (by rw [rowsOf_length]; omega) (by rw [rowsOf_app]; exact ⟨rfl, rfl⟩)) ?_⟩
        simp only [↓wp_bnd, ↓wp_pure, ↓wp_mVar, ↓wp_oVar, ↓wp_oE, ↓wp_mFrz, ↓wp_mRV, ↓wp_m1, ↓wp_m2, ↓wp_mB, ↓wp_mChain, ↓wp_mAnd, ↓wp_mOr, ↓wp_mNot, ↓wp_mTru, ↓wp_mIf, ↓wp_mAndV, ↓wp_mOrV, ↓wp_mNotV, ↓wp_aNil, ↓wp_aCons, ↓wp_qNil, ↓wp_qCons, ↓wp_mA, ↓wp_mTup, ↓wp_mLst, ↓wp_mIsi, ↓wp_mPart, ↓wp_mSlice, ↓wp_mRg1, ↓wp_mRg2, ↓wp_mRgL, ↓wp_iRg, ↓wp_iLst, ↓wp_mApp, ↓wp_mSeq, ↓wp_mExpr, ↓wp_mRet, ↓wp_mSet, ↓wp_mAsg, ↓wp_mgName, ↓wp_mgNil, ↓wp_mgCons, ↓wp_mgTup, ↓wp_mgSub, ↓wp_mAug, ↓wp_mAugS, ↓wx_mFor, ↓wx_mLc, ↓wx_mCall, ↓wp_mFn, ↓wx_mCallL, tab1_self, ↓wp_mAlloc, ↓wp_mNew, ↓wp_mDGet, ↓wp_mDIn, ↓wp_mDPut, ↓wp_mListK, ↓wp_mPopAt, ↓wp_mScIx, ↓wp_mScLen, ↓wp_mScSlice, Op.get, rs, RV.toD, stV, setW, gets, f1, fII, fAdd, fSub, fMul, fDiv, fMod, fLt, fLe, fGt, fGe, fNeg, asB, truD, isN, fIsN, fNotN, lenD, absD, PD.intD, max2_eq, min2_eq, min3D, listD, tupleD, ixD, isiD, PD.listAt, putAtL, Option.map_some, List.getElem?_cons_zero, List.getElem?_cons_succ, List.set_cons_zero, List.set_cons_succ, List.map_cons, List.map_nil, List.replicate_succ, List.replicate_zero, List.cons_append, List.nil_append, List.append_nil, List.length_cons, List.length_nil, List.length_map, if_true, if_false, Bool.not_true, Bool.not_false, Bool.false_eq_true, decide_true, decide_false, decide_eq_true_eq, and_true, true_and, and_self, reduceIte, Nat.reduceAdd, Nat.reduceSub, Nat.reduceLeDiff, Nat.reduceLT, Nat.reduceEqDiff, Int.reduceLT, Int.reduceLE, Option.isSome_some, Option.isSome_none, Bool.not_eq_true', Bool.if_true_left]
        refine Go.mk ⟨C ++ [b.2], q', SV.d (.int k), SV.d (.tup [encSt p m (rowsOf (pre t) C), .tup [.str "open", .int b.2]]), SV.d (.tup [.str "open", .int b.2]), ext ++ ext2, by rw [List.length_append, hC]; rfl, I', a1, by omega, ?_, ?_⟩
        · rw [← hp, fuel]
          conv => rhs; unfold play
          rw [ha]
          dsimp only
          rw [if_neg z, b1]
          dsimp only
          rw [rowsOf_app]
        · rw [List.map_append, List.append_assoc]
          rfl
    · rintro w ⟨C, q, x9, x10, x11, ext, hC, I, ha, hb, hp, rfl⟩
      exfalso
      obtain ⟨r, e, _⟩ := T.step I ha
      have q0 : 0 ≤ q.1 := by rw [← e]; exact numN_nonneg _ _
      rw [rgD_rng, List.length_map, rng_length] at hb
      omega
  · intro i
    simp only [↓wp_bnd, ↓wp_pure, ↓wp_mVar, ↓wp_oVar, ↓wp_oE, ↓wp_mFrz, ↓wp_mRV, ↓wp_m1, ↓wp_m2, ↓wp_mB, ↓wp_mChain, ↓wp_mAnd, ↓wp_mOr, ↓wp_mNot, ↓wp_mTru, ↓wp_mIf, ↓wp_mAndV, ↓wp_mOrV, ↓wp_mNotV, ↓wp_aNil, ↓wp_aCons, ↓wp_qNil, ↓wp_qCons, ↓wp_mA, ↓wp_mTup, ↓wp_mLst, ↓wp_mIsi, ↓wp_mPart, ↓wp_mSlice, ↓wp_mRg1, ↓wp_mRg2, ↓wp_mRgL, ↓wp_iRg, ↓wp_iLst, ↓wp_mApp, ↓wp_mSeq, ↓wp_mExpr, ↓wp_mRet, ↓wp_mSet, ↓wp_mAsg, ↓wp_mgName, ↓wp_mgNil, ↓wp_mgCons, ↓wp_mgTup, ↓wp_mgSub, ↓wp_mAug, ↓wp_mAugS, ↓wx_mFor, ↓wx_mLc, ↓wx_mCall, ↓wp_mFn, ↓wx_mCallL, tab1_self, ↓wp_mAlloc, ↓wp_mNew, ↓wp_mDGet, ↓wp_mDIn, ↓wp_mDPut, ↓wp_mListK, ↓wp_mPopAt, ↓wp_mScIx, ↓wp_mScLen, ↓wp_mScSlice, Op.get, rs, RV.toD, stV, setW, gets, f1, fII, fAdd, fSub, fMul, fDiv, fMod, fLt, fLe, fGt, fGe, fNeg, asB, truD, isN, fIsN, fNotN, lenD, absD, PD.intD, max2_eq, min2_eq, min3D, listD, tupleD, ixD, isiD, PD.listAt, putAtL, Option.map_some, List.getElem?_cons_zero, List.getElem?_cons_succ, List.set_cons_zero, List.set_cons_succ, List.map_cons, List.map_nil, List.replicate_succ, List.replicate_zero, List.cons_append, List.nil_append, List.append_nil, List.length_cons, List.length_nil, List.length_map, if_true, if_false, Bool.not_true, Bool.not_false, Bool.false_eq_true, decide_true, decide_false, decide_eq_true_eq, and_true, true_and, and_self, reduceIte, Nat.reduceAdd, Nat.reduceSub, Nat.reduceLeDiff, Nat.reduceLT, Nat.reduceEqDiff, Int.reduceLT, Int.reduceLE, Option.isSome_some, Option.isSome_none, Bool.not_eq_true', Bool.if_true_left]
    exact ⟨hq i.2⟩
end
end K73

set_option maxHeartbeats 1000000
namespace K73
open PySem PySem.Spec PyProof.Rows L2 PD
section
variable {p : List Int} {l c h m : Int} {sto : List O} {Q : D → Wd → Prop} {j : Nat}
def keysN (p : List Int) : List NK := (rng 0 (p.length + 1)).flatMap fun l => (rng 0 (p.length + 1)).flatMap fun h => (rng 0 (p.sum + 1)).map fun m => (sl p l h, m)
theorem mem_keysN {p : List Int} {l h m : Int} (r : RowI p l h m) (hm : m ≤ p.sum) : ((sl p l h, m) : NK) ∈ keysN p := by
  have h1 := r.l0
  have h2 := r.lh
  have h3 := r.hn
  have h4 := r.row.lo
  unfold keysN
  rw [List.mem_flatMap]
  refine ⟨l, mem_rng.mpr (by omega), ?_⟩
  rw [List.mem_flatMap]
  refine ⟨h, mem_rng.mpr (by omega), ?_⟩
  rw [List.mem_map]
  exact ⟨m, mem_rng.mpr (by omega), rfl⟩
theorem keysN_len {p : List Int} (s : Sm p) : (keysN p).length < 16777216 := by
  unfold keysN
  rw [flat_len _ ((p.length + 1) * (p.sum + 1).toNat), rng_length]
  · have h1 := s.len
    have h2 := s.sum
    have e1 : ((p.length : Int) + 1 - 0).toNat = p.length + 1 := by omega
    rw [e1]
    have h3 : (p.sum + 1).toNat ≤ 61 := by omega
    have h4 : (p.length + 1) * (p.sum + 1).toNat ≤ 11 * 61 := Nat.mul_le_mul (by omega) h3
    have h5 : (p.length + 1) * ((p.length + 1) * (p.sum + 1).toNat) ≤ 11 * (11 * 61) := Nat.mul_le_mul (by omega) h4
    omega
  · intro l
    rw [flat_len _ (p.sum + 1).toNat, rng_length]
    · congr 1
    · intro h; rw [List.length_map, rng_length]; congr 1; omega
def valN (k : NK) : Int := numN k.1 k.2
abbrev TabN (p : List Int) (kvs : List (NK × D)) : Prop := Tab (keysN p) valN kvs
theorem keyN_map (ps : List Int) (m : Int) : keyNst (.tup [.tup (ps.map D.int), .int m]) = some (ps, m) := by
  show (match intsD (ps.map D.int) with | some ns => some (ns, m) | none => none) = _
  rw [intsD_map]
theorem dget_n {kvs : List (NK × D)} (hj : sto[j]? = some (.dn kvs)) (ps : List Int) (m : Int) : dget sto (.o j) (.tup [.tup (ps.map D.int), .int m]) = some (valD kvs (ps, m)) := by
  unfold dget
  dsimp only
  rw [hj]
  dsimp only
  rw [keyN_map]
theorem dput_n {kvs : List (NK × D)} (hj : sto[j]? = some (.dn kvs)) (hl : kvs.length < 16777216) (ps : List Int) (m : Int) (x : D) : dput sto (.o j) (.tup [.tup (ps.map D.int), .int m]) x = some (sto.set j (.dn (putDk kvs (ps, m) x))) := by
  unfold dput
  dsimp only
  rw [hj]
  dsimp only
  rw [keyN_map]
  dsimp only
  rw [if_pos hl]
theorem maxD_map {ps : List Int} (hne : ps ≠ []) : ∃ M, maxD (DI ps) = some (.d (.int M)) ∧ M ∈ ps ∧ ∀ x ∈ ps, x ≤ M := by
  cases ps with
  | nil => exact absurd rfl hne
  | cons x ps =>
    have e : lmax (x :: ps) = some (ps.foldl imax x) := rfl
    obtain ⟨h1, h2⟩ := lmax_ok e
    refine ⟨_, ?_, h1, h2⟩
    unfold maxD onInts DI
    dsimp only
    rw [intsD_map]
    rfl
def OkL (p : List Int) (n : Nat) (on : Fn) : Prop := ∀ (l h m : Int) (sto : List O) (j : Nat) (kvs : List (NK × D)), RowI p l h m → h - l ≤ n → sto[j]? = some (.dn kvs) → TabN p kvs →
  wp (on [DI (sl p l h), .int m, .o j]) ⟨[], sto⟩ fun d w' => ∃ i : { kvs' : List (NK × D) // TabN p kvs' }, d = .int (numN (sl p l h) m) ∧ w' = ⟨[], sto.set j (.dn i.1)⟩
def bv (o : Option (Int × Int)) : Int := match o with
  | none => -1
  | some q => q.1 + 1
theorem opening_ok (s : Sm p) : ∀ n : Nat, OkL p n (m_law_opening n)
  | 0 => fun l h m sto j kvs r hn hj T => by
    exfalso
    have h1 := r.row.ne
    have h2 := sl_length r.l0 r.lh r.hn
    exact h1 (List.length_eq_zero_iff.mp (by omega))
  | n + 1 => fun l h m sto j kvs r hn hj T => by
    have h0 := r.l0
    have h1 := r.lh
    have h2 := r.hn
    have h3 := r.row.lo
    have h4 := s.len
    have a4 := r.row.hi
    have hs : (sl p l h).sum ≤ p.sum := by
      have h4 := sum_cut p l.toNat
      have h5 := sum_cut (p.drop l.toNat) (h.toNat - l.toNat)
      have h6 := sum_nn (ps := p.take l.toNat) fun x hx => s.nn x (List.mem_of_mem_take hx)
      have h7 := sum_nn (ps := (p.drop l.toNat).drop (h.toNat - l.toNat)) fun x hx => s.nn x (List.mem_of_mem_drop (List.mem_of_mem_drop hx))
      have : (sl p l h).sum = ((p.drop l.toNat).take (h.toNat - l.toNat)).sum := rfl
      omega
    have hs6 := s.sum
    have hk := mem_keysN r (by omega)
    have tl : ∀ {kvs}, TabN p kvs → kvs.length < 16777216 := fun T => Nat.lt_of_le_of_lt T.len (keysN_len s)
    have hlen := sl_length h0 h1 h2
    obtain ⟨M, e1, e2, e3⟩ := maxD_map r.row.ne
    unfold m_law_opening
    rcases T.val (sl p l h, m) with e | e
    · by_cases hnm : M ≤ (sl p l h).sum - m
      · have nn : ¬ Named (sl p l h) m := by
          rintro ⟨x, hx, hlt⟩
          have := e3 x hx
          omega
        simp only [↓wp_bnd, ↓wp_pure, ↓wp_mVar, ↓wp_oVar, ↓wp_oE, ↓wp_mFrz, ↓wp_mRV, ↓wp_m1, ↓wp_m2, ↓wp_mB, ↓wp_mChain, ↓wp_mAnd, ↓wp_mOr, ↓wp_mNot, ↓wp_mTru, ↓wp_mIf, ↓wp_mAndV, ↓wp_mOrV, ↓wp_mNotV, ↓wp_aNil, ↓wp_aCons, ↓wp_qNil, ↓wp_qCons, ↓wp_mA, ↓wp_mTup, ↓wp_mLst, ↓wp_mIsi, ↓wp_mPart, ↓wp_mSlice, ↓wp_mRg1, ↓wp_mRg2, ↓wp_mRgL, ↓wp_iRg, ↓wp_iLst, ↓wp_mApp, ↓wp_mSeq, ↓wp_mExpr, ↓wp_mRet, ↓wp_mSet, ↓wp_mAsg, ↓wp_mgName, ↓wp_mgNil, ↓wp_mgCons, ↓wp_mgTup, ↓wp_mgSub, ↓wp_mAug, ↓wp_mAugS, ↓wx_mFor, ↓wx_mLc, ↓wx_mCall, ↓wp_mFn, ↓wx_mCallL, tab1_self, ↓wp_mAlloc, ↓wp_mNew, ↓wp_mDGet, ↓wp_mDIn, ↓wp_mDPut, ↓wp_mListK, ↓wp_mPopAt, ↓wp_mScIx, ↓wp_mScLen, ↓wp_mScSlice, Op.get, rs, RV.toD, stV, setW, gets, f1, fII, fAdd, fSub, fMul, fDiv, fMod, fLt, fLe, fGt, fGe, fNeg, asB, truD, isN, fIsN, fNotN, lenD, absD, PD.intD, max2_eq, min2_eq, min3D, listD, tupleD, ixD, isiD, PD.listAt, putAtL, Option.map_some, List.getElem?_cons_zero, List.getElem?_cons_succ, List.set_cons_zero, List.set_cons_succ, List.map_cons, List.map_nil, List.replicate_succ, List.replicate_zero, List.cons_append, List.nil_append, List.append_nil, List.length_cons, List.length_nil, List.length_map, if_true, if_false, Bool.not_true, Bool.not_false, Bool.false_eq_true, decide_true, decide_false, decide_eq_true_eq, and_true, true_and, and_self, reduceIte, Nat.reduceAdd, Nat.reduceSub, Nat.reduceLeDiff, Nat.reduceLT, Nat.reduceEqDiff, Int.reduceLT, Int.reduceLE, Option.isSome_some, Option.isSome_none, Bool.not_eq_true', Bool.if_true_left, hj, dget_n hj, e, e1, sumD_map, hnm]
        have cong : ∀ c, 1 ≤ c → c < h - l → (sl p l h).take c.toNat = sl p l (l + c) ∧ (sl p l h).drop c.toNat = sl p (l + c) h := fun c c1 c2 => by
          refine ⟨?_, ?_⟩
          · rw [← sl_take h0 (show l ≤ l + c by omega) (show l + c ≤ h by omega), show l + c - l = c by omega]
          · rw [← sl_drop h0 (show l ≤ l + c by omega) (show l + c ≤ h by omega), show l + c - l = c by omega]
        refine ⟨rg2_ok (by omega) (by omega) (by omega) (by omega), ?_⟩
        refine @wpf_x (SV × SV × SV × SV × SV × SV × { kvs' : List (NK × D) // TabN p kvs' }) _ _ _ _ (fun _ => .nx) (fun i => ⟨[SV.d (DI (sl p l h)), SV.d (.int m), SV.d (.o j), SV.d (.tup [.tup ((sl p l h).map D.int), .int m]), SV.d (.int (bv (bestB (cutV numN (sl p l h) m) (rng 1 (sl p l h).length)))), i.1, i.2.1, i.2.2.1, i.2.2.2.1, i.2.2.2.2.1, i.2.2.2.2.2.1], sto.set j (.dn i.2.2.2.2.2.2.1)⟩) ?_ ?_
        · refine wp_for (fun i w => ∃ (x5 x6 x7 x8 x9 x10 : SV) (kvs' : List (NK × D)), TabN p kvs' ∧ w = ⟨[SV.d (DI (sl p l h)), SV.d (.int m), SV.d (.o j), SV.d (.tup [.tup ((sl p l h).map D.int), .int m]), SV.d (.int (bv (((rng 1 (sl p l h).length).take i).foldl (stepB (cutV numN (sl p l h) m)) none))), x5, x6, x7, x8, x9, x10], sto.set j (.dn kvs')⟩) ?_ ?_ ?_
          · exact ⟨_, _, _, _, _, _, kvs, T, by rw [set_same hj]; rfl⟩
          · rintro i d w hd ⟨x5, x6, x7, x8, x9, x10, kvs1, T1, rfl⟩
            obtain ⟨c, hc, rfl, k1, k2⟩ := rgD_at hd
            obtain ⟨c1, c2⟩ := cong c k1 (by omega)
            have lc := sl_length (p := p) h0 (show l ≤ l + c by omega) (by omega)
            have ld := sl_length (p := p) (show 0 ≤ l + c by omega) (show l + c ≤ h by omega) h2
            have b3 := sum_cut (sl p l h) c.toNat
            rw [c1, c2] at b3
            have b0 := sum_nn (ps := sl p l (l + c)) fun x hx => s.nn x (List.mem_of_mem_drop (List.mem_of_mem_take hx))
            have b1 := sum_nn (ps := sl p (l + c) h) fun x hx => s.nn x (List.mem_of_mem_drop (List.mem_of_mem_take hx))
            have d1 : 0 ≤ imax 0 (m - (sl p (l + c) h).sum) ∧ imax 0 (m - (sl p (l + c) h).sum) ≤ 60 := by unfold imax; split <;> omega
            have d2 : 0 ≤ imin m (sl p l (l + c)).sum ∧ imin m (sl p l (l + c)).sum ≤ 60 := by unfold imin; split <;> omega
            simp only [↓wp_bnd, ↓wp_pure, ↓wp_mVar, ↓wp_oVar, ↓wp_oE, ↓wp_mFrz, ↓wp_mRV, ↓wp_m1, ↓wp_m2, ↓wp_mB, ↓wp_mChain, ↓wp_mAnd, ↓wp_mOr, ↓wp_mNot, ↓wp_mTru, ↓wp_mIf, ↓wp_mAndV, ↓wp_mOrV, ↓wp_mNotV, ↓wp_aNil, ↓wp_aCons, ↓wp_qNil, ↓wp_qCons, ↓wp_mA, ↓wp_mTup, ↓wp_mLst, ↓wp_mIsi, ↓wp_mPart, ↓wp_mSlice, ↓wp_mRg1, ↓wp_mRg2, ↓wp_mRgL, ↓wp_iRg, ↓wp_iLst, ↓wp_mApp, ↓wp_mSeq, ↓wp_mExpr, ↓wp_mRet, ↓wp_mSet, ↓wp_mAsg, ↓wp_mgName, ↓wp_mgNil, ↓wp_mgCons, ↓wp_mgTup, ↓wp_mgSub, ↓wp_mAug, ↓wp_mAugS, ↓wx_mFor, ↓wx_mLc, ↓wx_mCall, ↓wp_mFn, ↓wx_mCallL, tab1_self, ↓wp_mAlloc, ↓wp_mNew, ↓wp_mDGet, ↓wp_mDIn, ↓wp_mDPut, ↓wp_mListK, ↓wp_mPopAt, ↓wp_mScIx, ↓wp_mScLen, ↓wp_mScSlice, Op.get, rs, RV.toD, stV, setW, gets, f1, fII, fAdd, fSub, fMul, fDiv, fMod, fLt, fLe, fGt, fGe, fNeg, asB, truD, isN, fIsN, fNotN, lenD, absD, PD.intD, max2_eq, min2_eq, min3D, listD, tupleD, ixD, isiD, PD.listAt, putAtL, Option.map_some, List.getElem?_cons_zero, List.getElem?_cons_succ, List.set_cons_zero, List.set_cons_succ, List.map_cons, List.map_nil, List.replicate_succ, List.replicate_zero, List.cons_append, List.nil_append, List.append_nil, List.length_cons, List.length_nil, List.length_map, if_true, if_false, Bool.not_true, Bool.not_false, Bool.false_eq_true, decide_true, decide_false, decide_eq_true_eq, and_true, true_and, and_self, reduceIte, Nat.reduceAdd, Nat.reduceSub, Nat.reduceLeDiff, Nat.reduceLT, Nat.reduceEqDiff, Int.reduceLT, Int.reduceLE, Option.isSome_some, Option.isSome_none, Bool.not_eq_true', Bool.if_true_left, cutD_map, cut_to (p := sl p l h) (c := c) (by omega) (by omega), cut_from (p := sl p l h) (c := c) (by omega) (by omega), c1, c2, sumD_map]
            refine ⟨rg2_ok (by omega) (by omega) (by omega) (by omega), ?_⟩
            refine @wpf_x (SV × SV × { kvs' : List (NK × D) // TabN p kvs' }) _ _ _ _ (fun _ => .nx) (fun z => ⟨[SV.d (DI (sl p l h)), SV.d (.int m), SV.d (.o j), SV.d (.tup [.tup ((sl p l h).map D.int), .int m]), SV.d (.int (bv (((rng 1 (sl p l h).length).take i).foldl (stepB (cutV numN (sl p l h) m)) none))), SV.d (.int c), SV.d (DI (sl p l (l + c))), SV.d (DI (sl p (l + c) h)), SV.d (.int (cutW numN (sl p l (l + c)) (sl p (l + c) h) m)), z.1, z.2.1], sto.set j (.dn z.2.2.1)⟩) ?_ ?_
            · refine wp_for (fun i' w => ∃ (x9 x10 : SV) (kvs' : List (NK × D)), TabN p kvs' ∧ w = ⟨[SV.d (DI (sl p l h)), SV.d (.int m), SV.d (.o j), SV.d (.tup [.tup ((sl p l h).map D.int), .int m]), SV.d (.int (bv (((rng 1 (sl p l h).length).take i).foldl (stepB (cutV numN (sl p l h) m)) none))), SV.d (.int c), SV.d (DI (sl p l (l + c))), SV.d (DI (sl p (l + c) h)), SV.d (.int (((rng (imax 0 (m - (sl p (l + c) h).sum)) (imin m (sl p l (l + c)).sum + 1)).take i').foldl (fun w k => imax w (sideV numN (sl p l (l + c)) (sl p (l + c) h) m k)) 0)), x9, x10], sto.set j (.dn kvs')⟩) ?_ ?_ ?_
              · exact ⟨_, _, kvs1, T1, rfl⟩
              · rintro i' d w hd' ⟨x9, x10, kvs2, T2, rfl⟩
                obtain ⟨k, hk', rfl, k3, k4⟩ := rgD_at hd'
                have fit : FitsI p l (l + c) h m k := mem_fits.mp (mem_rng.mpr ⟨k3, k4⟩)
                obtain ⟨r1, r2⟩ := r.parts (show l < l + c by omega) (show l + c < h by omega) fit
                have ihL := fun (q : 0 < k) (kvs3 : List (NK × D)) (T3 : TabN p kvs3) => opening_ok s n l (l + c) k (sto.set j (.dn kvs3)) j kvs3 (r1 q) (by omega) (set_get hj) T3
                have ihR := fun (q : k < m) (kvs3 : List (NK × D)) (T3 : TabN p kvs3) => opening_ok s n (l + c) h (m - k) (sto.set j (.dn kvs3)) j kvs3 (r2 q) (by omega) (set_get hj) T3
                by_cases q0 : 0 < k
                · by_cases qm : k < m
                  · simp only [↓wp_bnd, ↓wp_pure, ↓wp_mVar, ↓wp_oVar, ↓wp_oE, ↓wp_mFrz, ↓wp_mRV, ↓wp_m1, ↓wp_m2, ↓wp_mB, ↓wp_mChain, ↓wp_mAnd, ↓wp_mOr, ↓wp_mNot, ↓wp_mTru, ↓wp_mIf, ↓wp_mAndV, ↓wp_mOrV, ↓wp_mNotV, ↓wp_aNil, ↓wp_aCons, ↓wp_qNil, ↓wp_qCons, ↓wp_mA, ↓wp_mTup, ↓wp_mLst, ↓wp_mIsi, ↓wp_mPart, ↓wp_mSlice, ↓wp_mRg1, ↓wp_mRg2, ↓wp_mRgL, ↓wp_iRg, ↓wp_iLst, ↓wp_mApp, ↓wp_mSeq, ↓wp_mExpr, ↓wp_mRet, ↓wp_mSet, ↓wp_mAsg, ↓wp_mgName, ↓wp_mgNil, ↓wp_mgCons, ↓wp_mgTup, ↓wp_mgSub, ↓wp_mAug, ↓wp_mAugS, ↓wx_mFor, ↓wx_mLc, ↓wx_mCall, ↓wp_mFn, ↓wx_mCallL, tab1_self, ↓wp_mAlloc, ↓wp_mNew, ↓wp_mDGet, ↓wp_mDIn, ↓wp_mDPut, ↓wp_mListK, ↓wp_mPopAt, ↓wp_mScIx, ↓wp_mScLen, ↓wp_mScSlice, Op.get, rs, RV.toD, stV, setW, gets, f1, fII, fAdd, fSub, fMul, fDiv, fMod, fLt, fLe, fGt, fGe, fNeg, asB, truD, isN, fIsN, fNotN, lenD, absD, PD.intD, max2_eq, min2_eq, min3D, listD, tupleD, ixD, isiD, PD.listAt, putAtL, Option.map_some, List.getElem?_cons_zero, List.getElem?_cons_succ, List.set_cons_zero, List.set_cons_succ, List.map_cons, List.map_nil, List.replicate_succ, List.replicate_zero, List.cons_append, List.nil_append, List.append_nil, List.length_cons, List.length_nil, List.length_map, if_true, if_false, Bool.not_true, Bool.not_false, Bool.false_eq_true, decide_true, decide_false, decide_eq_true_eq, and_true, true_and, and_self, reduceIte, Nat.reduceAdd, Nat.reduceSub, Nat.reduceLeDiff, Nat.reduceLT, Nat.reduceEqDiff, Int.reduceLT, Int.reduceLE, Option.isSome_some, Option.isSome_none, Bool.not_eq_true', Bool.if_true_left, q0, qm]
                    refine @wpc_x _ { kvs' : List (NK × D) // TabN p kvs' } _ _ _ (fun _ => .int (numN (sl p l (l + c)) k)) (fun z => ⟨[], (sto.set j (.dn kvs2)).set j (.dn z.1)⟩) (ihL q0 kvs2 T2) ?_
                    intro z3
                    simp only [↓wp_bnd, ↓wp_pure, ↓wp_mVar, ↓wp_oVar, ↓wp_oE, ↓wp_mFrz, ↓wp_mRV, ↓wp_m1, ↓wp_m2, ↓wp_mB, ↓wp_mChain, ↓wp_mAnd, ↓wp_mOr, ↓wp_mNot, ↓wp_mTru, ↓wp_mIf, ↓wp_mAndV, ↓wp_mOrV, ↓wp_mNotV, ↓wp_aNil, ↓wp_aCons, ↓wp_qNil, ↓wp_qCons, ↓wp_mA, ↓wp_mTup, ↓wp_mLst, ↓wp_mIsi, ↓wp_mPart, ↓wp_mSlice, ↓wp_mRg1, ↓wp_mRg2, ↓wp_mRgL, ↓wp_iRg, ↓wp_iLst, ↓wp_mApp, ↓wp_mSeq, ↓wp_mExpr, ↓wp_mRet, ↓wp_mSet, ↓wp_mAsg, ↓wp_mgName, ↓wp_mgNil, ↓wp_mgCons, ↓wp_mgTup, ↓wp_mgSub, ↓wp_mAug, ↓wp_mAugS, ↓wx_mFor, ↓wx_mLc, ↓wx_mCall, ↓wp_mFn, ↓wx_mCallL, tab1_self, ↓wp_mAlloc, ↓wp_mNew, ↓wp_mDGet, ↓wp_mDIn, ↓wp_mDPut, ↓wp_mListK, ↓wp_mPopAt, ↓wp_mScIx, ↓wp_mScLen, ↓wp_mScSlice, Op.get, rs, RV.toD, stV, setW, gets, f1, fII, fAdd, fSub, fMul, fDiv, fMod, fLt, fLe, fGt, fGe, fNeg, asB, truD, isN, fIsN, fNotN, lenD, absD, PD.intD, max2_eq, min2_eq, min3D, listD, tupleD, ixD, isiD, PD.listAt, putAtL, Option.map_some, List.getElem?_cons_zero, List.getElem?_cons_succ, List.set_cons_zero, List.set_cons_succ, List.map_cons, List.map_nil, List.replicate_succ, List.replicate_zero, List.cons_append, List.nil_append, List.append_nil, List.length_cons, List.length_nil, List.length_map, if_true, if_false, Bool.not_true, Bool.not_false, Bool.false_eq_true, decide_true, decide_false, decide_eq_true_eq, and_true, true_and, and_self, reduceIte, Nat.reduceAdd, Nat.reduceSub, Nat.reduceLeDiff, Nat.reduceLT, Nat.reduceEqDiff, Int.reduceLT, Int.reduceLE, Option.isSome_some, Option.isSome_none, Bool.not_eq_true', Bool.if_true_left, q0, qm, List.set_set]
                    refine Go.mk (@wpc_x _ { kvs' : List (NK × D) // TabN p kvs' } _ _ _ (fun _ => .int (numN (sl p (l + c) h) (m - k))) (fun z => ⟨[], (sto.set j (.dn z3.1)).set j (.dn z.1)⟩) (ihR qm z3.1 z3.2) ?_)
                    intro z4
                    simp only [↓wp_bnd, ↓wp_pure, ↓wp_mVar, ↓wp_oVar, ↓wp_oE, ↓wp_mFrz, ↓wp_mRV, ↓wp_m1, ↓wp_m2, ↓wp_mB, ↓wp_mChain, ↓wp_mAnd, ↓wp_mOr, ↓wp_mNot, ↓wp_mTru, ↓wp_mIf, ↓wp_mAndV, ↓wp_mOrV, ↓wp_mNotV, ↓wp_aNil, ↓wp_aCons, ↓wp_qNil, ↓wp_qCons, ↓wp_mA, ↓wp_mTup, ↓wp_mLst, ↓wp_mIsi, ↓wp_mPart, ↓wp_mSlice, ↓wp_mRg1, ↓wp_mRg2, ↓wp_mRgL, ↓wp_iRg, ↓wp_iLst, ↓wp_mApp, ↓wp_mSeq, ↓wp_mExpr, ↓wp_mRet, ↓wp_mSet, ↓wp_mAsg, ↓wp_mgName, ↓wp_mgNil, ↓wp_mgCons, ↓wp_mgTup, ↓wp_mgSub, ↓wp_mAug, ↓wp_mAugS, ↓wx_mFor, ↓wx_mLc, ↓wx_mCall, ↓wp_mFn, ↓wx_mCallL, tab1_self, ↓wp_mAlloc, ↓wp_mNew, ↓wp_mDGet, ↓wp_mDIn, ↓wp_mDPut, ↓wp_mListK, ↓wp_mPopAt, ↓wp_mScIx, ↓wp_mScLen, ↓wp_mScSlice, Op.get, rs, RV.toD, stV, setW, gets, f1, fII, fAdd, fSub, fMul, fDiv, fMod, fLt, fLe, fGt, fGe, fNeg, asB, truD, isN, fIsN, fNotN, lenD, absD, PD.intD, max2_eq, min2_eq, min3D, listD, tupleD, ixD, isiD, PD.listAt, putAtL, Option.map_some, List.getElem?_cons_zero, List.getElem?_cons_succ, List.set_cons_zero, List.set_cons_succ, List.map_cons, List.map_nil, List.replicate_succ, List.replicate_zero, List.cons_append, List.nil_append, List.append_nil, List.length_cons, List.length_nil, List.length_map, if_true, if_false, Bool.not_true, Bool.not_false, Bool.false_eq_true, decide_true, decide_false, decide_eq_true_eq, and_true, true_and, and_self, reduceIte, Nat.reduceAdd, Nat.reduceSub, Nat.reduceLeDiff, Nat.reduceLT, Nat.reduceEqDiff, Int.reduceLT, Int.reduceLE, Option.isSome_some, Option.isSome_none, Bool.not_eq_true', Bool.if_true_left, minD2, List.set_set]
                    refine Go.mk ⟨SV.d (.int k), SV.own [D.int (numN (sl p l (l + c)) k), D.int (numN (sl p (l + c) h) (m - k))], z4.1, z4.2, ?_⟩
                    rw [take_snoc hk', List.foldl_append]
                    congr 1
                    show _ = [_, _, _, _, _, _, _, _, SV.d (.int (imax _ (sideV numN (sl p l (l + c)) (sl p (l + c) h) m k))), _, _]
                    unfold sideV
                    rw [if_pos q0, if_pos qm]
                  · simp only [↓wp_bnd, ↓wp_pure, ↓wp_mVar, ↓wp_oVar, ↓wp_oE, ↓wp_mFrz, ↓wp_mRV, ↓wp_m1, ↓wp_m2, ↓wp_mB, ↓wp_mChain, ↓wp_mAnd, ↓wp_mOr, ↓wp_mNot, ↓wp_mTru, ↓wp_mIf, ↓wp_mAndV, ↓wp_mOrV, ↓wp_mNotV, ↓wp_aNil, ↓wp_aCons, ↓wp_qNil, ↓wp_qCons, ↓wp_mA, ↓wp_mTup, ↓wp_mLst, ↓wp_mIsi, ↓wp_mPart, ↓wp_mSlice, ↓wp_mRg1, ↓wp_mRg2, ↓wp_mRgL, ↓wp_iRg, ↓wp_iLst, ↓wp_mApp, ↓wp_mSeq, ↓wp_mExpr, ↓wp_mRet, ↓wp_mSet, ↓wp_mAsg, ↓wp_mgName, ↓wp_mgNil, ↓wp_mgCons, ↓wp_mgTup, ↓wp_mgSub, ↓wp_mAug, ↓wp_mAugS, ↓wx_mFor, ↓wx_mLc, ↓wx_mCall, ↓wp_mFn, ↓wx_mCallL, tab1_self, ↓wp_mAlloc, ↓wp_mNew, ↓wp_mDGet, ↓wp_mDIn, ↓wp_mDPut, ↓wp_mListK, ↓wp_mPopAt, ↓wp_mScIx, ↓wp_mScLen, ↓wp_mScSlice, Op.get, rs, RV.toD, stV, setW, gets, f1, fII, fAdd, fSub, fMul, fDiv, fMod, fLt, fLe, fGt, fGe, fNeg, asB, truD, isN, fIsN, fNotN, lenD, absD, PD.intD, max2_eq, min2_eq, min3D, listD, tupleD, ixD, isiD, PD.listAt, putAtL, Option.map_some, List.getElem?_cons_zero, List.getElem?_cons_succ, List.set_cons_zero, List.set_cons_succ, List.map_cons, List.map_nil, List.replicate_succ, List.replicate_zero, List.cons_append, List.nil_append, List.append_nil, List.length_cons, List.length_nil, List.length_map, if_true, if_false, Bool.not_true, Bool.not_false, Bool.false_eq_true, decide_true, decide_false, decide_eq_true_eq, and_true, true_and, and_self, reduceIte, Nat.reduceAdd, Nat.reduceSub, Nat.reduceLeDiff, Nat.reduceLT, Nat.reduceEqDiff, Int.reduceLT, Int.reduceLE, Option.isSome_some, Option.isSome_none, Bool.not_eq_true', Bool.if_true_left, q0, qm]
                    refine @wpc_x _ { kvs' : List (NK × D) // TabN p kvs' } _ _ _ (fun _ => .int (numN (sl p l (l + c)) k)) (fun z => ⟨[], (sto.set j (.dn kvs2)).set j (.dn z.1)⟩) (ihL q0 kvs2 T2) ?_
                    intro z4
                    simp only [↓wp_bnd, ↓wp_pure, ↓wp_mVar, ↓wp_oVar, ↓wp_oE, ↓wp_mFrz, ↓wp_mRV, ↓wp_m1, ↓wp_m2, ↓wp_mB, ↓wp_mChain, ↓wp_mAnd, ↓wp_mOr, ↓wp_mNot, ↓wp_mTru, ↓wp_mIf, ↓wp_mAndV, ↓wp_mOrV, ↓wp_mNotV, ↓wp_aNil, ↓wp_aCons, ↓wp_qNil, ↓wp_qCons, ↓wp_mA, ↓wp_mTup, ↓wp_mLst, ↓wp_mIsi, ↓wp_mPart, ↓wp_mSlice, ↓wp_mRg1, ↓wp_mRg2, ↓wp_mRgL, ↓wp_iRg, ↓wp_iLst, ↓wp_mApp, ↓wp_mSeq, ↓wp_mExpr, ↓wp_mRet, ↓wp_mSet, ↓wp_mAsg, ↓wp_mgName, ↓wp_mgNil, ↓wp_mgCons, ↓wp_mgTup, ↓wp_mgSub, ↓wp_mAug, ↓wp_mAugS, ↓wx_mFor, ↓wx_mLc, ↓wx_mCall, ↓wp_mFn, ↓wx_mCallL, tab1_self, ↓wp_mAlloc, ↓wp_mNew, ↓wp_mDGet, ↓wp_mDIn, ↓wp_mDPut, ↓wp_mListK, ↓wp_mPopAt, ↓wp_mScIx, ↓wp_mScLen, ↓wp_mScSlice, Op.get, rs, RV.toD, stV, setW, gets, f1, fII, fAdd, fSub, fMul, fDiv, fMod, fLt, fLe, fGt, fGe, fNeg, asB, truD, isN, fIsN, fNotN, lenD, absD, PD.intD, max2_eq, min2_eq, min3D, listD, tupleD, ixD, isiD, PD.listAt, putAtL, Option.map_some, List.getElem?_cons_zero, List.getElem?_cons_succ, List.set_cons_zero, List.set_cons_succ, List.map_cons, List.map_nil, List.replicate_succ, List.replicate_zero, List.cons_append, List.nil_append, List.append_nil, List.length_cons, List.length_nil, List.length_map, if_true, if_false, Bool.not_true, Bool.not_false, Bool.false_eq_true, decide_true, decide_false, decide_eq_true_eq, and_true, true_and, and_self, reduceIte, Nat.reduceAdd, Nat.reduceSub, Nat.reduceLeDiff, Nat.reduceLT, Nat.reduceEqDiff, Int.reduceLT, Int.reduceLE, Option.isSome_some, Option.isSome_none, Bool.not_eq_true', Bool.if_true_left, q0, qm, minD1, List.set_set]
                    refine Go.mk ⟨SV.d (.int k), SV.own [D.int (numN (sl p l (l + c)) k)], z4.1, z4.2, ?_⟩
                    rw [take_snoc hk', List.foldl_append]
                    congr 1
                    show _ = [_, _, _, _, _, _, _, _, SV.d (.int (imax _ (sideV numN (sl p l (l + c)) (sl p (l + c) h) m k))), _, _]
                    unfold sideV
                    rw [if_pos q0, if_neg qm]
                · have qm : k < m := by have := fit.1; omega
                  simp only [↓wp_bnd, ↓wp_pure, ↓wp_mVar, ↓wp_oVar, ↓wp_oE, ↓wp_mFrz, ↓wp_mRV, ↓wp_m1, ↓wp_m2, ↓wp_mB, ↓wp_mChain, ↓wp_mAnd, ↓wp_mOr, ↓wp_mNot, ↓wp_mTru, ↓wp_mIf, ↓wp_mAndV, ↓wp_mOrV, ↓wp_mNotV, ↓wp_aNil, ↓wp_aCons, ↓wp_qNil, ↓wp_qCons, ↓wp_mA, ↓wp_mTup, ↓wp_mLst, ↓wp_mIsi, ↓wp_mPart, ↓wp_mSlice, ↓wp_mRg1, ↓wp_mRg2, ↓wp_mRgL, ↓wp_iRg, ↓wp_iLst, ↓wp_mApp, ↓wp_mSeq, ↓wp_mExpr, ↓wp_mRet, ↓wp_mSet, ↓wp_mAsg, ↓wp_mgName, ↓wp_mgNil, ↓wp_mgCons, ↓wp_mgTup, ↓wp_mgSub, ↓wp_mAug, ↓wp_mAugS, ↓wx_mFor, ↓wx_mLc, ↓wx_mCall, ↓wp_mFn, ↓wx_mCallL, tab1_self, ↓wp_mAlloc, ↓wp_mNew, ↓wp_mDGet, ↓wp_mDIn, ↓wp_mDPut, ↓wp_mListK, ↓wp_mPopAt, ↓wp_mScIx, ↓wp_mScLen, ↓wp_mScSlice, Op.get, rs, RV.toD, stV, setW, gets, f1, fII, fAdd, fSub, fMul, fDiv, fMod, fLt, fLe, fGt, fGe, fNeg, asB, truD, isN, fIsN, fNotN, lenD, absD, PD.intD, max2_eq, min2_eq, min3D, listD, tupleD, ixD, isiD, PD.listAt, putAtL, Option.map_some, List.getElem?_cons_zero, List.getElem?_cons_succ, List.set_cons_zero, List.set_cons_succ, List.map_cons, List.map_nil, List.replicate_succ, List.replicate_zero, List.cons_append, List.nil_append, List.append_nil, List.length_cons, List.length_nil, List.length_map, if_true, if_false, Bool.not_true, Bool.not_false, Bool.false_eq_true, decide_true, decide_false, decide_eq_true_eq, and_true, true_and, and_self, reduceIte, Nat.reduceAdd, Nat.reduceSub, Nat.reduceLeDiff, Nat.reduceLT, Nat.reduceEqDiff, Int.reduceLT, Int.reduceLE, Option.isSome_some, Option.isSome_none, Bool.not_eq_true', Bool.if_true_left, q0, qm]
                  refine @wpc_x _ { kvs' : List (NK × D) // TabN p kvs' } _ _ _ (fun _ => .int (numN (sl p (l + c) h) (m - k))) (fun z => ⟨[], (sto.set j (.dn kvs2)).set j (.dn z.1)⟩) (ihR qm kvs2 T2) ?_
                  intro z4
                  simp only [↓wp_bnd, ↓wp_pure, ↓wp_mVar, ↓wp_oVar, ↓wp_oE, ↓wp_mFrz, ↓wp_mRV, ↓wp_m1, ↓wp_m2, ↓wp_mB, ↓wp_mChain, ↓wp_mAnd, ↓wp_mOr, ↓wp_mNot, ↓wp_mTru, ↓wp_mIf, ↓wp_mAndV, ↓wp_mOrV, ↓wp_mNotV, ↓wp_aNil, ↓wp_aCons, ↓wp_qNil, ↓wp_qCons, ↓wp_mA, ↓wp_mTup, ↓wp_mLst, ↓wp_mIsi, ↓wp_mPart, ↓wp_mSlice, ↓wp_mRg1, ↓wp_mRg2, ↓wp_mRgL, ↓wp_iRg, ↓wp_iLst, ↓wp_mApp, ↓wp_mSeq, ↓wp_mExpr, ↓wp_mRet, ↓wp_mSet, ↓wp_mAsg, ↓wp_mgName, ↓wp_mgNil, ↓wp_mgCons, ↓wp_mgTup, ↓wp_mgSub, ↓wp_mAug, ↓wp_mAugS, ↓wx_mFor, ↓wx_mLc, ↓wx_mCall, ↓wp_mFn, ↓wx_mCallL, tab1_self, ↓wp_mAlloc, ↓wp_mNew, ↓wp_mDGet, ↓wp_mDIn, ↓wp_mDPut, ↓wp_mListK, ↓wp_mPopAt, ↓wp_mScIx, ↓wp_mScLen, ↓wp_mScSlice, Op.get, rs, RV.toD, stV, setW, gets, f1, fII, fAdd, fSub, fMul, fDiv, fMod, fLt, fLe, fGt, fGe, fNeg, asB, truD, isN, fIsN, fNotN, lenD, absD, PD.intD, max2_eq, min2_eq, min3D, listD, tupleD, ixD, isiD, PD.listAt, putAtL, Option.map_some, List.getElem?_cons_zero, List.getElem?_cons_succ, List.set_cons_zero, List.set_cons_succ, List.map_cons, List.map_nil, List.replicate_succ, List.replicate_zero, List.cons_append, List.nil_append, List.append_nil, List.length_cons, List.length_nil, List.length_map, if_true, if_false, Bool.not_true, Bool.not_false, Bool.false_eq_true, decide_true, decide_false, decide_eq_true_eq, and_true, true_and, and_self, reduceIte, Nat.reduceAdd, Nat.reduceSub, Nat.reduceLeDiff, Nat.reduceLT, Nat.reduceEqDiff, Int.reduceLT, Int.reduceLE, Option.isSome_some, Option.isSome_none, Bool.not_eq_true', Bool.if_true_left, minD1, List.set_set]
                  refine Go.mk ⟨SV.d (.int k), SV.own [D.int (numN (sl p (l + c) h) (m - k))], z4.1, z4.2, ?_⟩
                  rw [take_snoc hk', List.foldl_append]
                  congr 1
                  show _ = [_, _, _, _, _, _, _, _, SV.d (.int (imax _ (sideV numN (sl p l (l + c)) (sl p (l + c) h) m k))), _, _]
                  unfold sideV
                  rw [if_neg q0]
              · rintro w ⟨x9, x10, kvs2, T2, rfl⟩
                refine ⟨(x9, x10, ⟨kvs2, T2⟩), rfl, ?_⟩
                rw [rgD_rng, List.length_map, List.take_length]
                rfl
            · intro z
              have ec : cutW numN (sl p l (l + c)) (sl p (l + c) h) m = cutV numN (sl p l h) m c := by unfold cutV; rw [c1, c2]
              rw [ec]
              have nn9 : 0 ≤ cutV numN (sl p l h) m c := (maxB_spec _ _).1
              cases hb : ((rng 1 (sl p l h).length).take i).foldl (stepB (cutV numN (sl p l h) m)) none with
              | none =>
                simp only [↓wp_bnd, ↓wp_pure, ↓wp_mVar, ↓wp_oVar, ↓wp_oE, ↓wp_mFrz, ↓wp_mRV, ↓wp_m1, ↓wp_m2, ↓wp_mB, ↓wp_mChain, ↓wp_mAnd, ↓wp_mOr, ↓wp_mNot, ↓wp_mTru, ↓wp_mIf, ↓wp_mAndV, ↓wp_mOrV, ↓wp_mNotV, ↓wp_aNil, ↓wp_aCons, ↓wp_qNil, ↓wp_qCons, ↓wp_mA, ↓wp_mTup, ↓wp_mLst, ↓wp_mIsi, ↓wp_mPart, ↓wp_mSlice, ↓wp_mRg1, ↓wp_mRg2, ↓wp_mRgL, ↓wp_iRg, ↓wp_iLst, ↓wp_mApp, ↓wp_mSeq, ↓wp_mExpr, ↓wp_mRet, ↓wp_mSet, ↓wp_mAsg, ↓wp_mgName, ↓wp_mgNil, ↓wp_mgCons, ↓wp_mgTup, ↓wp_mgSub, ↓wp_mAug, ↓wp_mAugS, ↓wx_mFor, ↓wx_mLc, ↓wx_mCall, ↓wp_mFn, ↓wx_mCallL, tab1_self, ↓wp_mAlloc, ↓wp_mNew, ↓wp_mDGet, ↓wp_mDIn, ↓wp_mDPut, ↓wp_mListK, ↓wp_mPopAt, ↓wp_mScIx, ↓wp_mScLen, ↓wp_mScSlice, Op.get, rs, RV.toD, stV, setW, gets, f1, fII, fAdd, fSub, fMul, fDiv, fMod, fLt, fLe, fGt, fGe, fNeg, asB, truD, isN, fIsN, fNotN, lenD, absD, PD.intD, max2_eq, min2_eq, min3D, listD, tupleD, ixD, isiD, PD.listAt, putAtL, Option.map_some, List.getElem?_cons_zero, List.getElem?_cons_succ, List.set_cons_zero, List.set_cons_succ, List.map_cons, List.map_nil, List.replicate_succ, List.replicate_zero, List.cons_append, List.nil_append, List.append_nil, List.length_cons, List.length_nil, List.length_map, if_true, if_false, Bool.not_true, Bool.not_false, Bool.false_eq_true, decide_true, decide_false, decide_eq_true_eq, and_true, true_and, and_self, reduceIte, Nat.reduceAdd, Nat.reduceSub, Nat.reduceLeDiff, Nat.reduceLT, Nat.reduceEqDiff, Int.reduceLT, Int.reduceLE, Option.isSome_some, Option.isSome_none, Bool.not_eq_true', Bool.if_true_left, show bv none = -1 from rfl, show ((-1 : Int) < 0) from by decide]
                refine Go.mk ⟨SV.d (.int c), SV.d (DI (sl p l (l + c))), SV.d (DI (sl p (l + c) h)), SV.d (.int (cutV numN (sl p l h) m c)), z.1, z.2.1, z.2.2.1, z.2.2.2, ?_⟩
                rw [take_snoc hc, List.foldl_append, hb]
                rfl
              | some q =>
                have hq0 : 0 ≤ q.1 := by
                  have hne : (rng 1 (sl p l h).length).take i ≠ [] := by
                    intro z
                    rw [z] at hb
                    cases hb
                  obtain ⟨q', f1, _, f3, _⟩ := bestB_spec (cutV numN (sl p l h) m) hne
                  have f4 : some q' = some q := f1.symm.trans hb
                  cases f4
                  rw [← f3]
                  exact (maxB_spec _ _).1
                by_cases hlt : cutV numN (sl p l h) m c < q.1
                · simp only [↓wp_bnd, ↓wp_pure, ↓wp_mVar, ↓wp_oVar, ↓wp_oE, ↓wp_mFrz, ↓wp_mRV, ↓wp_m1, ↓wp_m2, ↓wp_mB, ↓wp_mChain, ↓wp_mAnd, ↓wp_mOr, ↓wp_mNot, ↓wp_mTru, ↓wp_mIf, ↓wp_mAndV, ↓wp_mOrV, ↓wp_mNotV, ↓wp_aNil, ↓wp_aCons, ↓wp_qNil, ↓wp_qCons, ↓wp_mA, ↓wp_mTup, ↓wp_mLst, ↓wp_mIsi, ↓wp_mPart, ↓wp_mSlice, ↓wp_mRg1, ↓wp_mRg2, ↓wp_mRgL, ↓wp_iRg, ↓wp_iLst, ↓wp_mApp, ↓wp_mSeq, ↓wp_mExpr, ↓wp_mRet, ↓wp_mSet, ↓wp_mAsg, ↓wp_mgName, ↓wp_mgNil, ↓wp_mgCons, ↓wp_mgTup, ↓wp_mgSub, ↓wp_mAug, ↓wp_mAugS, ↓wx_mFor, ↓wx_mLc, ↓wx_mCall, ↓wp_mFn, ↓wx_mCallL, tab1_self, ↓wp_mAlloc, ↓wp_mNew, ↓wp_mDGet, ↓wp_mDIn, ↓wp_mDPut, ↓wp_mListK, ↓wp_mPopAt, ↓wp_mScIx, ↓wp_mScLen, ↓wp_mScSlice, Op.get, rs, RV.toD, stV, setW, gets, f1, fII, fAdd, fSub, fMul, fDiv, fMod, fLt, fLe, fGt, fGe, fNeg, asB, truD, isN, fIsN, fNotN, lenD, absD, PD.intD, max2_eq, min2_eq, min3D, listD, tupleD, ixD, isiD, PD.listAt, putAtL, Option.map_some, List.getElem?_cons_zero, List.getElem?_cons_succ, List.set_cons_zero, List.set_cons_succ, List.map_cons, List.map_nil, List.replicate_succ, List.replicate_zero, List.cons_append, List.nil_append, List.append_nil, List.length_cons, List.length_nil, List.length_map, if_true, if_false, Bool.not_true, Bool.not_false, Bool.false_eq_true, decide_true, decide_false, decide_eq_true_eq, and_true, true_and, and_self, reduceIte, Nat.reduceAdd, Nat.reduceSub, Nat.reduceLeDiff, Nat.reduceLT, Nat.reduceEqDiff, Int.reduceLT, Int.reduceLE, Option.isSome_some, Option.isSome_none, Bool.not_eq_true', Bool.if_true_left, show bv (some q) = q.1 + 1 from rfl, show ¬ (q.1 + 1 < 0) by omega, show cutV numN (sl p l h) m c + 1 < q.1 + 1 by omega]
                  refine Go.mk ⟨SV.d (.int c), SV.d (DI (sl p l (l + c))), SV.d (DI (sl p (l + c) h)), SV.d (.int (cutV numN (sl p l h) m c)), z.1, z.2.1, z.2.2.1, z.2.2.2, ?_⟩
                  rw [take_snoc hc, List.foldl_append, hb]
                  congr 1
                  show _ = [_, _, _, _, SV.d (.int (bv (if cutV numN (sl p l h) m c < q.1 then some (cutV numN (sl p l h) m c, c) else some q))), _, _, _, _, _, _]
                  rw [if_pos hlt]
                  rfl
                · simp only [↓wp_bnd, ↓wp_pure, ↓wp_mVar, ↓wp_oVar, ↓wp_oE, ↓wp_mFrz, ↓wp_mRV, ↓wp_m1, ↓wp_m2, ↓wp_mB, ↓wp_mChain, ↓wp_mAnd, ↓wp_mOr, ↓wp_mNot, ↓wp_mTru, ↓wp_mIf, ↓wp_mAndV, ↓wp_mOrV, ↓wp_mNotV, ↓wp_aNil, ↓wp_aCons, ↓wp_qNil, ↓wp_qCons, ↓wp_mA, ↓wp_mTup, ↓wp_mLst, ↓wp_mIsi, ↓wp_mPart, ↓wp_mSlice, ↓wp_mRg1, ↓wp_mRg2, ↓wp_mRgL, ↓wp_iRg, ↓wp_iLst, ↓wp_mApp, ↓wp_mSeq, ↓wp_mExpr, ↓wp_mRet, ↓wp_mSet, ↓wp_mAsg, ↓wp_mgName, ↓wp_mgNil, ↓wp_mgCons, ↓wp_mgTup, ↓wp_mgSub, ↓wp_mAug, ↓wp_mAugS, ↓wx_mFor, ↓wx_mLc, ↓wx_mCall, ↓wp_mFn, ↓wx_mCallL, tab1_self, ↓wp_mAlloc, ↓wp_mNew, ↓wp_mDGet, ↓wp_mDIn, ↓wp_mDPut, ↓wp_mListK, ↓wp_mPopAt, ↓wp_mScIx, ↓wp_mScLen, ↓wp_mScSlice, Op.get, rs, RV.toD, stV, setW, gets, f1, fII, fAdd, fSub, fMul, fDiv, fMod, fLt, fLe, fGt, fGe, fNeg, asB, truD, isN, fIsN, fNotN, lenD, absD, PD.intD, max2_eq, min2_eq, min3D, listD, tupleD, ixD, isiD, PD.listAt, putAtL, Option.map_some, List.getElem?_cons_zero, List.getElem?_cons_succ, List.set_cons_zero, List.set_cons_succ, List.map_cons, List.map_nil, List.replicate_succ, List.replicate_zero, List.cons_append, List.nil_append, List.append_nil, List.length_cons, List.length_nil, List.length_map, if_true, if_false, Bool.not_true, Bool.not_false, Bool.false_eq_true, decide_true, decide_false, decide_eq_true_eq, and_true, true_and, and_self, reduceIte, Nat.reduceAdd, Nat.reduceSub, Nat.reduceLeDiff, Nat.reduceLT, Nat.reduceEqDiff, Int.reduceLT, Int.reduceLE, Option.isSome_some, Option.isSome_none, Bool.not_eq_true', Bool.if_true_left, show bv (some q) = q.1 + 1 from rfl, show ¬ (q.1 + 1 < 0) by omega, show ¬ (cutV numN (sl p l h) m c + 1 < q.1 + 1) by omega]
                  refine Go.mk ⟨SV.d (.int c), SV.d (DI (sl p l (l + c))), SV.d (DI (sl p (l + c) h)), SV.d (.int (cutV numN (sl p l h) m c)), z.1, z.2.1, z.2.2.1, z.2.2.2, ?_⟩
                  rw [take_snoc hc, List.foldl_append, hb]
                  congr 1
                  show _ = [_, _, _, _, SV.d (.int (bv (if cutV numN (sl p l h) m c < q.1 then some (cutV numN (sl p l h) m c, c) else some q))), _, _, _, _, _, _]
                  rw [if_neg hlt]
                  rfl
          · rintro w ⟨x5, x6, x7, x8, x9, x10, kvs1, T1, rfl⟩
            refine ⟨(x5, x6, x7, x8, x9, x10, ⟨kvs1, T1⟩), rfl, ?_⟩
            rw [rgD_rng, List.length_map, List.take_length]
            rfl
        · rintro ⟨x5, x6, x7, x8, x9, x10, kvs1, T1⟩
          obtain ⟨q, b1, _, _, b4, _⟩ := best_spec r.row nn
          simp only [↓wp_bnd, ↓wp_pure, ↓wp_mVar, ↓wp_oVar, ↓wp_oE, ↓wp_mFrz, ↓wp_mRV, ↓wp_m1, ↓wp_m2, ↓wp_mB, ↓wp_mChain, ↓wp_mAnd, ↓wp_mOr, ↓wp_mNot, ↓wp_mTru, ↓wp_mIf, ↓wp_mAndV, ↓wp_mOrV, ↓wp_mNotV, ↓wp_aNil, ↓wp_aCons, ↓wp_qNil, ↓wp_qCons, ↓wp_mA, ↓wp_mTup, ↓wp_mLst, ↓wp_mIsi, ↓wp_mPart, ↓wp_mSlice, ↓wp_mRg1, ↓wp_mRg2, ↓wp_mRgL, ↓wp_iRg, ↓wp_iLst, ↓wp_mApp, ↓wp_mSeq, ↓wp_mExpr, ↓wp_mRet, ↓wp_mSet, ↓wp_mAsg, ↓wp_mgName, ↓wp_mgNil, ↓wp_mgCons, ↓wp_mgTup, ↓wp_mgSub, ↓wp_mAug, ↓wp_mAugS, ↓wx_mFor, ↓wx_mLc, ↓wx_mCall, ↓wp_mFn, ↓wx_mCallL, tab1_self, ↓wp_mAlloc, ↓wp_mNew, ↓wp_mDGet, ↓wp_mDIn, ↓wp_mDPut, ↓wp_mListK, ↓wp_mPopAt, ↓wp_mScIx, ↓wp_mScLen, ↓wp_mScSlice, Op.get, rs, RV.toD, stV, setW, gets, f1, fII, fAdd, fSub, fMul, fDiv, fMod, fLt, fLe, fGt, fGe, fNeg, asB, truD, isN, fIsN, fNotN, lenD, absD, PD.intD, max2_eq, min2_eq, min3D, listD, tupleD, ixD, isiD, PD.listAt, putAtL, Option.map_some, List.getElem?_cons_zero, List.getElem?_cons_succ, List.set_cons_zero, List.set_cons_succ, List.map_cons, List.map_nil, List.replicate_succ, List.replicate_zero, List.cons_append, List.nil_append, List.append_nil, List.length_cons, List.length_nil, List.length_map, if_true, if_false, Bool.not_true, Bool.not_false, Bool.false_eq_true, decide_true, decide_false, decide_eq_true_eq, and_true, true_and, and_self, reduceIte, Nat.reduceAdd, Nat.reduceSub, Nat.reduceLeDiff, Nat.reduceLT, Nat.reduceEqDiff, Int.reduceLT, Int.reduceLE, Option.isSome_some, Option.isSome_none, Bool.not_eq_true', Bool.if_true_left, b1, show bv (some q) = q.1 + 1 from rfl, set_get hj, dput_n (set_get hj) (tl T1), List.set_set]
          have := T1.put hk
          have ev : valN (sl p l h, m) = q.1 + 1 := by show numN (sl p l h) m = _; omega
          rw [ev] at this
          exact ⟨⟨⟨_, this⟩, by rw [b4, Int.add_comm], rfl⟩⟩
      · have nm : Named (sl p l h) m := ⟨M, e2, by omega⟩
        have nz : numN (sl p l h) m = 0 := (numN_named r.row).mpr nm
        simp only [↓wp_bnd, ↓wp_pure, ↓wp_mVar, ↓wp_oVar, ↓wp_oE, ↓wp_mFrz, ↓wp_mRV, ↓wp_m1, ↓wp_m2, ↓wp_mB, ↓wp_mChain, ↓wp_mAnd, ↓wp_mOr, ↓wp_mNot, ↓wp_mTru, ↓wp_mIf, ↓wp_mAndV, ↓wp_mOrV, ↓wp_mNotV, ↓wp_aNil, ↓wp_aCons, ↓wp_qNil, ↓wp_qCons, ↓wp_mA, ↓wp_mTup, ↓wp_mLst, ↓wp_mIsi, ↓wp_mPart, ↓wp_mSlice, ↓wp_mRg1, ↓wp_mRg2, ↓wp_mRgL, ↓wp_iRg, ↓wp_iLst, ↓wp_mApp, ↓wp_mSeq, ↓wp_mExpr, ↓wp_mRet, ↓wp_mSet, ↓wp_mAsg, ↓wp_mgName, ↓wp_mgNil, ↓wp_mgCons, ↓wp_mgTup, ↓wp_mgSub, ↓wp_mAug, ↓wp_mAugS, ↓wx_mFor, ↓wx_mLc, ↓wx_mCall, ↓wp_mFn, ↓wx_mCallL, tab1_self, ↓wp_mAlloc, ↓wp_mNew, ↓wp_mDGet, ↓wp_mDIn, ↓wp_mDPut, ↓wp_mListK, ↓wp_mPopAt, ↓wp_mScIx, ↓wp_mScLen, ↓wp_mScSlice, Op.get, rs, RV.toD, stV, setW, gets, f1, fII, fAdd, fSub, fMul, fDiv, fMod, fLt, fLe, fGt, fGe, fNeg, asB, truD, isN, fIsN, fNotN, lenD, absD, PD.intD, max2_eq, min2_eq, min3D, listD, tupleD, ixD, isiD, PD.listAt, putAtL, Option.map_some, List.getElem?_cons_zero, List.getElem?_cons_succ, List.set_cons_zero, List.set_cons_succ, List.map_cons, List.map_nil, List.replicate_succ, List.replicate_zero, List.cons_append, List.nil_append, List.append_nil, List.length_cons, List.length_nil, List.length_map, if_true, if_false, Bool.not_true, Bool.not_false, Bool.false_eq_true, decide_true, decide_false, decide_eq_true_eq, and_true, true_and, and_self, reduceIte, Nat.reduceAdd, Nat.reduceSub, Nat.reduceLeDiff, Nat.reduceLT, Nat.reduceEqDiff, Int.reduceLT, Int.reduceLE, Option.isSome_some, Option.isSome_none, Bool.not_eq_true', Bool.if_true_left, hj, dget_n hj, e, e1, sumD_map, hnm, dput_n hj (tl T)]
        have := T.put hk
        rw [show valN (sl p l h, m) = 0 from nz] at this
        exact ⟨⟨_, this⟩, by rw [nz], rfl⟩
    · simp only [↓wp_bnd, ↓wp_pure, ↓wp_mVar, ↓wp_oVar, ↓wp_oE, ↓wp_mFrz, ↓wp_mRV, ↓wp_m1, ↓wp_m2, ↓wp_mB, ↓wp_mChain, ↓wp_mAnd, ↓wp_mOr, ↓wp_mNot, ↓wp_mTru, ↓wp_mIf, ↓wp_mAndV, ↓wp_mOrV, ↓wp_mNotV, ↓wp_aNil, ↓wp_aCons, ↓wp_qNil, ↓wp_qCons, ↓wp_mA, ↓wp_mTup, ↓wp_mLst, ↓wp_mIsi, ↓wp_mPart, ↓wp_mSlice, ↓wp_mRg1, ↓wp_mRg2, ↓wp_mRgL, ↓wp_iRg, ↓wp_iLst, ↓wp_mApp, ↓wp_mSeq, ↓wp_mExpr, ↓wp_mRet, ↓wp_mSet, ↓wp_mAsg, ↓wp_mgName, ↓wp_mgNil, ↓wp_mgCons, ↓wp_mgTup, ↓wp_mgSub, ↓wp_mAug, ↓wp_mAugS, ↓wx_mFor, ↓wx_mLc, ↓wx_mCall, ↓wp_mFn, ↓wx_mCallL, tab1_self, ↓wp_mAlloc, ↓wp_mNew, ↓wp_mDGet, ↓wp_mDIn, ↓wp_mDPut, ↓wp_mListK, ↓wp_mPopAt, ↓wp_mScIx, ↓wp_mScLen, ↓wp_mScSlice, Op.get, rs, RV.toD, stV, setW, gets, f1, fII, fAdd, fSub, fMul, fDiv, fMod, fLt, fLe, fGt, fGe, fNeg, asB, truD, isN, fIsN, fNotN, lenD, absD, PD.intD, max2_eq, min2_eq, min3D, listD, tupleD, ixD, isiD, PD.listAt, putAtL, Option.map_some, List.getElem?_cons_zero, List.getElem?_cons_succ, List.set_cons_zero, List.set_cons_succ, List.map_cons, List.map_nil, List.replicate_succ, List.replicate_zero, List.cons_append, List.nil_append, List.append_nil, List.length_cons, List.length_nil, List.length_map, if_true, if_false, Bool.not_true, Bool.not_false, Bool.false_eq_true, decide_true, decide_false, decide_eq_true_eq, and_true, true_and, and_self, reduceIte, Nat.reduceAdd, Nat.reduceSub, Nat.reduceLeDiff, Nat.reduceLT, Nat.reduceEqDiff, Int.reduceLT, Int.reduceLE, Option.isSome_some, Option.isSome_none, Bool.not_eq_true', Bool.if_true_left, hj, dget_n hj, e]
      exact ⟨⟨kvs, T⟩, rfl, by rw [set_same hj]⟩
end
end K73

set_option maxHeartbeats 1000000
namespace K73
open PySem PySem.Spec PyProof.Rows L2 PD
section
variable {p : List Int} {l c h m : Int} {sto : List O} {j : Nat} {ns : List Int}
/-! draws -/
/-- a purse stands in the store -/
def Pu (sto : List O) (j : Nat) : Prop := ∃ a b c : Int, 0 ≤ a ∧ sto[j]? = some (.lst [.int a, .int b, .int c])
theorem ix0 : ixN 3 0 = some 0 := rfl
theorem ix1 : ixN 3 1 = some 1 := rfl
theorem ix2 : ixN 3 2 = some 2 := rfl
theorem mul_ok {i j : Int} (h : -(2 ^ 64) < j ∧ j < 2 ^ 64) : mulOk i j = true := by
  unfold mulOk; rw [decide_eq_true (show (-(2 ^ 64) < i ∧ i < 2 ^ 64) ∨ (-(2 ^ 64) < j ∧ j < 2 ^ 64) from .inr h)]; rfl
theorem mul_ok' {i j : Int} (h : -(2 ^ 64) < i ∧ i < 2 ^ 64) : mulOk i j = true := by
  unfold mulOk; rw [decide_eq_true (show (-(2 ^ 64) < i ∧ i < 2 ^ 64) ∨ (-(2 ^ 64) < j ∧ j < 2 ^ 64) from .inl h)]; rfl
theorem log_ok {k : Int} (h0 : 0 < k) (h1 : k ≤ 1000) : k.natAbs.log2 < 9000 := by
  have : k.natAbs.log2 ≤ k.natAbs := Nat.log2_le_self _
  omega
theorem wp_draw {many : Int} (hp : Pu sto j) (h0 : 0 < many) (h1 : many ≤ 1000) : wp (m_law_draw [.o j, .int many]) ⟨[], sto⟩ fun d w' => ∃ i : Int × { y : O // Pu (sto.set j y) j }, (d = .int i.1 ∧ w' = ⟨[], sto.set j i.2.1⟩) ∧ 0 ≤ i.1 ∧ i.1 < many := by
  obtain ⟨a, b, c, ha, hj⟩ := hp
  unfold m_law_draw
  by_cases z : 0 < a
  · simp only [↓wp_bnd, ↓wp_pure, ↓wp_mVar, ↓wp_oVar, ↓wp_oE, ↓wp_mFrz, ↓wp_mRV, ↓wp_m1, ↓wp_m2, ↓wp_mB, ↓wp_mChain, ↓wp_mAnd, ↓wp_mOr, ↓wp_mNot, ↓wp_mTru, ↓wp_mIf, ↓wp_mAndV, ↓wp_mOrV, ↓wp_mNotV, ↓wp_aNil, ↓wp_aCons, ↓wp_qNil, ↓wp_qCons, ↓wp_mA, ↓wp_mTup, ↓wp_mLst, ↓wp_mIsi, ↓wp_mPart, ↓wp_mSlice, ↓wp_mRg1, ↓wp_mRg2, ↓wp_mRgL, ↓wp_iRg, ↓wp_iLst, ↓wp_mApp, ↓wp_mSeq, ↓wp_mExpr, ↓wp_mRet, ↓wp_mSet, ↓wp_mAsg, ↓wp_mgName, ↓wp_mgNil, ↓wp_mgCons, ↓wp_mgTup, ↓wp_mgSub, ↓wp_mAug, ↓wp_mAugS, ↓wx_mFor, ↓wx_mLc, ↓wx_mCall, ↓wp_mFn, ↓wx_mCallL, tab1_self, ↓wp_mAlloc, ↓wp_mNew, ↓wp_mDGet, ↓wp_mDIn, ↓wp_mDPut, ↓wp_mListK, ↓wp_mPopAt, ↓wp_mScIx, ↓wp_mScLen, ↓wp_mScSlice, Op.get, rs, RV.toD, stV, setW, gets, f1, fII, fAdd, fSub, fMul, fDiv, fMod, fLt, fLe, fGt, fGe, fNeg, asB, truD, isN, fIsN, fNotN, lenD, absD, PD.intD, max2_eq, min2_eq, min3D, listD, tupleD, ixD, isiD, PD.listAt, putAtL, Option.map_some, List.getElem?_cons_zero, List.getElem?_cons_succ, List.set_cons_zero, List.set_cons_succ, List.map_cons, List.map_nil, List.replicate_succ, List.replicate_zero, List.cons_append, List.nil_append, List.append_nil, List.length_cons, List.length_nil, List.length_map, if_true, if_false, Bool.not_true, Bool.not_false, Bool.false_eq_true, decide_true, decide_false, decide_eq_true_eq, and_true, true_and, and_self, reduceIte, Nat.reduceAdd, Nat.reduceSub, Nat.reduceLeDiff, Nat.reduceLT, Nat.reduceEqDiff, Int.reduceLT, Int.reduceLE, Option.isSome_some, Option.isSome_none, Bool.not_eq_true', Bool.if_true_left, hj, at30, at31, at32, z, h0, log_ok h0 h1, ix0]
    exact ⟨⟨a % many, .lst [.int (a / many), .int b, .int c], ⟨a / many, b, c, Int.ediv_nonneg ha (by omega), set_get hj⟩⟩, ⟨rfl, rfl⟩, Int.emod_nonneg _ (by omega), Int.emod_lt_of_pos _ h0⟩
  · have z0 : a = 0 := by omega
    have hl8 : (8 : Int).natAbs.log2 < 9000 := by decide
    simp only [↓wp_bnd, ↓wp_pure, ↓wp_mVar, ↓wp_oVar, ↓wp_oE, ↓wp_mFrz, ↓wp_mRV, ↓wp_m1, ↓wp_m2, ↓wp_mB, ↓wp_mChain, ↓wp_mAnd, ↓wp_mOr, ↓wp_mNot, ↓wp_mTru, ↓wp_mIf, ↓wp_mAndV, ↓wp_mOrV, ↓wp_mNotV, ↓wp_aNil, ↓wp_aCons, ↓wp_qNil, ↓wp_qCons, ↓wp_mA, ↓wp_mTup, ↓wp_mLst, ↓wp_mIsi, ↓wp_mPart, ↓wp_mSlice, ↓wp_mRg1, ↓wp_mRg2, ↓wp_mRgL, ↓wp_iRg, ↓wp_iLst, ↓wp_mApp, ↓wp_mSeq, ↓wp_mExpr, ↓wp_mRet, ↓wp_mSet, ↓wp_mAsg, ↓wp_mgName, ↓wp_mgNil, ↓wp_mgCons, ↓wp_mgTup, ↓wp_mgSub, ↓wp_mAug, ↓wp_mAugS, ↓wx_mFor, ↓wx_mLc, ↓wx_mCall, ↓wp_mFn, ↓wx_mCallL, tab1_self, ↓wp_mAlloc, ↓wp_mNew, ↓wp_mDGet, ↓wp_mDIn, ↓wp_mDPut, ↓wp_mListK, ↓wp_mPopAt, ↓wp_mScIx, ↓wp_mScLen, ↓wp_mScSlice, Op.get, rs, RV.toD, stV, setW, gets, f1, fII, fAdd, fSub, fMul, fDiv, fMod, fLt, fLe, fGt, fGe, fNeg, asB, truD, isN, fIsN, fNotN, lenD, absD, PD.intD, max2_eq, min2_eq, min3D, listD, tupleD, ixD, isiD, PD.listAt, putAtL, Option.map_some, List.getElem?_cons_zero, List.getElem?_cons_succ, List.set_cons_zero, List.set_cons_succ, List.map_cons, List.map_nil, List.replicate_succ, List.replicate_zero, List.cons_append, List.nil_append, List.append_nil, List.length_cons, List.length_nil, List.length_map, if_true, if_false, Bool.not_true, Bool.not_false, Bool.false_eq_true, decide_true, decide_false, decide_eq_true_eq, and_true, true_and, and_self, reduceIte, Nat.reduceAdd, Nat.reduceSub, Nat.reduceLeDiff, Nat.reduceLT, Nat.reduceEqDiff, Int.reduceLT, Int.reduceLE, Option.isSome_some, Option.isSome_none, Bool.not_eq_true', Bool.if_true_left, hj, at30, at31, at32, z, h0, log_ok h0 h1, hl8, ix0, ix1, ix2, set_get hj, List.set_set, mul_ok (j := 48271) (by decide), mul_ok (j := 69621) (by decide), mul_ok (j := 16807) (by decide), mul_ok (j := 7919) (by decide)]
    exact ⟨⟨_, .lst [.int a, .int _, .int (c + 1)], ⟨a, _, c + 1, ha, set_get hj⟩⟩, ⟨rfl, rfl⟩, Int.emod_nonneg _ (by omega), Int.emod_lt_of_pos _ h0⟩
/-- the same, for wpc -/
abbrev DrI (sto : List O) (j : Nat) (many : Int) : Type := { i : Int × O // Pu (sto.set j i.2) j ∧ 0 ≤ i.1 ∧ i.1 < many }
theorem wp_drawI {many : Int} (hp : Pu sto j) (h0 : 0 < many) (h1 : many ≤ 1000) : wp (m_law_draw [.o j, .int many]) ⟨[], sto⟩ fun d w' => ∃ i : DrI sto j many, d = .int i.1.1 ∧ w' = ⟨[], sto.set j i.1.2⟩ :=
  wp_mono (wp_draw hp h0 h1) fun d w' ⟨i, h1, h2, h3⟩ => ⟨⟨(i.1, i.2.1), i.2.2, h2, h3⟩, h1⟩
theorem ixN_ok {n : Nat} {x : Int} (h0 : 0 ≤ x) (h1 : x < n) : ixN n x = some x.toNat := by
  unfold ixN; rw [if_pos h0, if_pos h1]
theorem get_map {L : List Int} {k : Nat} (h : k < L.length) : (L.map D.int)[k]? = some (.int (L.getD k 0)) := by
  rw [List.getElem?_map, List.getElem?_eq_getElem h, List.getD_eq_getElem?_getD, List.getElem?_eq_getElem h]; rfl
theorem erase_perm : ∀ (L : List Int) (k : Nat), k < L.length → (L.getD k 0 :: L.eraseIdx k).Perm L
  | [], k, h => by simp at h
  | x :: L, 0, _ => List.Perm.refl _
  | x :: L, k + 1, h => by
    show (L.getD k 0 :: x :: L.eraseIdx k).Perm (x :: L)
    exact (List.Perm.swap x (L.getD k 0) _).trans ((erase_perm L k (by simpa using h)).cons x)
theorem erase_map : ∀ (L : List Int) (k : Nat), (L.map D.int).eraseIdx k = (L.eraseIdx k).map D.int
  | [], k => by simp
  | x :: L, 0 => rfl
  | x :: L, k + 1 => by
    show D.int x :: (L.map D.int).eraseIdx k = D.int x :: (L.eraseIdx k).map D.int
    rw [erase_map L k]
theorem pu_put {y : O} (h : Pu (sto.set j y) j) (z : O) (hz : Pu ((sto.set j y).set j z) j) : Pu (sto.set j z) j := by rw [List.set_set] at hz; exact hz
theorem wp_mix (hp : Pu sto j) (hl : ns.length ≤ 1000) : wp (m_law_mix [.o j, DI ns]) ⟨[], sto⟩ fun d w' => ∃ i : { i : List Int × O // i.1.Perm ns ∧ Pu (sto.set j i.2) j }, d = DI i.1.1 ∧ w' = ⟨[], sto.set j i.1.2⟩ := by
  have hj : ∃ y0, sto[j]? = some y0 := by
    obtain ⟨a, b, c, _, h⟩ := hp
    exact ⟨_, h⟩
  obtain ⟨y0, hj⟩ := hj
  unfold m_law_mix
  simp only [↓wp_bnd, ↓wp_pure, ↓wp_mVar, ↓wp_oVar, ↓wp_oE, ↓wp_mFrz, ↓wp_mRV, ↓wp_m1, ↓wp_m2, ↓wp_mB, ↓wp_mChain, ↓wp_mAnd, ↓wp_mOr, ↓wp_mNot, ↓wp_mTru, ↓wp_mIf, ↓wp_mAndV, ↓wp_mOrV, ↓wp_mNotV, ↓wp_aNil, ↓wp_aCons, ↓wp_qNil, ↓wp_qCons, ↓wp_mA, ↓wp_mTup, ↓wp_mLst, ↓wp_mIsi, ↓wp_mPart, ↓wp_mSlice, ↓wp_mRg1, ↓wp_mRg2, ↓wp_mRgL, ↓wp_iRg, ↓wp_iLst, ↓wp_mApp, ↓wp_mSeq, ↓wp_mExpr, ↓wp_mRet, ↓wp_mSet, ↓wp_mAsg, ↓wp_mgName, ↓wp_mgNil, ↓wp_mgCons, ↓wp_mgTup, ↓wp_mgSub, ↓wp_mAug, ↓wp_mAugS, ↓wx_mFor, ↓wx_mLc, ↓wx_mCall, ↓wp_mFn, ↓wx_mCallL, tab1_self, ↓wp_mAlloc, ↓wp_mNew, ↓wp_mDGet, ↓wp_mDIn, ↓wp_mDPut, ↓wp_mListK, ↓wp_mPopAt, ↓wp_mScIx, ↓wp_mScLen, ↓wp_mScSlice, Op.get, rs, RV.toD, stV, setW, gets, f1, fII, fAdd, fSub, fMul, fDiv, fMod, fLt, fLe, fGt, fGe, fNeg, asB, truD, isN, fIsN, fNotN, lenD, absD, PD.intD, max2_eq, min2_eq, min3D, listD, tupleD, ixD, isiD, PD.listAt, putAtL, Option.map_some, List.getElem?_cons_zero, List.getElem?_cons_succ, List.set_cons_zero, List.set_cons_succ, List.map_cons, List.map_nil, List.replicate_succ, List.replicate_zero, List.cons_append, List.nil_append, List.append_nil, List.length_cons, List.length_nil, List.length_map, if_true, if_false, Bool.not_true, Bool.not_false, Bool.false_eq_true, decide_true, decide_false, decide_eq_true_eq, and_true, true_and, and_self, reduceIte, Nat.reduceAdd, Nat.reduceSub, Nat.reduceLeDiff, Nat.reduceLT, Nat.reduceEqDiff, Int.reduceLT, Int.reduceLE, Option.isSome_some, Option.isSome_none, Bool.not_eq_true', Bool.if_true_left]
  refine ⟨rg2_ok (by omega) (by omega) (by omega) (by omega), ?_⟩
  refine @wpf_x { z : List Int × O × SV // z.1.Perm ns ∧ Pu (sto.set j z.2.1) j } _ _ _ _ (fun _ => .nx) (fun z => ⟨[SV.d (.o j), SV.d (DI ns), SV.own [], SV.own (z.1.1.map D.int), z.1.2.2], sto.set j z.1.2.1⟩) ?_ ?_
  · refine wp_for (fun i w => ∃ (L N : List Int) (x4 : SV) (y : O), (N ++ L).Perm ns ∧ N.length = i ∧ Pu (sto.set j y) j ∧ w = ⟨[SV.d (.o j), SV.d (DI ns), SV.own (L.map D.int), SV.own (N.map D.int), x4], sto.set j y⟩) ?_ ?_ ?_
    · exact ⟨ns, [], SV.un, y0, List.Perm.refl _, rfl, by rw [set_same hj]; exact hp, by rw [set_same hj]; rfl⟩
    · rintro i d w hd ⟨L, N, x4, y, pe, hN, hy, rfl⟩
      obtain ⟨k, hk, rfl, k1, k2⟩ := rgD_at hd
      have hi : i < ns.length := by
        have := (List.getElem?_eq_some_iff.mp hk).1
        rw [rng_length] at this
        omega
      have hL : 0 < L.length := by
        have := pe.length_eq
        rw [List.length_append] at this
        omega
      have hL2 : L.length ≤ 1000 := by
        have := pe.length_eq
        rw [List.length_append] at this
        omega
      simp only [↓wp_bnd, ↓wp_pure, ↓wp_mVar, ↓wp_oVar, ↓wp_oE, ↓wp_mFrz, ↓wp_mRV, ↓wp_m1, ↓wp_m2, ↓wp_mB, ↓wp_mChain, ↓wp_mAnd, ↓wp_mOr, ↓wp_mNot, ↓wp_mTru, ↓wp_mIf, ↓wp_mAndV, ↓wp_mOrV, ↓wp_mNotV, ↓wp_aNil, ↓wp_aCons, ↓wp_qNil, ↓wp_qCons, ↓wp_mA, ↓wp_mTup, ↓wp_mLst, ↓wp_mIsi, ↓wp_mPart, ↓wp_mSlice, ↓wp_mRg1, ↓wp_mRg2, ↓wp_mRgL, ↓wp_iRg, ↓wp_iLst, ↓wp_mApp, ↓wp_mSeq, ↓wp_mExpr, ↓wp_mRet, ↓wp_mSet, ↓wp_mAsg, ↓wp_mgName, ↓wp_mgNil, ↓wp_mgCons, ↓wp_mgTup, ↓wp_mgSub, ↓wp_mAug, ↓wp_mAugS, ↓wx_mFor, ↓wx_mLc, ↓wx_mCall, ↓wp_mFn, ↓wx_mCallL, tab1_self, ↓wp_mAlloc, ↓wp_mNew, ↓wp_mDGet, ↓wp_mDIn, ↓wp_mDPut, ↓wp_mListK, ↓wp_mPopAt, ↓wp_mScIx, ↓wp_mScLen, ↓wp_mScSlice, Op.get, rs, RV.toD, stV, setW, gets, f1, fII, fAdd, fSub, fMul, fDiv, fMod, fLt, fLe, fGt, fGe, fNeg, asB, truD, isN, fIsN, fNotN, lenD, absD, PD.intD, max2_eq, min2_eq, min3D, listD, tupleD, ixD, isiD, PD.listAt, putAtL, Option.map_some, List.getElem?_cons_zero, List.getElem?_cons_succ, List.set_cons_zero, List.set_cons_succ, List.map_cons, List.map_nil, List.replicate_succ, List.replicate_zero, List.cons_append, List.nil_append, List.append_nil, List.length_cons, List.length_nil, List.length_map, if_true, if_false, Bool.not_true, Bool.not_false, Bool.false_eq_true, decide_true, decide_false, decide_eq_true_eq, and_true, true_and, and_self, reduceIte, Nat.reduceAdd, Nat.reduceSub, Nat.reduceLeDiff, Nat.reduceLT, Nat.reduceEqDiff, Int.reduceLT, Int.reduceLE, Option.isSome_some, Option.isSome_none, Bool.not_eq_true', Bool.if_true_left]
      refine @wpc_x _ (DrI (sto.set j y) j L.length) _ _ _ (fun z => .int z.1.1) (fun z => ⟨[], (sto.set j y).set j z.1.2⟩) (wp_drawI hy (by omega) (by omega)) ?_
      rintro ⟨⟨x, y2⟩, hy2, x0, x1⟩
      have hx : x.toNat < L.length := by omega
      simp only [↓wp_bnd, ↓wp_pure, ↓wp_mVar, ↓wp_oVar, ↓wp_oE, ↓wp_mFrz, ↓wp_mRV, ↓wp_m1, ↓wp_m2, ↓wp_mB, ↓wp_mChain, ↓wp_mAnd, ↓wp_mOr, ↓wp_mNot, ↓wp_mTru, ↓wp_mIf, ↓wp_mAndV, ↓wp_mOrV, ↓wp_mNotV, ↓wp_aNil, ↓wp_aCons, ↓wp_qNil, ↓wp_qCons, ↓wp_mA, ↓wp_mTup, ↓wp_mLst, ↓wp_mIsi, ↓wp_mPart, ↓wp_mSlice, ↓wp_mRg1, ↓wp_mRg2, ↓wp_mRgL, ↓wp_iRg, ↓wp_iLst, ↓wp_mApp, ↓wp_mSeq, ↓wp_mExpr, ↓wp_mRet, ↓wp_mSet, ↓wp_mAsg, ↓wp_mgName, ↓wp_mgNil, ↓wp_mgCons, ↓wp_mgTup, ↓wp_mgSub, ↓wp_mAug, ↓wp_mAugS, ↓wx_mFor, ↓wx_mLc, ↓wx_mCall, ↓wp_mFn, ↓wx_mCallL, tab1_self, ↓wp_mAlloc, ↓wp_mNew, ↓wp_mDGet, ↓wp_mDIn, ↓wp_mDPut, ↓wp_mListK, ↓wp_mPopAt, ↓wp_mScIx, ↓wp_mScLen, ↓wp_mScSlice, Op.get, rs, RV.toD, stV, setW, gets, f1, fII, fAdd, fSub, fMul, fDiv, fMod, fLt, fLe, fGt, fGe, fNeg, asB, truD, isN, fIsN, fNotN, lenD, absD, PD.intD, max2_eq, min2_eq, min3D, listD, tupleD, ixD, isiD, PD.listAt, putAtL, Option.map_some, List.getElem?_cons_zero, List.getElem?_cons_succ, List.set_cons_zero, List.set_cons_succ, List.map_cons, List.map_nil, List.replicate_succ, List.replicate_zero, List.cons_append, List.nil_append, List.append_nil, List.length_cons, List.length_nil, List.length_map, if_true, if_false, Bool.not_true, Bool.not_false, Bool.false_eq_true, decide_true, decide_false, decide_eq_true_eq, and_true, true_and, and_self, reduceIte, Nat.reduceAdd, Nat.reduceSub, Nat.reduceLeDiff, Nat.reduceLT, Nat.reduceEqDiff, Int.reduceLT, Int.reduceLE, Option.isSome_some, Option.isSome_none, Bool.not_eq_true', Bool.if_true_left, List.set_set, ixN_ok x0 x1, get_map hx]
      refine Go.mk ⟨⟨by omega, by omega⟩, by omega, ?_⟩
      refine ⟨L.eraseIdx x.toNat, N ++ [L.getD x.toNat 0], SV.d (.int k), y2, ?_, by rw [List.length_append, hN]; rfl, pu_put hy _ hy2, ?_⟩
      · rw [List.append_assoc]
        refine List.Perm.trans (List.Perm.append_left N ?_) pe
        exact erase_perm L _ hx
      · rw [List.map_append, erase_map]
        rfl
    · rintro w ⟨L, N, x4, y, pe, hN, hy, rfl⟩
      have e : L = [] := by
        rw [rgD_rng, List.length_map, rng_length] at hN
        have := pe.length_eq
        rw [List.length_append] at this
        exact List.length_eq_zero_iff.mp (by omega)
      subst e
      rw [List.append_nil] at pe
      exact ⟨⟨(N, y, x4), pe, hy⟩, rfl, rfl⟩
  · rintro ⟨⟨N, y, x4⟩, pe, hy⟩
    simp only [↓wp_bnd, ↓wp_pure, ↓wp_mVar, ↓wp_oVar, ↓wp_oE, ↓wp_mFrz, ↓wp_mRV, ↓wp_m1, ↓wp_m2, ↓wp_mB, ↓wp_mChain, ↓wp_mAnd, ↓wp_mOr, ↓wp_mNot, ↓wp_mTru, ↓wp_mIf, ↓wp_mAndV, ↓wp_mOrV, ↓wp_mNotV, ↓wp_aNil, ↓wp_aCons, ↓wp_qNil, ↓wp_qCons, ↓wp_mA, ↓wp_mTup, ↓wp_mLst, ↓wp_mIsi, ↓wp_mPart, ↓wp_mSlice, ↓wp_mRg1, ↓wp_mRg2, ↓wp_mRgL, ↓wp_iRg, ↓wp_iLst, ↓wp_mApp, ↓wp_mSeq, ↓wp_mExpr, ↓wp_mRet, ↓wp_mSet, ↓wp_mAsg, ↓wp_mgName, ↓wp_mgNil, ↓wp_mgCons, ↓wp_mgTup, ↓wp_mgSub, ↓wp_mAug, ↓wp_mAugS, ↓wx_mFor, ↓wx_mLc, ↓wx_mCall, ↓wp_mFn, ↓wx_mCallL, tab1_self, ↓wp_mAlloc, ↓wp_mNew, ↓wp_mDGet, ↓wp_mDIn, ↓wp_mDPut, ↓wp_mListK, ↓wp_mPopAt, ↓wp_mScIx, ↓wp_mScLen, ↓wp_mScSlice, Op.get, rs, RV.toD, stV, setW, gets, f1, fII, fAdd, fSub, fMul, fDiv, fMod, fLt, fLe, fGt, fGe, fNeg, asB, truD, isN, fIsN, fNotN, lenD, absD, PD.intD, max2_eq, min2_eq, min3D, listD, tupleD, ixD, isiD, PD.listAt, putAtL, Option.map_some, List.getElem?_cons_zero, List.getElem?_cons_succ, List.set_cons_zero, List.set_cons_succ, List.map_cons, List.map_nil, List.replicate_succ, List.replicate_zero, List.cons_append, List.nil_append, List.append_nil, List.length_cons, List.length_nil, List.length_map, if_true, if_false, Bool.not_true, Bool.not_false, Bool.false_eq_true, decide_true, decide_false, decide_eq_true_eq, and_true, true_and, and_self, reduceIte, Nat.reduceAdd, Nat.reduceSub, Nat.reduceLeDiff, Nat.reduceLT, Nat.reduceEqDiff, Int.reduceLT, Int.reduceLE, Option.isSome_some, Option.isSome_none, Bool.not_eq_true', Bool.if_true_left]
    exact ⟨⟨⟨(N, y), pe, hy⟩, rfl, rfl⟩⟩
theorem sum_set : ∀ (T : List Int) (k : Nat) (v : Int), k < T.length → (T.set k v).sum = T.sum - T.getD k 0 + v
  | [], k, v, h => by simp at h
  | x :: T, 0, v, _ => by
    show (v :: T).sum = (x :: T).sum - x + v
    rw [List.sum_cons, List.sum_cons]
    omega
  | x :: T, k + 1, v, h => by
    show (x :: T.set k v).sum = (x :: T).sum - T.getD k 0 + v
    rw [List.sum_cons, List.sum_cons, sum_set T k v (by simpa using h)]
    omega
theorem getD_set {T : List Int} {k i : Nat} {v : Int} (hk : k < T.length) : (T.set k v).getD i 0 = if k = i then v else T.getD i 0 := by
  rw [List.getD_eq_getElem?_getD, List.getElem?_set, List.getD_eq_getElem?_getD]
  by_cases e : k = i
  · rw [if_pos e, if_pos e, if_pos hk]; rfl
  · rw [if_neg e, if_neg e]
/-- takings on the way -/
structure Tw (p : List Int) (T : List Int) : Prop where
  len : T.length = p.length
  bd : ∀ i, i < p.length → 0 ≤ T.getD i 0 ∧ T.getD i 0 ≤ p.getD i 0
theorem Tw.set {T : List Int} (t : Tw p T) {k : Nat} {v : Int} (hk : k < p.length) (h0 : 0 ≤ v) (h1 : v ≤ p.getD k 0) : Tw p (T.set k v) :=
  ⟨by rw [List.length_set]; exact t.len, fun i hi => by
    rw [getD_set (by rw [t.len]; exact hk)]
    split
    · rename_i e
      rw [← e]
      exact ⟨h0, h1⟩
    · exact t.bd i hi⟩
theorem getD_of {T : List Int} {i : Nat} {a : Int} (h : T[i]? = some a) : T.getD i 0 = a := by rw [List.getD_eq_getElem?_getD, h]; rfl
theorem Tw.tk {T : List Int} (t : Tw p T) (hs : T.sum = m) : Tk p m T := ⟨t.len, fun i a b ha hb => by
  have hi : i < p.length := by
    apply Classical.byContradiction
    intro z
    rw [List.getElem?_eq_none (by omega)] at hb
    cases hb
  have := t.bd i hi
  rw [getD_of ha, getD_of hb] at this
  exact this, hs⟩
theorem sums_eq : ∀ {T p : List Int}, T.length = p.length → (∀ i, i < p.length → T.getD i 0 = p.getD i 0) → T.sum = p.sum
  | [], [], _, _ => rfl
  | x :: T, y :: p, hl, h => by
    have h0 : x = y := h 0 (by simp)
    rw [List.sum_cons, List.sum_cons, h0, sums_eq (T := T) (p := p) (by simpa using hl) fun i hi => h (i + 1) (by simpa using hi)]
  | [], _ :: _, hl, _ => by simp at hl
  | _ :: _, [], hl, _ => by simp at hl
theorem nodup_rng (a b : Int) : (rng a b).Nodup := by
  unfold rng
  refine List.Pairwise.map _ (fun x y h => ?_) List.nodup_range
  intro e
  apply h
  omega
theorem tw_sum {T : List Int} (t : Tw p T) : 0 ≤ T.sum := by
  refine sum_nn fun x hx => ?_
  obtain ⟨i, hi, e⟩ := List.getElem_of_mem hx
  have := t.bd i (by rw [← t.len]; exact hi)
  rw [List.getD_eq_getElem?_getD, List.getElem?_eq_getElem hi, e] at this
  exact this.1
theorem wp_drawn (hp : Pu sto j) (s : Sm p) (r : Row p m) : wp (m_law_drawn_takings [.o j, DI p, .int m]) ⟨[], sto⟩ fun d w' => ∃ i : { i : List Int × O // Tk p m i.1 ∧ Pu (sto.set j i.2) j }, d = DI i.1.1 ∧ w' = ⟨[], sto.set j i.1.2⟩ := by
  have h4 := s.len
  have hr0 := r.lo
  have hr1 := r.hi
  have pnn : ∀ i, i < p.length → 0 ≤ p.getD i 0 := fun i hi => by
    rw [List.getD_eq_getElem?_getD, List.getElem?_eq_getElem hi]
    exact s.nn _ (List.getElem_mem _)
  unfold m_law_drawn_takings
  simp only [↓wp_bnd, ↓wp_pure, ↓wp_mVar, ↓wp_oVar, ↓wp_oE, ↓wp_mFrz, ↓wp_mRV, ↓wp_m1, ↓wp_m2, ↓wp_mB, ↓wp_mChain, ↓wp_mAnd, ↓wp_mOr, ↓wp_mNot, ↓wp_mTru, ↓wp_mIf, ↓wp_mAndV, ↓wp_mOrV, ↓wp_mNotV, ↓wp_aNil, ↓wp_aCons, ↓wp_qNil, ↓wp_qCons, ↓wp_mA, ↓wp_mTup, ↓wp_mLst, ↓wp_mIsi, ↓wp_mPart, ↓wp_mSlice, ↓wp_mRg1, ↓wp_mRg2, ↓wp_mRgL, ↓wp_iRg, ↓wp_iLst, ↓wp_mApp, ↓wp_mSeq, ↓wp_mExpr, ↓wp_mRet, ↓wp_mSet, ↓wp_mAsg, ↓wp_mgName, ↓wp_mgNil, ↓wp_mgCons, ↓wp_mgTup, ↓wp_mgSub, ↓wp_mAug, ↓wp_mAugS, ↓wx_mFor, ↓wx_mLc, ↓wx_mCall, ↓wp_mFn, ↓wx_mCallL, tab1_self, ↓wp_mAlloc, ↓wp_mNew, ↓wp_mDGet, ↓wp_mDIn, ↓wp_mDPut, ↓wp_mListK, ↓wp_mPopAt, ↓wp_mScIx, ↓wp_mScLen, ↓wp_mScSlice, Op.get, rs, RV.toD, stV, setW, gets, f1, fII, fAdd, fSub, fMul, fDiv, fMod, fLt, fLe, fGt, fGe, fNeg, asB, truD, isN, fIsN, fNotN, lenD, absD, PD.intD, max2_eq, min2_eq, min3D, listD, tupleD, ixD, isiD, PD.listAt, putAtL, Option.map_some, List.getElem?_cons_zero, List.getElem?_cons_succ, List.set_cons_zero, List.set_cons_succ, List.map_cons, List.map_nil, List.replicate_succ, List.replicate_zero, List.cons_append, List.nil_append, List.append_nil, List.length_cons, List.length_nil, List.length_map, if_true, if_false, Bool.not_true, Bool.not_false, Bool.false_eq_true, decide_true, decide_false, decide_eq_true_eq, and_true, true_and, and_self, reduceIte, Nat.reduceAdd, Nat.reduceSub, Nat.reduceLeDiff, Nat.reduceLT, Nat.reduceEqDiff, Int.reduceLT, Int.reduceLE, Option.isSome_some, Option.isSome_none, Bool.not_eq_true', Bool.if_true_left]
  refine @wpl_x { e : List SV // wipeE e [9] = [SV.d (.o j), SV.d (DI p), SV.d (.int m), SV.un, SV.un, SV.un, SV.un, SV.un, SV.un, SV.un] } _ _ _ _ _ _ (fun _ => (List.replicate p.length (0 : Int)).map D.int) (fun z => ⟨z.1, sto⟩) ?_ ?_
  · refine wp_lcE (E0 := [SV.d (.o j), SV.d (DI p), SV.d (.int m), SV.un, SV.un, SV.un, SV.un, SV.un, SV.un, SV.un]) (st := sto) (fun _ => true) (fun _ => .int 0) rfl rfl (by rw [List.length_nil, List.length_map]; omega) (fun d hd => ?_) fun w2 h1 h2 => ?_
    · simp only [↓wp_bnd, ↓wp_pure, ↓wp_mVar, ↓wp_oVar, ↓wp_oE, ↓wp_mFrz, ↓wp_mRV, ↓wp_m1, ↓wp_m2, ↓wp_mB, ↓wp_mChain, ↓wp_mAnd, ↓wp_mOr, ↓wp_mNot, ↓wp_mTru, ↓wp_mIf, ↓wp_mAndV, ↓wp_mOrV, ↓wp_mNotV, ↓wp_aNil, ↓wp_aCons, ↓wp_qNil, ↓wp_qCons, ↓wp_mA, ↓wp_mTup, ↓wp_mLst, ↓wp_mIsi, ↓wp_mPart, ↓wp_mSlice, ↓wp_mRg1, ↓wp_mRg2, ↓wp_mRgL, ↓wp_iRg, ↓wp_iLst, ↓wp_mApp, ↓wp_mSeq, ↓wp_mExpr, ↓wp_mRet, ↓wp_mSet, ↓wp_mAsg, ↓wp_mgName, ↓wp_mgNil, ↓wp_mgCons, ↓wp_mgTup, ↓wp_mgSub, ↓wp_mAug, ↓wp_mAugS, ↓wx_mFor, ↓wx_mLc, ↓wx_mCall, ↓wp_mFn, ↓wx_mCallL, tab1_self, ↓wp_mAlloc, ↓wp_mNew, ↓wp_mDGet, ↓wp_mDIn, ↓wp_mDPut, ↓wp_mListK, ↓wp_mPopAt, ↓wp_mScIx, ↓wp_mScLen, ↓wp_mScSlice, Op.get, rs, RV.toD, stV, setW, gets, f1, fII, fAdd, fSub, fMul, fDiv, fMod, fLt, fLe, fGt, fGe, fNeg, asB, truD, isN, fIsN, fNotN, lenD, absD, PD.intD, max2_eq, min2_eq, min3D, listD, tupleD, ixD, isiD, PD.listAt, putAtL, Option.map_some, List.getElem?_cons_zero, List.getElem?_cons_succ, List.set_cons_zero, List.set_cons_succ, List.map_cons, List.map_nil, List.replicate_succ, List.replicate_zero, List.cons_append, List.nil_append, List.append_nil, List.length_cons, List.length_nil, List.length_map, if_true, if_false, Bool.not_true, Bool.not_false, Bool.false_eq_true, decide_true, decide_false, decide_eq_true_eq, and_true, true_and, and_self, reduceIte, Nat.reduceAdd, Nat.reduceSub, Nat.reduceLeDiff, Nat.reduceLT, Nat.reduceEqDiff, Int.reduceLT, Int.reduceLE, Option.isSome_some, Option.isSome_none, Bool.not_eq_true', Bool.if_true_left]
      rfl
    · refine ⟨⟨w2.env, h1⟩, ?_, by rw [← h2]⟩
      rw [List.nil_append, List.filter_eq_self.mpr (fun _ _ => rfl), List.map_map, List.map_replicate]
      exact List.map_const' ..
  · rintro ⟨e9, he9⟩
    have hb : backE [SV.d (.o j), SV.d (DI p), SV.d (.int m), SV.un, SV.un, SV.un, SV.un, SV.un, SV.un, SV.un] e9 [9] = [SV.d (.o j), SV.d (DI p), SV.d (.int m), SV.un, SV.un, SV.un, SV.un, SV.un, SV.un, SV.un] := he9
    simp only [↓wp_bnd, ↓wp_pure, ↓wp_mVar, ↓wp_oVar, ↓wp_oE, ↓wp_mFrz, ↓wp_mRV, ↓wp_m1, ↓wp_m2, ↓wp_mB, ↓wp_mChain, ↓wp_mAnd, ↓wp_mOr, ↓wp_mNot, ↓wp_mTru, ↓wp_mIf, ↓wp_mAndV, ↓wp_mOrV, ↓wp_mNotV, ↓wp_aNil, ↓wp_aCons, ↓wp_qNil, ↓wp_qCons, ↓wp_mA, ↓wp_mTup, ↓wp_mLst, ↓wp_mIsi, ↓wp_mPart, ↓wp_mSlice, ↓wp_mRg1, ↓wp_mRg2, ↓wp_mRgL, ↓wp_iRg, ↓wp_iLst, ↓wp_mApp, ↓wp_mSeq, ↓wp_mExpr, ↓wp_mRet, ↓wp_mSet, ↓wp_mAsg, ↓wp_mgName, ↓wp_mgNil, ↓wp_mgCons, ↓wp_mgTup, ↓wp_mgSub, ↓wp_mAug, ↓wp_mAugS, ↓wx_mFor, ↓wx_mLc, ↓wx_mCall, ↓wp_mFn, ↓wx_mCallL, tab1_self, ↓wp_mAlloc, ↓wp_mNew, ↓wp_mDGet, ↓wp_mDIn, ↓wp_mDPut, ↓wp_mListK, ↓wp_mPopAt, ↓wp_mScIx, ↓wp_mScLen, ↓wp_mScSlice, Op.get, rs, RV.toD, stV, setW, gets, f1, fII, fAdd, fSub, fMul, fDiv, fMod, fLt, fLe, fGt, fGe, fNeg, asB, truD, isN, fIsN, fNotN, lenD, absD, PD.intD, max2_eq, min2_eq, min3D, listD, tupleD, ixD, isiD, PD.listAt, putAtL, Option.map_some, List.getElem?_cons_zero, List.getElem?_cons_succ, List.set_cons_zero, List.set_cons_succ, List.map_cons, List.map_nil, List.replicate_succ, List.replicate_zero, List.cons_append, List.nil_append, List.append_nil, List.length_cons, List.length_nil, List.length_map, if_true, if_false, Bool.not_true, Bool.not_false, Bool.false_eq_true, decide_true, decide_false, decide_eq_true_eq, and_true, true_and, and_self, reduceIte, Nat.reduceAdd, Nat.reduceSub, Nat.reduceLeDiff, Nat.reduceLT, Nat.reduceEqDiff, Int.reduceLT, Int.reduceLE, Option.isSome_some, Option.isSome_none, Bool.not_eq_true', Bool.if_true_left, hb, rgD_rng]
    refine Go.mk ⟨rg_ok (by omega) (by omega) (by omega) (by omega), ?_⟩
    refine @wpc_x _ { i : List Int × O // i.1.Perm (rng 0 p.length) ∧ Pu (sto.set j i.2) j } _ _ _ (fun z => DI z.1.1) (fun z => ⟨[], sto.set j z.1.2⟩) (wp_mix hp (by rw [rng_length]; omega)) ?_
    rintro ⟨⟨order, y0⟩, pe, hy0⟩
    have hmem : ∀ x ∈ order, 0 ≤ x ∧ x < p.length := fun x hx => mem_rng.mp (pe.mem_iff.mp hx)
    have hnd : order.Nodup := pe.nodup_iff.mpr (nodup_rng _ _)
    simp only [↓wp_bnd, ↓wp_pure, ↓wp_mVar, ↓wp_oVar, ↓wp_oE, ↓wp_mFrz, ↓wp_mRV, ↓wp_m1, ↓wp_m2, ↓wp_mB, ↓wp_mChain, ↓wp_mAnd, ↓wp_mOr, ↓wp_mNot, ↓wp_mTru, ↓wp_mIf, ↓wp_mAndV, ↓wp_mOrV, ↓wp_mNotV, ↓wp_aNil, ↓wp_aCons, ↓wp_qNil, ↓wp_qCons, ↓wp_mA, ↓wp_mTup, ↓wp_mLst, ↓wp_mIsi, ↓wp_mPart, ↓wp_mSlice, ↓wp_mRg1, ↓wp_mRg2, ↓wp_mRgL, ↓wp_iRg, ↓wp_iLst, ↓wp_mApp, ↓wp_mSeq, ↓wp_mExpr, ↓wp_mRet, ↓wp_mSet, ↓wp_mAsg, ↓wp_mgName, ↓wp_mgNil, ↓wp_mgCons, ↓wp_mgTup, ↓wp_mgSub, ↓wp_mAug, ↓wp_mAugS, ↓wx_mFor, ↓wx_mLc, ↓wx_mCall, ↓wp_mFn, ↓wx_mCallL, tab1_self, ↓wp_mAlloc, ↓wp_mNew, ↓wp_mDGet, ↓wp_mDIn, ↓wp_mDPut, ↓wp_mListK, ↓wp_mPopAt, ↓wp_mScIx, ↓wp_mScLen, ↓wp_mScSlice, Op.get, rs, RV.toD, stV, setW, gets, f1, fII, fAdd, fSub, fMul, fDiv, fMod, fLt, fLe, fGt, fGe, fNeg, asB, truD, isN, fIsN, fNotN, lenD, absD, PD.intD, max2_eq, min2_eq, min3D, listD, tupleD, ixD, isiD, PD.listAt, putAtL, Option.map_some, List.getElem?_cons_zero, List.getElem?_cons_succ, List.set_cons_zero, List.set_cons_succ, List.map_cons, List.map_nil, List.replicate_succ, List.replicate_zero, List.cons_append, List.nil_append, List.append_nil, List.length_cons, List.length_nil, List.length_map, if_true, if_false, Bool.not_true, Bool.not_false, Bool.false_eq_true, decide_true, decide_false, decide_eq_true_eq, and_true, true_and, and_self, reduceIte, Nat.reduceAdd, Nat.reduceSub, Nat.reduceLeDiff, Nat.reduceLT, Nat.reduceEqDiff, Int.reduceLT, Int.reduceLE, Option.isSome_some, Option.isSome_none, Bool.not_eq_true', Bool.if_true_left, hb]
    refine Go.mk ?_
    refine @wpf_x (SV × SV × { z : List Int × O // Tw p z.1 ∧ 0 ≤ m - z.1.sum ∧ Pu (sto.set j z.2) j }) _ _ _ _ (fun _ => .nx) (fun z => ⟨[SV.d (.o j), SV.d (DI p), SV.d (.int m), SV.own (z.2.2.1.1.map D.int), SV.d (DI order), SV.d (.int (m - z.2.2.1.1.sum)), z.1, z.2.1, SV.un, SV.un], sto.set j z.2.2.1.2⟩) ?_ ?_
    · refine wp_for (fun i w => ∃ (x6 x7 : SV) (T : List Int) (y : O), Tw p T ∧ 0 ≤ m - T.sum ∧ Pu (sto.set j y) j ∧ (∀ x ∈ order.drop i, T.getD x.toNat 0 = 0) ∧ w = ⟨[SV.d (.o j), SV.d (DI p), SV.d (.int m), SV.own (T.map D.int), SV.d (DI order), SV.d (.int (m - T.sum)), x6, x7, SV.un, SV.un], sto.set j y⟩) ?_ ?_ ?_
      · have z0 : (List.replicate p.length (0 : Int)).sum = 0 := by simp
        refine ⟨SV.un, SV.un, List.replicate p.length 0, y0, ⟨by simp, fun i hi => ?_⟩, by omega, hy0, fun x hx => ?_, ?_⟩
        · rw [List.getD_eq_getElem?_getD, List.getElem?_replicate, if_pos hi]
          exact ⟨Int.le_refl _, pnn i hi⟩
        · rw [List.getD_eq_getElem?_getD, List.getElem?_replicate]
          split <;> rfl
        · rw [z0, Int.sub_zero]
      · rintro i d w hd ⟨x6, x7, T, y, tw, hl, hy, hz, rfl⟩
        rw [List.getElem?_map] at hd
        cases ho : order[i]? with
        | none => rw [ho] at hd; cases hd
        | some x =>
          rw [ho] at hd
          cases hd
          have hi : i < order.length := (List.getElem?_eq_some_iff.mp ho).1
          have e2 : order[i] = x := Option.some.inj ((List.getElem?_eq_getElem hi).symm.trans ho)
          obtain ⟨q0, q1⟩ := hmem x (List.mem_of_getElem? ho)
          have tz : T.getD x.toNat 0 = 0 := hz x (by rw [List.drop_eq_getElem_cons hi, e2]; exact List.mem_cons_self ..)
          have px := pnn x.toNat (by omega)
          simp only [↓wp_bnd, ↓wp_pure, ↓wp_mVar, ↓wp_oVar, ↓wp_oE, ↓wp_mFrz, ↓wp_mRV, ↓wp_m1, ↓wp_m2, ↓wp_mB, ↓wp_mChain, ↓wp_mAnd, ↓wp_mOr, ↓wp_mNot, ↓wp_mTru, ↓wp_mIf, ↓wp_mAndV, ↓wp_mOrV, ↓wp_mNotV, ↓wp_aNil, ↓wp_aCons, ↓wp_qNil, ↓wp_qCons, ↓wp_mA, ↓wp_mTup, ↓wp_mLst, ↓wp_mIsi, ↓wp_mPart, ↓wp_mSlice, ↓wp_mRg1, ↓wp_mRg2, ↓wp_mRgL, ↓wp_iRg, ↓wp_iLst, ↓wp_mApp, ↓wp_mSeq, ↓wp_mExpr, ↓wp_mRet, ↓wp_mSet, ↓wp_mAsg, ↓wp_mgName, ↓wp_mgNil, ↓wp_mgCons, ↓wp_mgTup, ↓wp_mgSub, ↓wp_mAug, ↓wp_mAugS, ↓wx_mFor, ↓wx_mLc, ↓wx_mCall, ↓wp_mFn, ↓wx_mCallL, tab1_self, ↓wp_mAlloc, ↓wp_mNew, ↓wp_mDGet, ↓wp_mDIn, ↓wp_mDPut, ↓wp_mListK, ↓wp_mPopAt, ↓wp_mScIx, ↓wp_mScLen, ↓wp_mScSlice, Op.get, rs, RV.toD, stV, setW, gets, f1, fII, fAdd, fSub, fMul, fDiv, fMod, fLt, fLe, fGt, fGe, fNeg, asB, truD, isN, fIsN, fNotN, lenD, absD, PD.intD, max2_eq, min2_eq, min3D, listD, tupleD, ixD, isiD, PD.listAt, putAtL, Option.map_some, List.getElem?_cons_zero, List.getElem?_cons_succ, List.set_cons_zero, List.set_cons_succ, List.map_cons, List.map_nil, List.replicate_succ, List.replicate_zero, List.cons_append, List.nil_append, List.append_nil, List.length_cons, List.length_nil, List.length_map, if_true, if_false, Bool.not_true, Bool.not_false, Bool.false_eq_true, decide_true, decide_false, decide_eq_true_eq, and_true, true_and, and_self, reduceIte, Nat.reduceAdd, Nat.reduceSub, Nat.reduceLeDiff, Nat.reduceLT, Nat.reduceEqDiff, Int.reduceLT, Int.reduceLE, Option.isSome_some, Option.isSome_none, Bool.not_eq_true', Bool.if_true_left, at_map (p := p) (i := x) q0 q1]
          refine @wpc_x _ (DrI (sto.set j y) j 4) _ _ _ (fun z => .int z.1.1) (fun z => ⟨[], (sto.set j y).set j z.1.2⟩) (wp_drawI hy (by omega) (by omega)) ?_
          rintro ⟨⟨v, y2⟩, hy2, v0, v1⟩
          have hv : 0 ≤ imin (imin (m - T.sum) (p.getD x.toNat 0)) (1 + v) ∧ imin (imin (m - T.sum) (p.getD x.toNat 0)) (1 + v) ≤ m - T.sum ∧ imin (imin (m - T.sum) (p.getD x.toNat 0)) (1 + v) ≤ p.getD x.toNat 0 := by unfold imin; split <;> split <;> omega
          simp only [↓wp_bnd, ↓wp_pure, ↓wp_mVar, ↓wp_oVar, ↓wp_oE, ↓wp_mFrz, ↓wp_mRV, ↓wp_m1, ↓wp_m2, ↓wp_mB, ↓wp_mChain, ↓wp_mAnd, ↓wp_mOr, ↓wp_mNot, ↓wp_mTru, ↓wp_mIf, ↓wp_mAndV, ↓wp_mOrV, ↓wp_mNotV, ↓wp_aNil, ↓wp_aCons, ↓wp_qNil, ↓wp_qCons, ↓wp_mA, ↓wp_mTup, ↓wp_mLst, ↓wp_mIsi, ↓wp_mPart, ↓wp_mSlice, ↓wp_mRg1, ↓wp_mRg2, ↓wp_mRgL, ↓wp_iRg, ↓wp_iLst, ↓wp_mApp, ↓wp_mSeq, ↓wp_mExpr, ↓wp_mRet, ↓wp_mSet, ↓wp_mAsg, ↓wp_mgName, ↓wp_mgNil, ↓wp_mgCons, ↓wp_mgTup, ↓wp_mgSub, ↓wp_mAug, ↓wp_mAugS, ↓wx_mFor, ↓wx_mLc, ↓wx_mCall, ↓wp_mFn, ↓wx_mCallL, tab1_self, ↓wp_mAlloc, ↓wp_mNew, ↓wp_mDGet, ↓wp_mDIn, ↓wp_mDPut, ↓wp_mListK, ↓wp_mPopAt, ↓wp_mScIx, ↓wp_mScLen, ↓wp_mScSlice, Op.get, rs, RV.toD, stV, setW, gets, f1, fII, fAdd, fSub, fMul, fDiv, fMod, fLt, fLe, fGt, fGe, fNeg, asB, truD, isN, fIsN, fNotN, lenD, absD, PD.intD, max2_eq, min2_eq, min3D, listD, tupleD, ixD, isiD, PD.listAt, putAtL, Option.map_some, List.getElem?_cons_zero, List.getElem?_cons_succ, List.set_cons_zero, List.set_cons_succ, List.map_cons, List.map_nil, List.replicate_succ, List.replicate_zero, List.cons_append, List.nil_append, List.append_nil, List.length_cons, List.length_nil, List.length_map, if_true, if_false, Bool.not_true, Bool.not_false, Bool.false_eq_true, decide_true, decide_false, decide_eq_true_eq, and_true, true_and, and_self, reduceIte, Nat.reduceAdd, Nat.reduceSub, Nat.reduceLeDiff, Nat.reduceLT, Nat.reduceEqDiff, Int.reduceLT, Int.reduceLE, Option.isSome_some, Option.isSome_none, Bool.not_eq_true', Bool.if_true_left, List.set_set, ixN_ok (n := T.length) (x := x) q0 (by rw [tw.len]; exact q1)]
          have hs := sum_set T x.toNat (imin (imin (m - T.sum) (p.getD x.toNat 0)) (1 + v)) (by rw [tw.len]; omega)
          refine Go.mk ⟨SV.d (.int x), SV.d (.int (imin (imin (m - T.sum) (p.getD x.toNat 0)) (1 + v))), T.set x.toNat (imin (imin (m - T.sum) (p.getD x.toNat 0)) (1 + v)), y2, tw.set (by omega) hv.1 hv.2.2, by omega, pu_put hy _ hy2, fun x' hx' => ?_, ?_⟩
          · rw [getD_set (by rw [tw.len]; omega)]
            have h9 : x' ∈ order.drop i := by rw [List.drop_eq_getElem_cons hi]; exact List.mem_cons_of_mem _ hx'
            split
            · rename_i e
              exfalso
              have hd2 : (order.drop i).Nodup := hnd.sublist (List.drop_sublist _ _)
              rw [List.drop_eq_getElem_cons hi, e2] at hd2
              have hx0 := hmem x' (List.mem_of_mem_drop h9)
              have : x' = x := by omega
              rw [this] at hx'
              exact (List.nodup_cons.mp hd2).1 hx'
            · exact hz x' h9
          · rw [List.map_set, hs, tz, show m - (T.sum - 0 + imin (imin (m - T.sum) (p.getD x.toNat 0)) (1 + v)) = m - T.sum - imin (imin (m - T.sum) (p.getD x.toNat 0)) (1 + v) by omega]
      · rintro w ⟨x6, x7, T, y, tw, hl, hy, hz, rfl⟩
        exact ⟨(x6, x7, ⟨(T, y), tw, hl, hy⟩), rfl, rfl⟩
    · rintro ⟨x6, x7, ⟨T0, y⟩, tw0, hl0, hy⟩
      simp only [↓wp_bnd, ↓wp_pure, ↓wp_mVar, ↓wp_oVar, ↓wp_oE, ↓wp_mFrz, ↓wp_mRV, ↓wp_m1, ↓wp_m2, ↓wp_mB, ↓wp_mChain, ↓wp_mAnd, ↓wp_mOr, ↓wp_mNot, ↓wp_mTru, ↓wp_mIf, ↓wp_mAndV, ↓wp_mOrV, ↓wp_mNotV, ↓wp_aNil, ↓wp_aCons, ↓wp_qNil, ↓wp_qCons, ↓wp_mA, ↓wp_mTup, ↓wp_mLst, ↓wp_mIsi, ↓wp_mPart, ↓wp_mSlice, ↓wp_mRg1, ↓wp_mRg2, ↓wp_mRgL, ↓wp_iRg, ↓wp_iLst, ↓wp_mApp, ↓wp_mSeq, ↓wp_mExpr, ↓wp_mRet, ↓wp_mSet, ↓wp_mAsg, ↓wp_mgName, ↓wp_mgNil, ↓wp_mgCons, ↓wp_mgTup, ↓wp_mgSub, ↓wp_mAug, ↓wp_mAugS, ↓wx_mFor, ↓wx_mLc, ↓wx_mCall, ↓wp_mFn, ↓wx_mCallL, tab1_self, ↓wp_mAlloc, ↓wp_mNew, ↓wp_mDGet, ↓wp_mDIn, ↓wp_mDPut, ↓wp_mListK, ↓wp_mPopAt, ↓wp_mScIx, ↓wp_mScLen, ↓wp_mScSlice, Op.get, rs, RV.toD, stV, setW, gets, f1, fII, fAdd, fSub, fMul, fDiv, fMod, fLt, fLe, fGt, fGe, fNeg, asB, truD, isN, fIsN, fNotN, lenD, absD, PD.intD, max2_eq, min2_eq, min3D, listD, tupleD, ixD, isiD, PD.listAt, putAtL, Option.map_some, List.getElem?_cons_zero, List.getElem?_cons_succ, List.set_cons_zero, List.set_cons_succ, List.map_cons, List.map_nil, List.replicate_succ, List.replicate_zero, List.cons_append, List.nil_append, List.append_nil, List.length_cons, List.length_nil, List.length_map, if_true, if_false, Bool.not_true, Bool.not_false, Bool.false_eq_true, decide_true, decide_false, decide_eq_true_eq, and_true, true_and, and_self, reduceIte, Nat.reduceAdd, Nat.reduceSub, Nat.reduceLeDiff, Nat.reduceLT, Nat.reduceEqDiff, Int.reduceLT, Int.reduceLE, Option.isSome_some, Option.isSome_none, Bool.not_eq_true', Bool.if_true_left]
      refine Go.mk ?_
      refine @wpf_x (SV × SV × { T : List Int // Tw p T ∧ T.sum = m }) _ _ _ _ (fun _ => .nx) (fun z => ⟨[SV.d (.o j), SV.d (DI p), SV.d (.int m), SV.own (z.2.2.1.map D.int), SV.d (DI order), SV.d (.int 0), z.1, x7, z.2.1, SV.un], sto.set j y⟩) ?_ ?_
      · refine wp_for (fun i w => ∃ (x6 x8 : SV) (T : List Int), Tw p T ∧ 0 ≤ m - T.sum ∧ (∀ x ∈ order.take i, m - T.sum = 0 ∨ T.getD x.toNat 0 = p.getD x.toNat 0) ∧ w = ⟨[SV.d (.o j), SV.d (DI p), SV.d (.int m), SV.own (T.map D.int), SV.d (DI order), SV.d (.int (m - T.sum)), x6, x7, x8, SV.un], sto.set j y⟩) ?_ ?_ ?_
        · exact ⟨x6, SV.un, T0, tw0, hl0, fun x hx => by simp at hx, rfl⟩
        · rintro i d w hd ⟨x6, x8, T, tw, hl, hz, rfl⟩
          rw [List.getElem?_map] at hd
          cases ho : order[i]? with
          | none => rw [ho] at hd; cases hd
          | some x =>
            rw [ho] at hd
            cases hd
            obtain ⟨q0, q1⟩ := hmem x (List.mem_of_getElem? ho)
            have tb := tw.bd x.toNat (by omega)
            have tl := tw.len
            have hv : 0 ≤ imin (m - T.sum) (p.getD x.toNat 0 - T.getD x.toNat 0) ∧ imin (m - T.sum) (p.getD x.toNat 0 - T.getD x.toNat 0) ≤ m - T.sum ∧ imin (m - T.sum) (p.getD x.toNat 0 - T.getD x.toNat 0) ≤ p.getD x.toNat 0 - T.getD x.toNat 0 ∧ (imin (m - T.sum) (p.getD x.toNat 0 - T.getD x.toNat 0) = m - T.sum ∨ imin (m - T.sum) (p.getD x.toNat 0 - T.getD x.toNat 0) = p.getD x.toNat 0 - T.getD x.toNat 0) := by unfold imin; split <;> omega
            simp only [↓wp_bnd, ↓wp_pure, ↓wp_mVar, ↓wp_oVar, ↓wp_oE, ↓wp_mFrz, ↓wp_mRV, ↓wp_m1, ↓wp_m2, ↓wp_mB, ↓wp_mChain, ↓wp_mAnd, ↓wp_mOr, ↓wp_mNot, ↓wp_mTru, ↓wp_mIf, ↓wp_mAndV, ↓wp_mOrV, ↓wp_mNotV, ↓wp_aNil, ↓wp_aCons, ↓wp_qNil, ↓wp_qCons, ↓wp_mA, ↓wp_mTup, ↓wp_mLst, ↓wp_mIsi, ↓wp_mPart, ↓wp_mSlice, ↓wp_mRg1, ↓wp_mRg2, ↓wp_mRgL, ↓wp_iRg, ↓wp_iLst, ↓wp_mApp, ↓wp_mSeq, ↓wp_mExpr, ↓wp_mRet, ↓wp_mSet, ↓wp_mAsg, ↓wp_mgName, ↓wp_mgNil, ↓wp_mgCons, ↓wp_mgTup, ↓wp_mgSub, ↓wp_mAug, ↓wp_mAugS, ↓wx_mFor, ↓wx_mLc, ↓wx_mCall, ↓wp_mFn, ↓wx_mCallL, tab1_self, ↓wp_mAlloc, ↓wp_mNew, ↓wp_mDGet, ↓wp_mDIn, ↓wp_mDPut, ↓wp_mListK, ↓wp_mPopAt, ↓wp_mScIx, ↓wp_mScLen, ↓wp_mScSlice, Op.get, rs, RV.toD, stV, setW, gets, f1, fII, fAdd, fSub, fMul, fDiv, fMod, fLt, fLe, fGt, fGe, fNeg, asB, truD, isN, fIsN, fNotN, lenD, absD, PD.intD, max2_eq, min2_eq, min3D, listD, tupleD, ixD, isiD, PD.listAt, putAtL, Option.map_some, List.getElem?_cons_zero, List.getElem?_cons_succ, List.set_cons_zero, List.set_cons_succ, List.map_cons, List.map_nil, List.replicate_succ, List.replicate_zero, List.cons_append, List.nil_append, List.append_nil, List.length_cons, List.length_nil, List.length_map, if_true, if_false, Bool.not_true, Bool.not_false, Bool.false_eq_true, decide_true, decide_false, decide_eq_true_eq, and_true, true_and, and_self, reduceIte, Nat.reduceAdd, Nat.reduceSub, Nat.reduceLeDiff, Nat.reduceLT, Nat.reduceEqDiff, Int.reduceLT, Int.reduceLE, Option.isSome_some, Option.isSome_none, Bool.not_eq_true', Bool.if_true_left, at_map (p := p) (i := x) q0 q1, at_map (p := T) (i := x) q0 (by omega), ixN_ok (n := T.length) (x := x) q0 (by omega)]
            have hs := sum_set T x.toNat (T.getD x.toNat 0 + imin (m - T.sum) (p.getD x.toNat 0 - T.getD x.toNat 0)) (by omega)
            refine ⟨SV.d (.int x), SV.d (.int (imin (m - T.sum) (p.getD x.toNat 0 - T.getD x.toNat 0))), T.set x.toNat (T.getD x.toNat 0 + imin (m - T.sum) (p.getD x.toNat 0 - T.getD x.toNat 0)), tw.set (by omega) (by omega) (by omega), by omega, fun x' hx' => ?_, ?_⟩
            · rw [take_snoc ho] at hx'
              rw [getD_set (by omega), hs]
              rcases List.mem_append.mp hx' with h | h
              · rcases hz x' h with h | h
                · left; omega
                · split
                  · rename_i e
                    rw [← e] at h ⊢
                    rcases hv.2.2.2 with h8 | h8
                    · left; omega
                    · right; omega
                  · exact .inr h
              · rw [List.mem_singleton.mp h, if_pos rfl]
                rcases hv.2.2.2 with h8 | h8
                · left; omega
                · right; omega
            · rw [List.map_set, hs, show m - (T.sum - T.getD x.toNat 0 + (T.getD x.toNat 0 + imin (m - T.sum) (p.getD x.toNat 0 - T.getD x.toNat 0))) = m - T.sum - imin (m - T.sum) (p.getD x.toNat 0 - T.getD x.toNat 0) by omega]
        · rintro w ⟨x6, x8, T, tw, hl, hz, rfl⟩
          rw [List.length_map, List.take_length] at hz
          have h0 : m - T.sum = 0 := by
            apply Classical.byContradiction
            intro hne
            have : T.sum = p.sum := sums_eq tw.len fun i hi => by
              have hx : (i : Int) ∈ order := pe.mem_iff.mpr (mem_rng.mpr (by omega))
              rcases hz _ hx with h | h
              · exact absurd h hne
              · exact h
            omega
          exact ⟨(x6, x8, ⟨T, tw, by omega⟩), rfl, by rw [h0]⟩
      · rintro ⟨x6, x8, T, tw, hs⟩
        simp only [↓wp_bnd, ↓wp_pure, ↓wp_mVar, ↓wp_oVar, ↓wp_oE, ↓wp_mFrz, ↓wp_mRV, ↓wp_m1, ↓wp_m2, ↓wp_mB, ↓wp_mChain, ↓wp_mAnd, ↓wp_mOr, ↓wp_mNot, ↓wp_mTru, ↓wp_mIf, ↓wp_mAndV, ↓wp_mOrV, ↓wp_mNotV, ↓wp_aNil, ↓wp_aCons, ↓wp_qNil, ↓wp_qCons, ↓wp_mA, ↓wp_mTup, ↓wp_mLst, ↓wp_mIsi, ↓wp_mPart, ↓wp_mSlice, ↓wp_mRg1, ↓wp_mRg2, ↓wp_mRgL, ↓wp_iRg, ↓wp_iLst, ↓wp_mApp, ↓wp_mSeq, ↓wp_mExpr, ↓wp_mRet, ↓wp_mSet, ↓wp_mAsg, ↓wp_mgName, ↓wp_mgNil, ↓wp_mgCons, ↓wp_mgTup, ↓wp_mgSub, ↓wp_mAug, ↓wp_mAugS, ↓wx_mFor, ↓wx_mLc, ↓wx_mCall, ↓wp_mFn, ↓wx_mCallL, tab1_self, ↓wp_mAlloc, ↓wp_mNew, ↓wp_mDGet, ↓wp_mDIn, ↓wp_mDPut, ↓wp_mListK, ↓wp_mPopAt, ↓wp_mScIx, ↓wp_mScLen, ↓wp_mScSlice, Op.get, rs, RV.toD, stV, setW, gets, f1, fII, fAdd, fSub, fMul, fDiv, fMod, fLt, fLe, fGt, fGe, fNeg, asB, truD, isN, fIsN, fNotN, lenD, absD, PD.intD, max2_eq, min2_eq, min3D, listD, tupleD, ixD, isiD, PD.listAt, putAtL, Option.map_some, List.getElem?_cons_zero, List.getElem?_cons_succ, List.set_cons_zero, List.set_cons_succ, List.map_cons, List.map_nil, List.replicate_succ, List.replicate_zero, List.cons_append, List.nil_append, List.append_nil, List.length_cons, List.length_nil, List.length_map, if_true, if_false, Bool.not_true, Bool.not_false, Bool.false_eq_true, decide_true, decide_false, decide_eq_true_eq, and_true, true_and, and_self, reduceIte, Nat.reduceAdd, Nat.reduceSub, Nat.reduceLeDiff, Nat.reduceLT, Nat.reduceEqDiff, Int.reduceLT, Int.reduceLE, Option.isSome_some, Option.isSome_none, Bool.not_eq_true', Bool.if_true_left]
        exact ⟨⟨⟨(T, y), tw.tk hs, hy⟩, rfl, rfl⟩⟩
end
end K73

set_option maxHeartbeats 1000000
namespace K73
open PySem PySem.Spec PyProof.Rows L2 PD
section
variable {p : List Int} {l c h m : Int} {sto : List O} {j : Nat} {ns : List Int}
/-- a small row -/
structure Few (p : List Int) : Prop where
  nn : ∀ x ∈ p, 0 ≤ x ∧ x ≤ 3
  len : p.length ≤ 6
  sum : 1 ≤ p.sum
theorem sum_le : ∀ {p : List Int} {k : Int}, (∀ x ∈ p, x ≤ k) → p.sum ≤ p.length * k
  | [], k, _ => by simp
  | x :: p, k, h => by
    rw [List.sum_cons, List.length_cons]
    have := h x (List.mem_cons_self ..)
    have := sum_le (p := p) fun y hy => h y (List.mem_cons_of_mem _ hy)
    have e : ((p.length + 1 : Nat) : Int) * k = p.length * k + k := by rw [Int.natCast_add, Int.add_mul]; simp
    omega
theorem Few.sm (f : Few p) : Sm p := ⟨fun x hx => (f.nn x hx).1, by have := f.len; omega, by
  have h1 := sum_le (p := p) (k := 3) fun x hx => (f.nn x hx).2
  have := f.len
  omega⟩
theorem wp_small (hp : Pu sto j) : wp (m_law_small_row [.o j]) ⟨[], sto⟩ fun d w' => ∃ i : { i : List Int × O // Few i.1 ∧ i.1.length ≤ 4 ∧ Pu (sto.set j i.2) j }, d = DI i.1.1 ∧ w' = ⟨[], sto.set j i.1.2⟩ := by
  unfold m_law_small_row
  simp only [↓wp_bnd, ↓wp_pure, ↓wp_mVar, ↓wp_oVar, ↓wp_oE, ↓wp_mFrz, ↓wp_mRV, ↓wp_m1, ↓wp_m2, ↓wp_mB, ↓wp_mChain, ↓wp_mAnd, ↓wp_mOr, ↓wp_mNot, ↓wp_mTru, ↓wp_mIf, ↓wp_mAndV, ↓wp_mOrV, ↓wp_mNotV, ↓wp_aNil, ↓wp_aCons, ↓wp_qNil, ↓wp_qCons, ↓wp_mA, ↓wp_mTup, ↓wp_mLst, ↓wp_mIsi, ↓wp_mPart, ↓wp_mSlice, ↓wp_mRg1, ↓wp_mRg2, ↓wp_mRgL, ↓wp_iRg, ↓wp_iLst, ↓wp_mApp, ↓wp_mSeq, ↓wp_mExpr, ↓wp_mRet, ↓wp_mSet, ↓wp_mAsg, ↓wp_mgName, ↓wp_mgNil, ↓wp_mgCons, ↓wp_mgTup, ↓wp_mgSub, ↓wp_mAug, ↓wp_mAugS, ↓wx_mFor, ↓wx_mLc, ↓wx_mCall, ↓wp_mFn, ↓wx_mCallL, tab1_self, ↓wp_mAlloc, ↓wp_mNew, ↓wp_mDGet, ↓wp_mDIn, ↓wp_mDPut, ↓wp_mListK, ↓wp_mPopAt, ↓wp_mScIx, ↓wp_mScLen, ↓wp_mScSlice, Op.get, rs, RV.toD, stV, setW, gets, f1, fII, fAdd, fSub, fMul, fDiv, fMod, fLt, fLe, fGt, fGe, fNeg, asB, truD, isN, fIsN, fNotN, lenD, absD, PD.intD, max2_eq, min2_eq, min3D, listD, tupleD, ixD, isiD, PD.listAt, putAtL, Option.map_some, List.getElem?_cons_zero, List.getElem?_cons_succ, List.set_cons_zero, List.set_cons_succ, List.map_cons, List.map_nil, List.replicate_succ, List.replicate_zero, List.cons_append, List.nil_append, List.append_nil, List.length_cons, List.length_nil, List.length_map, if_true, if_false, Bool.not_true, Bool.not_false, Bool.false_eq_true, decide_true, decide_false, decide_eq_true_eq, and_true, true_and, and_self, reduceIte, Nat.reduceAdd, Nat.reduceSub, Nat.reduceLeDiff, Nat.reduceLT, Nat.reduceEqDiff, Int.reduceLT, Int.reduceLE, Option.isSome_some, Option.isSome_none, Bool.not_eq_true', Bool.if_true_left]
  refine @wpc_x _ (DrI sto j 4) _ _ _ (fun z => .int z.1.1) (fun z => ⟨[], sto.set j z.1.2⟩) (wp_drawI hp (by omega) (by omega)) ?_
  rintro ⟨⟨v, y1⟩, hy1, v0, v1⟩
  by_cases z : 1 + v < 4
  · simp only [↓wp_bnd, ↓wp_pure, ↓wp_mVar, ↓wp_oVar, ↓wp_oE, ↓wp_mFrz, ↓wp_mRV, ↓wp_m1, ↓wp_m2, ↓wp_mB, ↓wp_mChain, ↓wp_mAnd, ↓wp_mOr, ↓wp_mNot, ↓wp_mTru, ↓wp_mIf, ↓wp_mAndV, ↓wp_mOrV, ↓wp_mNotV, ↓wp_aNil, ↓wp_aCons, ↓wp_qNil, ↓wp_qCons, ↓wp_mA, ↓wp_mTup, ↓wp_mLst, ↓wp_mIsi, ↓wp_mPart, ↓wp_mSlice, ↓wp_mRg1, ↓wp_mRg2, ↓wp_mRgL, ↓wp_iRg, ↓wp_iLst, ↓wp_mApp, ↓wp_mSeq, ↓wp_mExpr, ↓wp_mRet, ↓wp_mSet, ↓wp_mAsg, ↓wp_mgName, ↓wp_mgNil, ↓wp_mgCons, ↓wp_mgTup, ↓wp_mgSub, ↓wp_mAug, ↓wp_mAugS, ↓wx_mFor, ↓wx_mLc, ↓wx_mCall, ↓wp_mFn, ↓wx_mCallL, tab1_self, ↓wp_mAlloc, ↓wp_mNew, ↓wp_mDGet, ↓wp_mDIn, ↓wp_mDPut, ↓wp_mListK, ↓wp_mPopAt, ↓wp_mScIx, ↓wp_mScLen, ↓wp_mScSlice, Op.get, rs, RV.toD, stV, setW, gets, f1, fII, fAdd, fSub, fMul, fDiv, fMod, fLt, fLe, fGt, fGe, fNeg, asB, truD, isN, fIsN, fNotN, lenD, absD, PD.intD, max2_eq, min2_eq, min3D, listD, tupleD, ixD, isiD, PD.listAt, putAtL, Option.map_some, List.getElem?_cons_zero, List.getElem?_cons_succ, List.set_cons_zero, List.set_cons_succ, List.map_cons, List.map_nil, List.replicate_succ, List.replicate_zero, List.cons_append, List.nil_append, List.append_nil, List.length_cons, List.length_nil, List.length_map, if_true, if_false, Bool.not_true, Bool.not_false, Bool.false_eq_true, decide_true, decide_false, decide_eq_true_eq, and_true, true_and, and_self, reduceIte, Nat.reduceAdd, Nat.reduceSub, Nat.reduceLeDiff, Nat.reduceLT, Nat.reduceEqDiff, Int.reduceLT, Int.reduceLE, Option.isSome_some, Option.isSome_none, Bool.not_eq_true', Bool.if_true_left, z]
    refine Go.mk (@wpc_x _ (DrI (sto.set j y1) j 3) _ _ _ (fun z => .int z.1.1) (fun z => ⟨[], (sto.set j y1).set j z.1.2⟩) (wp_drawI hy1 (by omega) (by omega)) ?_)
    rintro ⟨⟨same, y2⟩, hy2, s0, s1⟩
    simp only [↓wp_bnd, ↓wp_pure, ↓wp_mVar, ↓wp_oVar, ↓wp_oE, ↓wp_mFrz, ↓wp_mRV, ↓wp_m1, ↓wp_m2, ↓wp_mB, ↓wp_mChain, ↓wp_mAnd, ↓wp_mOr, ↓wp_mNot, ↓wp_mTru, ↓wp_mIf, ↓wp_mAndV, ↓wp_mOrV, ↓wp_mNotV, ↓wp_aNil, ↓wp_aCons, ↓wp_qNil, ↓wp_qCons, ↓wp_mA, ↓wp_mTup, ↓wp_mLst, ↓wp_mIsi, ↓wp_mPart, ↓wp_mSlice, ↓wp_mRg1, ↓wp_mRg2, ↓wp_mRgL, ↓wp_iRg, ↓wp_iLst, ↓wp_mApp, ↓wp_mSeq, ↓wp_mExpr, ↓wp_mRet, ↓wp_mSet, ↓wp_mAsg, ↓wp_mgName, ↓wp_mgNil, ↓wp_mgCons, ↓wp_mgTup, ↓wp_mgSub, ↓wp_mAug, ↓wp_mAugS, ↓wx_mFor, ↓wx_mLc, ↓wx_mCall, ↓wp_mFn, ↓wx_mCallL, tab1_self, ↓wp_mAlloc, ↓wp_mNew, ↓wp_mDGet, ↓wp_mDIn, ↓wp_mDPut, ↓wp_mListK, ↓wp_mPopAt, ↓wp_mScIx, ↓wp_mScLen, ↓wp_mScSlice, Op.get, rs, RV.toD, stV, setW, gets, f1, fII, fAdd, fSub, fMul, fDiv, fMod, fLt, fLe, fGt, fGe, fNeg, asB, truD, isN, fIsN, fNotN, lenD, absD, PD.intD, max2_eq, min2_eq, min3D, listD, tupleD, ixD, isiD, PD.listAt, putAtL, Option.map_some, List.getElem?_cons_zero, List.getElem?_cons_succ, List.set_cons_zero, List.set_cons_succ, List.map_cons, List.map_nil, List.replicate_succ, List.replicate_zero, List.cons_append, List.nil_append, List.append_nil, List.length_cons, List.length_nil, List.length_map, if_true, if_false, Bool.not_true, Bool.not_false, Bool.false_eq_true, decide_true, decide_false, decide_eq_true_eq, and_true, true_and, and_self, reduceIte, Nat.reduceAdd, Nat.reduceSub, Nat.reduceLeDiff, Nat.reduceLT, Nat.reduceEqDiff, Int.reduceLT, Int.reduceLE, Option.isSome_some, Option.isSome_none, Bool.not_eq_true', Bool.if_true_left, List.set_set]
    have hy2' := pu_put hy1 _ hy2
    refine Go.mk (@wpc_x _ (DrI (sto.set j y2) j 3) _ _ _ (fun z => .int z.1.1) (fun z => ⟨[], (sto.set j y2).set j z.1.2⟩) (wp_drawI hy2' (by omega) (by omega)) ?_)
    rintro ⟨⟨v3, y3⟩, hy3, u0, u1⟩
    have hy3' := pu_put hy2' _ hy3
    simp only [↓wp_bnd, ↓wp_pure, ↓wp_mVar, ↓wp_oVar, ↓wp_oE, ↓wp_mFrz, ↓wp_mRV, ↓wp_m1, ↓wp_m2, ↓wp_mB, ↓wp_mChain, ↓wp_mAnd, ↓wp_mOr, ↓wp_mNot, ↓wp_mTru, ↓wp_mIf, ↓wp_mAndV, ↓wp_mOrV, ↓wp_mNotV, ↓wp_aNil, ↓wp_aCons, ↓wp_qNil, ↓wp_qCons, ↓wp_mA, ↓wp_mTup, ↓wp_mLst, ↓wp_mIsi, ↓wp_mPart, ↓wp_mSlice, ↓wp_mRg1, ↓wp_mRg2, ↓wp_mRgL, ↓wp_iRg, ↓wp_iLst, ↓wp_mApp, ↓wp_mSeq, ↓wp_mExpr, ↓wp_mRet, ↓wp_mSet, ↓wp_mAsg, ↓wp_mgName, ↓wp_mgNil, ↓wp_mgCons, ↓wp_mgTup, ↓wp_mgSub, ↓wp_mAug, ↓wp_mAugS, ↓wx_mFor, ↓wx_mLc, ↓wx_mCall, ↓wp_mFn, ↓wx_mCallL, tab1_self, ↓wp_mAlloc, ↓wp_mNew, ↓wp_mDGet, ↓wp_mDIn, ↓wp_mDPut, ↓wp_mListK, ↓wp_mPopAt, ↓wp_mScIx, ↓wp_mScLen, ↓wp_mScSlice, Op.get, rs, RV.toD, stV, setW, gets, f1, fII, fAdd, fSub, fMul, fDiv, fMod, fLt, fLe, fGt, fGe, fNeg, asB, truD, isN, fIsN, fNotN, lenD, absD, PD.intD, max2_eq, min2_eq, min3D, listD, tupleD, ixD, isiD, PD.listAt, putAtL, Option.map_some, List.getElem?_cons_zero, List.getElem?_cons_succ, List.set_cons_zero, List.set_cons_succ, List.map_cons, List.map_nil, List.replicate_succ, List.replicate_zero, List.cons_append, List.nil_append, List.append_nil, List.length_cons, List.length_nil, List.length_map, if_true, if_false, Bool.not_true, Bool.not_false, Bool.false_eq_true, decide_true, decide_false, decide_eq_true_eq, and_true, true_and, and_self, reduceIte, Nat.reduceAdd, Nat.reduceSub, Nat.reduceLeDiff, Nat.reduceLT, Nat.reduceEqDiff, Int.reduceLT, Int.reduceLE, Option.isSome_some, Option.isSome_none, Bool.not_eq_true', Bool.if_true_left, List.set_set]
    refine Go.mk ⟨rg2_ok (by omega) (by omega) (by omega) (by omega), ?_⟩
    refine @wpf_x { z : List Int × O × SV // (∀ x ∈ z.1, 0 ≤ x ∧ x ≤ 3) ∧ z.1.length = (1 + v).toNat ∧ Pu (sto.set j z.2.1) j } _ _ _ _ (fun _ => .nx) (fun z => ⟨[SV.d (.o j), SV.d (.int (1 + v)), SV.d (.int 3), SV.d (.int same), SV.d (.int (1 + v3)), SV.own (z.1.1.map D.int), z.1.2.2, SV.un], sto.set j z.1.2.1⟩) ?_ ?_
    · refine wp_for (fun i w => ∃ (N : List Int) (x6 : SV) (y : O), (∀ x ∈ N, 0 ≤ x ∧ x ≤ 3) ∧ N.length = i ∧ Pu (sto.set j y) j ∧ w = ⟨[SV.d (.o j), SV.d (.int (1 + v)), SV.d (.int 3), SV.d (.int same), SV.d (.int (1 + v3)), SV.own (N.map D.int), x6, SV.un], sto.set j y⟩) ?_ ?_ ?_
      · exact ⟨[], SV.un, y3, (fun x h => by cases h), rfl, hy3', rfl⟩
      · rintro i d w hd ⟨N, x6, y, hN, hl, hy, rfl⟩
        obtain ⟨k, hk, rfl, k1, k2⟩ := rgD_at hd
        have hi := (List.getElem?_eq_some_iff.mp hk).1
        rw [rng_length] at hi
        by_cases zs : same = 0
        · simp only [↓wp_bnd, ↓wp_pure, ↓wp_mVar, ↓wp_oVar, ↓wp_oE, ↓wp_mFrz, ↓wp_mRV, ↓wp_m1, ↓wp_m2, ↓wp_mB, ↓wp_mChain, ↓wp_mAnd, ↓wp_mOr, ↓wp_mNot, ↓wp_mTru, ↓wp_mIf, ↓wp_mAndV, ↓wp_mOrV, ↓wp_mNotV, ↓wp_aNil, ↓wp_aCons, ↓wp_qNil, ↓wp_qCons, ↓wp_mA, ↓wp_mTup, ↓wp_mLst, ↓wp_mIsi, ↓wp_mPart, ↓wp_mSlice, ↓wp_mRg1, ↓wp_mRg2, ↓wp_mRgL, ↓wp_iRg, ↓wp_iLst, ↓wp_mApp, ↓wp_mSeq, ↓wp_mExpr, ↓wp_mRet, ↓wp_mSet, ↓wp_mAsg, ↓wp_mgName, ↓wp_mgNil, ↓wp_mgCons, ↓wp_mgTup, ↓wp_mgSub, ↓wp_mAug, ↓wp_mAugS, ↓wx_mFor, ↓wx_mLc, ↓wx_mCall, ↓wp_mFn, ↓wx_mCallL, tab1_self, ↓wp_mAlloc, ↓wp_mNew, ↓wp_mDGet, ↓wp_mDIn, ↓wp_mDPut, ↓wp_mListK, ↓wp_mPopAt, ↓wp_mScIx, ↓wp_mScLen, ↓wp_mScSlice, Op.get, rs, RV.toD, stV, setW, gets, f1, fII, fAdd, fSub, fMul, fDiv, fMod, fLt, fLe, fGt, fGe, fNeg, asB, truD, isN, fIsN, fNotN, lenD, absD, PD.intD, max2_eq, min2_eq, min3D, listD, tupleD, ixD, isiD, PD.listAt, putAtL, Option.map_some, List.getElem?_cons_zero, List.getElem?_cons_succ, List.set_cons_zero, List.set_cons_succ, List.map_cons, List.map_nil, List.replicate_succ, List.replicate_zero, List.cons_append, List.nil_append, List.append_nil, List.length_cons, List.length_nil, List.length_map, if_true, if_false, Bool.not_true, Bool.not_false, Bool.false_eq_true, decide_true, decide_false, decide_eq_true_eq, and_true, true_and, and_self, reduceIte, Nat.reduceAdd, Nat.reduceSub, Nat.reduceLeDiff, Nat.reduceLT, Nat.reduceEqDiff, Int.reduceLT, Int.reduceLE, Option.isSome_some, Option.isSome_none, Bool.not_eq_true', Bool.if_true_left, fEq_int, zs]
          refine ⟨by omega, N ++ [1 + v3], SV.d (.int k), y, fun x hx => ?_, by rw [List.length_append, hl]; rfl, hy, ?_⟩
          · rcases List.mem_append.mp hx with h | h
            · exact hN x h
            · rw [List.mem_singleton.mp h]; omega
          · rw [List.map_append]; rfl
        · simp only [↓wp_bnd, ↓wp_pure, ↓wp_mVar, ↓wp_oVar, ↓wp_oE, ↓wp_mFrz, ↓wp_mRV, ↓wp_m1, ↓wp_m2, ↓wp_mB, ↓wp_mChain, ↓wp_mAnd, ↓wp_mOr, ↓wp_mNot, ↓wp_mTru, ↓wp_mIf, ↓wp_mAndV, ↓wp_mOrV, ↓wp_mNotV, ↓wp_aNil, ↓wp_aCons, ↓wp_qNil, ↓wp_qCons, ↓wp_mA, ↓wp_mTup, ↓wp_mLst, ↓wp_mIsi, ↓wp_mPart, ↓wp_mSlice, ↓wp_mRg1, ↓wp_mRg2, ↓wp_mRgL, ↓wp_iRg, ↓wp_iLst, ↓wp_mApp, ↓wp_mSeq, ↓wp_mExpr, ↓wp_mRet, ↓wp_mSet, ↓wp_mAsg, ↓wp_mgName, ↓wp_mgNil, ↓wp_mgCons, ↓wp_mgTup, ↓wp_mgSub, ↓wp_mAug, ↓wp_mAugS, ↓wx_mFor, ↓wx_mLc, ↓wx_mCall, ↓wp_mFn, ↓wx_mCallL, tab1_self, ↓wp_mAlloc, ↓wp_mNew, ↓wp_mDGet, ↓wp_mDIn, ↓wp_mDPut, ↓wp_mListK, ↓wp_mPopAt, ↓wp_mScIx, ↓wp_mScLen, ↓wp_mScSlice, Op.get, rs, RV.toD, stV, setW, gets, f1, fII, fAdd, fSub, fMul, fDiv, fMod, fLt, fLe, fGt, fGe, fNeg, asB, truD, isN, fIsN, fNotN, lenD, absD, PD.intD, max2_eq, min2_eq, min3D, listD, tupleD, ixD, isiD, PD.listAt, putAtL, Option.map_some, List.getElem?_cons_zero, List.getElem?_cons_succ, List.set_cons_zero, List.set_cons_succ, List.map_cons, List.map_nil, List.replicate_succ, List.replicate_zero, List.cons_append, List.nil_append, List.append_nil, List.length_cons, List.length_nil, List.length_map, if_true, if_false, Bool.not_true, Bool.not_false, Bool.false_eq_true, decide_true, decide_false, decide_eq_true_eq, and_true, true_and, and_self, reduceIte, Nat.reduceAdd, Nat.reduceSub, Nat.reduceLeDiff, Nat.reduceLT, Nat.reduceEqDiff, Int.reduceLT, Int.reduceLE, Option.isSome_some, Option.isSome_none, Bool.not_eq_true', Bool.if_true_left, fEq_int, zs]
          refine @wpc_x _ (DrI (sto.set j y) j (3 + 1)) _ _ _ (fun z => .int z.1.1) (fun z => ⟨[], (sto.set j y).set j z.1.2⟩) (wp_drawI hy (by omega) (by omega)) ?_
          rintro ⟨⟨v4, y4⟩, hy4, w0, w1⟩
          simp only [↓wp_bnd, ↓wp_pure, ↓wp_mVar, ↓wp_oVar, ↓wp_oE, ↓wp_mFrz, ↓wp_mRV, ↓wp_m1, ↓wp_m2, ↓wp_mB, ↓wp_mChain, ↓wp_mAnd, ↓wp_mOr, ↓wp_mNot, ↓wp_mTru, ↓wp_mIf, ↓wp_mAndV, ↓wp_mOrV, ↓wp_mNotV, ↓wp_aNil, ↓wp_aCons, ↓wp_qNil, ↓wp_qCons, ↓wp_mA, ↓wp_mTup, ↓wp_mLst, ↓wp_mIsi, ↓wp_mPart, ↓wp_mSlice, ↓wp_mRg1, ↓wp_mRg2, ↓wp_mRgL, ↓wp_iRg, ↓wp_iLst, ↓wp_mApp, ↓wp_mSeq, ↓wp_mExpr, ↓wp_mRet, ↓wp_mSet, ↓wp_mAsg, ↓wp_mgName, ↓wp_mgNil, ↓wp_mgCons, ↓wp_mgTup, ↓wp_mgSub, ↓wp_mAug, ↓wp_mAugS, ↓wx_mFor, ↓wx_mLc, ↓wx_mCall, ↓wp_mFn, ↓wx_mCallL, tab1_self, ↓wp_mAlloc, ↓wp_mNew, ↓wp_mDGet, ↓wp_mDIn, ↓wp_mDPut, ↓wp_mListK, ↓wp_mPopAt, ↓wp_mScIx, ↓wp_mScLen, ↓wp_mScSlice, Op.get, rs, RV.toD, stV, setW, gets, f1, fII, fAdd, fSub, fMul, fDiv, fMod, fLt, fLe, fGt, fGe, fNeg, asB, truD, isN, fIsN, fNotN, lenD, absD, PD.intD, max2_eq, min2_eq, min3D, listD, tupleD, ixD, isiD, PD.listAt, putAtL, Option.map_some, List.getElem?_cons_zero, List.getElem?_cons_succ, List.set_cons_zero, List.set_cons_succ, List.map_cons, List.map_nil, List.replicate_succ, List.replicate_zero, List.cons_append, List.nil_append, List.append_nil, List.length_cons, List.length_nil, List.length_map, if_true, if_false, Bool.not_true, Bool.not_false, Bool.false_eq_true, decide_true, decide_false, decide_eq_true_eq, and_true, true_and, and_self, reduceIte, Nat.reduceAdd, Nat.reduceSub, Nat.reduceLeDiff, Nat.reduceLT, Nat.reduceEqDiff, Int.reduceLT, Int.reduceLE, Option.isSome_some, Option.isSome_none, Bool.not_eq_true', Bool.if_true_left, List.set_set]
          refine Go.mk ⟨by omega, N ++ [v4], SV.d (.int k), y4, fun x hx => ?_, by rw [List.length_append, hl]; rfl, pu_put hy _ hy4, ?_⟩
          · rcases List.mem_append.mp hx with h | h
            · exact hN x h
            · rw [List.mem_singleton.mp h]; omega
          · rw [List.map_append]; rfl
      · rintro w ⟨N, x6, y, hN, hl, hy, rfl⟩
        refine ⟨⟨(N, y, x6), hN, ?_, hy⟩, rfl, rfl⟩
        rw [hl, rgD_rng, List.length_map, rng_length, Int.sub_zero]
    · rintro ⟨⟨N, y, x6⟩, hN, hl, hy⟩
      have hl' : N.length = (1 + v).toNat := hl
      have hN' : ∀ x ∈ N, 0 ≤ x ∧ x ≤ 3 := hN
      by_cases zz : N.sum = 0
      · simp only [↓wp_bnd, ↓wp_pure, ↓wp_mVar, ↓wp_oVar, ↓wp_oE, ↓wp_mFrz, ↓wp_mRV, ↓wp_m1, ↓wp_m2, ↓wp_mB, ↓wp_mChain, ↓wp_mAnd, ↓wp_mOr, ↓wp_mNot, ↓wp_mTru, ↓wp_mIf, ↓wp_mAndV, ↓wp_mOrV, ↓wp_mNotV, ↓wp_aNil, ↓wp_aCons, ↓wp_qNil, ↓wp_qCons, ↓wp_mA, ↓wp_mTup, ↓wp_mLst, ↓wp_mIsi, ↓wp_mPart, ↓wp_mSlice, ↓wp_mRg1, ↓wp_mRg2, ↓wp_mRgL, ↓wp_iRg, ↓wp_iLst, ↓wp_mApp, ↓wp_mSeq, ↓wp_mExpr, ↓wp_mRet, ↓wp_mSet, ↓wp_mAsg, ↓wp_mgName, ↓wp_mgNil, ↓wp_mgCons, ↓wp_mgTup, ↓wp_mgSub, ↓wp_mAug, ↓wp_mAugS, ↓wx_mFor, ↓wx_mLc, ↓wx_mCall, ↓wp_mFn, ↓wx_mCallL, tab1_self, ↓wp_mAlloc, ↓wp_mNew, ↓wp_mDGet, ↓wp_mDIn, ↓wp_mDPut, ↓wp_mListK, ↓wp_mPopAt, ↓wp_mScIx, ↓wp_mScLen, ↓wp_mScSlice, Op.get, rs, RV.toD, stV, setW, gets, f1, fII, fAdd, fSub, fMul, fDiv, fMod, fLt, fLe, fGt, fGe, fNeg, asB, truD, isN, fIsN, fNotN, lenD, absD, PD.intD, max2_eq, min2_eq, min3D, listD, tupleD, ixD, isiD, PD.listAt, putAtL, Option.map_some, List.getElem?_cons_zero, List.getElem?_cons_succ, List.set_cons_zero, List.set_cons_succ, List.map_cons, List.map_nil, List.replicate_succ, List.replicate_zero, List.cons_append, List.nil_append, List.append_nil, List.length_cons, List.length_nil, List.length_map, if_true, if_false, Bool.not_true, Bool.not_false, Bool.false_eq_true, decide_true, decide_false, decide_eq_true_eq, and_true, true_and, and_self, reduceIte, Nat.reduceAdd, Nat.reduceSub, Nat.reduceLeDiff, Nat.reduceLT, Nat.reduceEqDiff, Int.reduceLT, Int.reduceLE, Option.isSome_some, Option.isSome_none, Bool.not_eq_true', Bool.if_true_left, fEq_int, sumD_map, zz]
        refine Go.mk ?_
        refine @wpl_x { e : List SV // wipeE e [7] = [SV.d (.o j), SV.d (.int (1 + v)), SV.d (.int 3), SV.d (.int same), SV.d (.int (1 + v3)), SV.d (DI N), x6, SV.un] } _ _ _ _ _ _ (fun _ => (List.replicate N.length (1 : Int)).map D.int) (fun z => ⟨z.1, sto.set j y⟩) ?_ ?_
        · refine wp_lcE (E0 := [SV.d (.o j), SV.d (.int (1 + v)), SV.d (.int 3), SV.d (.int same), SV.d (.int (1 + v3)), SV.d (DI N), x6, SV.un]) (st := sto.set j y) (fun _ => true) (fun _ => .int 1) rfl rfl (by rw [List.length_nil, List.length_map]; omega) (fun d hd => ?_) fun w2 h1 h2 => ?_
          · simp only [↓wp_bnd, ↓wp_pure, ↓wp_mVar, ↓wp_oVar, ↓wp_oE, ↓wp_mFrz, ↓wp_mRV, ↓wp_m1, ↓wp_m2, ↓wp_mB, ↓wp_mChain, ↓wp_mAnd, ↓wp_mOr, ↓wp_mNot, ↓wp_mTru, ↓wp_mIf, ↓wp_mAndV, ↓wp_mOrV, ↓wp_mNotV, ↓wp_aNil, ↓wp_aCons, ↓wp_qNil, ↓wp_qCons, ↓wp_mA, ↓wp_mTup, ↓wp_mLst, ↓wp_mIsi, ↓wp_mPart, ↓wp_mSlice, ↓wp_mRg1, ↓wp_mRg2, ↓wp_mRgL, ↓wp_iRg, ↓wp_iLst, ↓wp_mApp, ↓wp_mSeq, ↓wp_mExpr, ↓wp_mRet, ↓wp_mSet, ↓wp_mAsg, ↓wp_mgName, ↓wp_mgNil, ↓wp_mgCons, ↓wp_mgTup, ↓wp_mgSub, ↓wp_mAug, ↓wp_mAugS, ↓wx_mFor, ↓wx_mLc, ↓wx_mCall, ↓wp_mFn, ↓wx_mCallL, tab1_self, ↓wp_mAlloc, ↓wp_mNew, ↓wp_mDGet, ↓wp_mDIn, ↓wp_mDPut, ↓wp_mListK, ↓wp_mPopAt, ↓wp_mScIx, ↓wp_mScLen, ↓wp_mScSlice, Op.get, rs, RV.toD, stV, setW, gets, f1, fII, fAdd, fSub, fMul, fDiv, fMod, fLt, fLe, fGt, fGe, fNeg, asB, truD, isN, fIsN, fNotN, lenD, absD, PD.intD, max2_eq, min2_eq, min3D, listD, tupleD, ixD, isiD, PD.listAt, putAtL, Option.map_some, List.getElem?_cons_zero, List.getElem?_cons_succ, List.set_cons_zero, List.set_cons_succ, List.map_cons, List.map_nil, List.replicate_succ, List.replicate_zero, List.cons_append, List.nil_append, List.append_nil, List.length_cons, List.length_nil, List.length_map, if_true, if_false, Bool.not_true, Bool.not_false, Bool.false_eq_true, decide_true, decide_false, decide_eq_true_eq, and_true, true_and, and_self, reduceIte, Nat.reduceAdd, Nat.reduceSub, Nat.reduceLeDiff, Nat.reduceLT, Nat.reduceEqDiff, Int.reduceLT, Int.reduceLE, Option.isSome_some, Option.isSome_none, Bool.not_eq_true', Bool.if_true_left]
            rfl
          · refine ⟨⟨w2.env, h1⟩, ?_, by rw [← h2]⟩
            rw [List.nil_append, List.filter_eq_self.mpr (fun _ _ => rfl), List.map_map, List.map_replicate]
            exact List.map_const' ..
        · rintro ⟨e9, he9⟩
          have hb : backE [SV.d (.o j), SV.d (.int (1 + v)), SV.d (.int 3), SV.d (.int same), SV.d (.int (1 + v3)), SV.d (DI N), x6, SV.un] e9 [7] = [SV.d (.o j), SV.d (.int (1 + v)), SV.d (.int 3), SV.d (.int same), SV.d (.int (1 + v3)), SV.d (DI N), x6, SV.un] := he9
          simp only [↓wp_bnd, ↓wp_pure, ↓wp_mVar, ↓wp_oVar, ↓wp_oE, ↓wp_mFrz, ↓wp_mRV, ↓wp_m1, ↓wp_m2, ↓wp_mB, ↓wp_mChain, ↓wp_mAnd, ↓wp_mOr, ↓wp_mNot, ↓wp_mTru, ↓wp_mIf, ↓wp_mAndV, ↓wp_mOrV, ↓wp_mNotV, ↓wp_aNil, ↓wp_aCons, ↓wp_qNil, ↓wp_qCons, ↓wp_mA, ↓wp_mTup, ↓wp_mLst, ↓wp_mIsi, ↓wp_mPart, ↓wp_mSlice, ↓wp_mRg1, ↓wp_mRg2, ↓wp_mRgL, ↓wp_iRg, ↓wp_iLst, ↓wp_mApp, ↓wp_mSeq, ↓wp_mExpr, ↓wp_mRet, ↓wp_mSet, ↓wp_mAsg, ↓wp_mgName, ↓wp_mgNil, ↓wp_mgCons, ↓wp_mgTup, ↓wp_mgSub, ↓wp_mAug, ↓wp_mAugS, ↓wx_mFor, ↓wx_mLc, ↓wx_mCall, ↓wp_mFn, ↓wx_mCallL, tab1_self, ↓wp_mAlloc, ↓wp_mNew, ↓wp_mDGet, ↓wp_mDIn, ↓wp_mDPut, ↓wp_mListK, ↓wp_mPopAt, ↓wp_mScIx, ↓wp_mScLen, ↓wp_mScSlice, Op.get, rs, RV.toD, stV, setW, gets, f1, fII, fAdd, fSub, fMul, fDiv, fMod, fLt, fLe, fGt, fGe, fNeg, asB, truD, isN, fIsN, fNotN, lenD, absD, PD.intD, max2_eq, min2_eq, min3D, listD, tupleD, ixD, isiD, PD.listAt, putAtL, Option.map_some, List.getElem?_cons_zero, List.getElem?_cons_succ, List.set_cons_zero, List.set_cons_succ, List.map_cons, List.map_nil, List.replicate_succ, List.replicate_zero, List.cons_append, List.nil_append, List.append_nil, List.length_cons, List.length_nil, List.length_map, if_true, if_false, Bool.not_true, Bool.not_false, Bool.false_eq_true, decide_true, decide_false, decide_eq_true_eq, and_true, true_and, and_self, reduceIte, Nat.reduceAdd, Nat.reduceSub, Nat.reduceLeDiff, Nat.reduceLT, Nat.reduceEqDiff, Int.reduceLT, Int.reduceLE, Option.isSome_some, Option.isSome_none, Bool.not_eq_true', Bool.if_true_left, hb]
          have hs1 : (List.replicate N.length (1 : Int)).sum = N.length := by simp
          exact ⟨⟨⟨(List.replicate N.length 1, y), ⟨fun x hx => by rw [List.eq_of_mem_replicate hx]; omega, by rw [List.length_replicate]; omega, by rw [hs1]; omega⟩, by rw [List.length_replicate]; omega, hy⟩, rfl, rfl⟩⟩
      · simp only [↓wp_bnd, ↓wp_pure, ↓wp_mVar, ↓wp_oVar, ↓wp_oE, ↓wp_mFrz, ↓wp_mRV, ↓wp_m1, ↓wp_m2, ↓wp_mB, ↓wp_mChain, ↓wp_mAnd, ↓wp_mOr, ↓wp_mNot, ↓wp_mTru, ↓wp_mIf, ↓wp_mAndV, ↓wp_mOrV, ↓wp_mNotV, ↓wp_aNil, ↓wp_aCons, ↓wp_qNil, ↓wp_qCons, ↓wp_mA, ↓wp_mTup, ↓wp_mLst, ↓wp_mIsi, ↓wp_mPart, ↓wp_mSlice, ↓wp_mRg1, ↓wp_mRg2, ↓wp_mRgL, ↓wp_iRg, ↓wp_iLst, ↓wp_mApp, ↓wp_mSeq, ↓wp_mExpr, ↓wp_mRet, ↓wp_mSet, ↓wp_mAsg, ↓wp_mgName, ↓wp_mgNil, ↓wp_mgCons, ↓wp_mgTup, ↓wp_mgSub, ↓wp_mAug, ↓wp_mAugS, ↓wx_mFor, ↓wx_mLc, ↓wx_mCall, ↓wp_mFn, ↓wx_mCallL, tab1_self, ↓wp_mAlloc, ↓wp_mNew, ↓wp_mDGet, ↓wp_mDIn, ↓wp_mDPut, ↓wp_mListK, ↓wp_mPopAt, ↓wp_mScIx, ↓wp_mScLen, ↓wp_mScSlice, Op.get, rs, RV.toD, stV, setW, gets, f1, fII, fAdd, fSub, fMul, fDiv, fMod, fLt, fLe, fGt, fGe, fNeg, asB, truD, isN, fIsN, fNotN, lenD, absD, PD.intD, max2_eq, min2_eq, min3D, listD, tupleD, ixD, isiD, PD.listAt, putAtL, Option.map_some, List.getElem?_cons_zero, List.getElem?_cons_succ, List.set_cons_zero, List.set_cons_succ, List.map_cons, List.map_nil, List.replicate_succ, List.replicate_zero, List.cons_append, List.nil_append, List.append_nil, List.length_cons, List.length_nil, List.length_map, if_true, if_false, Bool.not_true, Bool.not_false, Bool.false_eq_true, decide_true, decide_false, decide_eq_true_eq, and_true, true_and, and_self, reduceIte, Nat.reduceAdd, Nat.reduceSub, Nat.reduceLeDiff, Nat.reduceLT, Nat.reduceEqDiff, Int.reduceLT, Int.reduceLE, Option.isSome_some, Option.isSome_none, Bool.not_eq_true', Bool.if_true_left, fEq_int, sumD_map, zz]
        have hs := sum_nn fun x hx => (hN' x hx).1
        exact ⟨⟨⟨(N, y), ⟨hN', by show N.length ≤ 6; omega, by show 1 ≤ N.sum; omega⟩, by show N.length ≤ 4; omega, hy⟩, rfl, rfl⟩⟩
  · simp only [↓wp_bnd, ↓wp_pure, ↓wp_mVar, ↓wp_oVar, ↓wp_oE, ↓wp_mFrz, ↓wp_mRV, ↓wp_m1, ↓wp_m2, ↓wp_mB, ↓wp_mChain, ↓wp_mAnd, ↓wp_mOr, ↓wp_mNot, ↓wp_mTru, ↓wp_mIf, ↓wp_mAndV, ↓wp_mOrV, ↓wp_mNotV, ↓wp_aNil, ↓wp_aCons, ↓wp_qNil, ↓wp_qCons, ↓wp_mA, ↓wp_mTup, ↓wp_mLst, ↓wp_mIsi, ↓wp_mPart, ↓wp_mSlice, ↓wp_mRg1, ↓wp_mRg2, ↓wp_mRgL, ↓wp_iRg, ↓wp_iLst, ↓wp_mApp, ↓wp_mSeq, ↓wp_mExpr, ↓wp_mRet, ↓wp_mSet, ↓wp_mAsg, ↓wp_mgName, ↓wp_mgNil, ↓wp_mgCons, ↓wp_mgTup, ↓wp_mgSub, ↓wp_mAug, ↓wp_mAugS, ↓wx_mFor, ↓wx_mLc, ↓wx_mCall, ↓wp_mFn, ↓wx_mCallL, tab1_self, ↓wp_mAlloc, ↓wp_mNew, ↓wp_mDGet, ↓wp_mDIn, ↓wp_mDPut, ↓wp_mListK, ↓wp_mPopAt, ↓wp_mScIx, ↓wp_mScLen, ↓wp_mScSlice, Op.get, rs, RV.toD, stV, setW, gets, f1, fII, fAdd, fSub, fMul, fDiv, fMod, fLt, fLe, fGt, fGe, fNeg, asB, truD, isN, fIsN, fNotN, lenD, absD, PD.intD, max2_eq, min2_eq, min3D, listD, tupleD, ixD, isiD, PD.listAt, putAtL, Option.map_some, List.getElem?_cons_zero, List.getElem?_cons_succ, List.set_cons_zero, List.set_cons_succ, List.map_cons, List.map_nil, List.replicate_succ, List.replicate_zero, List.cons_append, List.nil_append, List.append_nil, List.length_cons, List.length_nil, List.length_map, if_true, if_false, Bool.not_true, Bool.not_false, Bool.false_eq_true, decide_true, decide_false, decide_eq_true_eq, and_true, true_and, and_self, reduceIte, Nat.reduceAdd, Nat.reduceSub, Nat.reduceLeDiff, Nat.reduceLT, Nat.reduceEqDiff, Int.reduceLT, Int.reduceLE, Option.isSome_some, Option.isSome_none, Bool.not_eq_true', Bool.if_true_left, z]
    refine Go.mk (@wpc_x _ (DrI (sto.set j y1) j 3) _ _ _ (fun z => .int z.1.1) (fun z => ⟨[], (sto.set j y1).set j z.1.2⟩) (wp_drawI hy1 (by omega) (by omega)) ?_)
    rintro ⟨⟨same, y2⟩, hy2, s0, s1⟩
    simp only [↓wp_bnd, ↓wp_pure, ↓wp_mVar, ↓wp_oVar, ↓wp_oE, ↓wp_mFrz, ↓wp_mRV, ↓wp_m1, ↓wp_m2, ↓wp_mB, ↓wp_mChain, ↓wp_mAnd, ↓wp_mOr, ↓wp_mNot, ↓wp_mTru, ↓wp_mIf, ↓wp_mAndV, ↓wp_mOrV, ↓wp_mNotV, ↓wp_aNil, ↓wp_aCons, ↓wp_qNil, ↓wp_qCons, ↓wp_mA, ↓wp_mTup, ↓wp_mLst, ↓wp_mIsi, ↓wp_mPart, ↓wp_mSlice, ↓wp_mRg1, ↓wp_mRg2, ↓wp_mRgL, ↓wp_iRg, ↓wp_iLst, ↓wp_mApp, ↓wp_mSeq, ↓wp_mExpr, ↓wp_mRet, ↓wp_mSet, ↓wp_mAsg, ↓wp_mgName, ↓wp_mgNil, ↓wp_mgCons, ↓wp_mgTup, ↓wp_mgSub, ↓wp_mAug, ↓wp_mAugS, ↓wx_mFor, ↓wx_mLc, ↓wx_mCall, ↓wp_mFn, ↓wx_mCallL, tab1_self, ↓wp_mAlloc, ↓wp_mNew, ↓wp_mDGet, ↓wp_mDIn, ↓wp_mDPut, ↓wp_mListK, ↓wp_mPopAt, ↓wp_mScIx, ↓wp_mScLen, ↓wp_mScSlice, Op.get, rs, RV.toD, stV, setW, gets, f1, fII, fAdd, fSub, fMul, fDiv, fMod, fLt, fLe, fGt, fGe, fNeg, asB, truD, isN, fIsN, fNotN, lenD, absD, PD.intD, max2_eq, min2_eq, min3D, listD, tupleD, ixD, isiD, PD.listAt, putAtL, Option.map_some, List.getElem?_cons_zero, List.getElem?_cons_succ, List.set_cons_zero, List.set_cons_succ, List.map_cons, List.map_nil, List.replicate_succ, List.replicate_zero, List.cons_append, List.nil_append, List.append_nil, List.length_cons, List.length_nil, List.length_map, if_true, if_false, Bool.not_true, Bool.not_false, Bool.false_eq_true, decide_true, decide_false, decide_eq_true_eq, and_true, true_and, and_self, reduceIte, Nat.reduceAdd, Nat.reduceSub, Nat.reduceLeDiff, Nat.reduceLT, Nat.reduceEqDiff, Int.reduceLT, Int.reduceLE, Option.isSome_some, Option.isSome_none, Bool.not_eq_true', Bool.if_true_left, List.set_set]
    have hy2' := pu_put hy1 _ hy2
    refine Go.mk (@wpc_x _ (DrI (sto.set j y2) j 2) _ _ _ (fun z => .int z.1.1) (fun z => ⟨[], (sto.set j y2).set j z.1.2⟩) (wp_drawI hy2' (by omega) (by omega)) ?_)
    rintro ⟨⟨v3, y3⟩, hy3, u0, u1⟩
    have hy3' := pu_put hy2' _ hy3
    simp only [↓wp_bnd, ↓wp_pure, ↓wp_mVar, ↓wp_oVar, ↓wp_oE, ↓wp_mFrz, ↓wp_mRV, ↓wp_m1, ↓wp_m2, ↓wp_mB, ↓wp_mChain, ↓wp_mAnd, ↓wp_mOr, ↓wp_mNot, ↓wp_mTru, ↓wp_mIf, ↓wp_mAndV, ↓wp_mOrV, ↓wp_mNotV, ↓wp_aNil, ↓wp_aCons, ↓wp_qNil, ↓wp_qCons, ↓wp_mA, ↓wp_mTup, ↓wp_mLst, ↓wp_mIsi, ↓wp_mPart, ↓wp_mSlice, ↓wp_mRg1, ↓wp_mRg2, ↓wp_mRgL, ↓wp_iRg, ↓wp_iLst, ↓wp_mApp, ↓wp_mSeq, ↓wp_mExpr, ↓wp_mRet, ↓wp_mSet, ↓wp_mAsg, ↓wp_mgName, ↓wp_mgNil, ↓wp_mgCons, ↓wp_mgTup, ↓wp_mgSub, ↓wp_mAug, ↓wp_mAugS, ↓wx_mFor, ↓wx_mLc, ↓wx_mCall, ↓wp_mFn, ↓wx_mCallL, tab1_self, ↓wp_mAlloc, ↓wp_mNew, ↓wp_mDGet, ↓wp_mDIn, ↓wp_mDPut, ↓wp_mListK, ↓wp_mPopAt, ↓wp_mScIx, ↓wp_mScLen, ↓wp_mScSlice, Op.get, rs, RV.toD, stV, setW, gets, f1, fII, fAdd, fSub, fMul, fDiv, fMod, fLt, fLe, fGt, fGe, fNeg, asB, truD, isN, fIsN, fNotN, lenD, absD, PD.intD, max2_eq, min2_eq, min3D, listD, tupleD, ixD, isiD, PD.listAt, putAtL, Option.map_some, List.getElem?_cons_zero, List.getElem?_cons_succ, List.set_cons_zero, List.set_cons_succ, List.map_cons, List.map_nil, List.replicate_succ, List.replicate_zero, List.cons_append, List.nil_append, List.append_nil, List.length_cons, List.length_nil, List.length_map, if_true, if_false, Bool.not_true, Bool.not_false, Bool.false_eq_true, decide_true, decide_false, decide_eq_true_eq, and_true, true_and, and_self, reduceIte, Nat.reduceAdd, Nat.reduceSub, Nat.reduceLeDiff, Nat.reduceLT, Nat.reduceEqDiff, Int.reduceLT, Int.reduceLE, Option.isSome_some, Option.isSome_none, Bool.not_eq_true', Bool.if_true_left, List.set_set]
    refine Go.mk ⟨rg2_ok (by omega) (by omega) (by omega) (by omega), ?_⟩
    refine @wpf_x { z : List Int × O × SV // (∀ x ∈ z.1, 0 ≤ x ∧ x ≤ 3) ∧ z.1.length = (1 + v).toNat ∧ Pu (sto.set j z.2.1) j } _ _ _ _ (fun _ => .nx) (fun z => ⟨[SV.d (.o j), SV.d (.int (1 + v)), SV.d (.int 2), SV.d (.int same), SV.d (.int (1 + v3)), SV.own (z.1.1.map D.int), z.1.2.2, SV.un], sto.set j z.1.2.1⟩) ?_ ?_
    · refine wp_for (fun i w => ∃ (N : List Int) (x6 : SV) (y : O), (∀ x ∈ N, 0 ≤ x ∧ x ≤ 3) ∧ N.length = i ∧ Pu (sto.set j y) j ∧ w = ⟨[SV.d (.o j), SV.d (.int (1 + v)), SV.d (.int 2), SV.d (.int same), SV.d (.int (1 + v3)), SV.own (N.map D.int), x6, SV.un], sto.set j y⟩) ?_ ?_ ?_
      · exact ⟨[], SV.un, y3, (fun x h => by cases h), rfl, hy3', rfl⟩
      · rintro i d w hd ⟨N, x6, y, hN, hl, hy, rfl⟩
        obtain ⟨k, hk, rfl, k1, k2⟩ := rgD_at hd
        have hi := (List.getElem?_eq_some_iff.mp hk).1
        rw [rng_length] at hi
        by_cases zs : same = 0
        · simp only [↓wp_bnd, ↓wp_pure, ↓wp_mVar, ↓wp_oVar, ↓wp_oE, ↓wp_mFrz, ↓wp_mRV, ↓wp_m1, ↓wp_m2, ↓wp_mB, ↓wp_mChain, ↓wp_mAnd, ↓wp_mOr, ↓wp_mNot, ↓wp_mTru, ↓wp_mIf, ↓wp_mAndV, ↓wp_mOrV, ↓wp_mNotV, ↓wp_aNil, ↓wp_aCons, ↓wp_qNil, ↓wp_qCons, ↓wp_mA, ↓wp_mTup, ↓wp_mLst, ↓wp_mIsi, ↓wp_mPart, ↓wp_mSlice, ↓wp_mRg1, ↓wp_mRg2, ↓wp_mRgL, ↓wp_iRg, ↓wp_iLst, ↓wp_mApp, ↓wp_mSeq, ↓wp_mExpr, ↓wp_mRet, ↓wp_mSet, ↓wp_mAsg, ↓wp_mgName, ↓wp_mgNil, ↓wp_mgCons, ↓wp_mgTup, ↓wp_mgSub, ↓wp_mAug, ↓wp_mAugS, ↓wx_mFor, ↓wx_mLc, ↓wx_mCall, ↓wp_mFn, ↓wx_mCallL, tab1_self, ↓wp_mAlloc, ↓wp_mNew, ↓wp_mDGet, ↓wp_mDIn, ↓wp_mDPut, ↓wp_mListK, ↓wp_mPopAt, ↓wp_mScIx, ↓wp_mScLen, ↓wp_mScSlice, Op.get, rs, RV.toD, stV, setW, gets, f1, fII, fAdd, fSub, fMul, fDiv, fMod, fLt, fLe, fGt, fGe, fNeg, asB, truD, isN, fIsN, fNotN, lenD, absD, PD.intD, max2_eq, min2_eq, min3D, listD, tupleD, ixD, isiD, PD.listAt, putAtL, Option.map_some, List.getElem?_cons_zero, List.getElem?_cons_succ, List.set_cons_zero, List.set_cons_succ, List.map_cons, List.map_nil, List.replicate_succ, List.replicate_zero, List.cons_append, List.nil_append, List.append_nil, List.length_cons, List.length_nil, List.length_map, if_true, if_false, Bool.not_true, Bool.not_false, Bool.false_eq_true, decide_true, decide_false, decide_eq_true_eq, and_true, true_and, and_self, reduceIte, Nat.reduceAdd, Nat.reduceSub, Nat.reduceLeDiff, Nat.reduceLT, Nat.reduceEqDiff, Int.reduceLT, Int.reduceLE, Option.isSome_some, Option.isSome_none, Bool.not_eq_true', Bool.if_true_left, fEq_int, zs]
          refine ⟨by omega, N ++ [1 + v3], SV.d (.int k), y, fun x hx => ?_, by rw [List.length_append, hl]; rfl, hy, ?_⟩
          · rcases List.mem_append.mp hx with h | h
            · exact hN x h
            · rw [List.mem_singleton.mp h]; omega
          · rw [List.map_append]; rfl
        · simp only [↓wp_bnd, ↓wp_pure, ↓wp_mVar, ↓wp_oVar, ↓wp_oE, ↓wp_mFrz, ↓wp_mRV, ↓wp_m1, ↓wp_m2, ↓wp_mB, ↓wp_mChain, ↓wp_mAnd, ↓wp_mOr, ↓wp_mNot, ↓wp_mTru, ↓wp_mIf, ↓wp_mAndV, ↓wp_mOrV, ↓wp_mNotV, ↓wp_aNil, ↓wp_aCons, ↓wp_qNil, ↓wp_qCons, ↓wp_mA, ↓wp_mTup, ↓wp_mLst, ↓wp_mIsi, ↓wp_mPart, ↓wp_mSlice, ↓wp_mRg1, ↓wp_mRg2, ↓wp_mRgL, ↓wp_iRg, ↓wp_iLst, ↓wp_mApp, ↓wp_mSeq, ↓wp_mExpr, ↓wp_mRet, ↓wp_mSet, ↓wp_mAsg, ↓wp_mgName, ↓wp_mgNil, ↓wp_mgCons, ↓wp_mgTup, ↓wp_mgSub, ↓wp_mAug, ↓wp_mAugS, ↓wx_mFor, ↓wx_mLc, ↓wx_mCall, ↓wp_mFn, ↓wx_mCallL, tab1_self, ↓wp_mAlloc, ↓wp_mNew, ↓wp_mDGet, ↓wp_mDIn, ↓wp_mDPut, ↓wp_mListK, ↓wp_mPopAt, ↓wp_mScIx, ↓wp_mScLen, ↓wp_mScSlice, Op.get, rs, RV.toD, stV, setW, gets, f1, fII, fAdd, fSub, fMul, fDiv, fMod, fLt, fLe, fGt, fGe, fNeg, asB, truD, isN, fIsN, fNotN, lenD, absD, PD.intD, max2_eq, min2_eq, min3D, listD, tupleD, ixD, isiD, PD.listAt, putAtL, Option.map_some, List.getElem?_cons_zero, List.getElem?_cons_succ, List.set_cons_zero, List.set_cons_succ, List.map_cons, List.map_nil, List.replicate_succ, List.replicate_zero, List.cons_append, List.nil_append, List.append_nil, List.length_cons, List.length_nil, List.length_map, if_true, if_false, Bool.not_true, Bool.not_false, Bool.false_eq_true, decide_true, decide_false, decide_eq_true_eq, and_true, true_and, and_self, reduceIte, Nat.reduceAdd, Nat.reduceSub, Nat.reduceLeDiff, Nat.reduceLT, Nat.reduceEqDiff, Int.reduceLT, Int.reduceLE, Option.isSome_some, Option.isSome_none, Bool.not_eq_true', Bool.if_true_left, fEq_int, zs]
          refine @wpc_x _ (DrI (sto.set j y) j (2 + 1)) _ _ _ (fun z => .int z.1.1) (fun z => ⟨[], (sto.set j y).set j z.1.2⟩) (wp_drawI hy (by omega) (by omega)) ?_
          rintro ⟨⟨v4, y4⟩, hy4, w0, w1⟩
          simp only [↓wp_bnd, ↓wp_pure, ↓wp_mVar, ↓wp_oVar, ↓wp_oE, ↓wp_mFrz, ↓wp_mRV, ↓wp_m1, ↓wp_m2, ↓wp_mB, ↓wp_mChain, ↓wp_mAnd, ↓wp_mOr, ↓wp_mNot, ↓wp_mTru, ↓wp_mIf, ↓wp_mAndV, ↓wp_mOrV, ↓wp_mNotV, ↓wp_aNil, ↓wp_aCons, ↓wp_qNil, ↓wp_qCons, ↓wp_mA, ↓wp_mTup, ↓wp_mLst, ↓wp_mIsi, ↓wp_mPart, ↓wp_mSlice, ↓wp_mRg1, ↓wp_mRg2, ↓wp_mRgL, ↓wp_iRg, ↓wp_iLst, ↓wp_mApp, ↓wp_mSeq, ↓wp_mExpr, ↓wp_mRet, ↓wp_mSet, ↓wp_mAsg, ↓wp_mgName, ↓wp_mgNil, ↓wp_mgCons, ↓wp_mgTup, ↓wp_mgSub, ↓wp_mAug, ↓wp_mAugS, ↓wx_mFor, ↓wx_mLc, ↓wx_mCall, ↓wp_mFn, ↓wx_mCallL, tab1_self, ↓wp_mAlloc, ↓wp_mNew, ↓wp_mDGet, ↓wp_mDIn, ↓wp_mDPut, ↓wp_mListK, ↓wp_mPopAt, ↓wp_mScIx, ↓wp_mScLen, ↓wp_mScSlice, Op.get, rs, RV.toD, stV, setW, gets, f1, fII, fAdd, fSub, fMul, fDiv, fMod, fLt, fLe, fGt, fGe, fNeg, asB, truD, isN, fIsN, fNotN, lenD, absD, PD.intD, max2_eq, min2_eq, min3D, listD, tupleD, ixD, isiD, PD.listAt, putAtL, Option.map_some, List.getElem?_cons_zero, List.getElem?_cons_succ, List.set_cons_zero, List.set_cons_succ, List.map_cons, List.map_nil, List.replicate_succ, List.replicate_zero, List.cons_append, List.nil_append, List.append_nil, List.length_cons, List.length_nil, List.length_map, if_true, if_false, Bool.not_true, Bool.not_false, Bool.false_eq_true, decide_true, decide_false, decide_eq_true_eq, and_true, true_and, and_self, reduceIte, Nat.reduceAdd, Nat.reduceSub, Nat.reduceLeDiff, Nat.reduceLT, Nat.reduceEqDiff, Int.reduceLT, Int.reduceLE, Option.isSome_some, Option.isSome_none, Bool.not_eq_true', Bool.if_true_left, List.set_set]
          refine Go.mk ⟨by omega, N ++ [v4], SV.d (.int k), y4, fun x hx => ?_, by rw [List.length_append, hl]; rfl, pu_put hy _ hy4, ?_⟩
          · rcases List.mem_append.mp hx with h | h
            · exact hN x h
            · rw [List.mem_singleton.mp h]; omega
          · rw [List.map_append]; rfl
      · rintro w ⟨N, x6, y, hN, hl, hy, rfl⟩
        refine ⟨⟨(N, y, x6), hN, ?_, hy⟩, rfl, rfl⟩
        rw [hl, rgD_rng, List.length_map, rng_length, Int.sub_zero]
    · rintro ⟨⟨N, y, x6⟩, hN, hl, hy⟩
      have hl' : N.length = (1 + v).toNat := hl
      have hN' : ∀ x ∈ N, 0 ≤ x ∧ x ≤ 3 := hN
      by_cases zz : N.sum = 0
      · simp only [↓wp_bnd, ↓wp_pure, ↓wp_mVar, ↓wp_oVar, ↓wp_oE, ↓wp_mFrz, ↓wp_mRV, ↓wp_m1, ↓wp_m2, ↓wp_mB, ↓wp_mChain, ↓wp_mAnd, ↓wp_mOr, ↓wp_mNot, ↓wp_mTru, ↓wp_mIf, ↓wp_mAndV, ↓wp_mOrV, ↓wp_mNotV, ↓wp_aNil, ↓wp_aCons, ↓wp_qNil, ↓wp_qCons, ↓wp_mA, ↓wp_mTup, ↓wp_mLst, ↓wp_mIsi, ↓wp_mPart, ↓wp_mSlice, ↓wp_mRg1, ↓wp_mRg2, ↓wp_mRgL, ↓wp_iRg, ↓wp_iLst, ↓wp_mApp, ↓wp_mSeq, ↓wp_mExpr, ↓wp_mRet, ↓wp_mSet, ↓wp_mAsg, ↓wp_mgName, ↓wp_mgNil, ↓wp_mgCons, ↓wp_mgTup, ↓wp_mgSub, ↓wp_mAug, ↓wp_mAugS, ↓wx_mFor, ↓wx_mLc, ↓wx_mCall, ↓wp_mFn, ↓wx_mCallL, tab1_self, ↓wp_mAlloc, ↓wp_mNew, ↓wp_mDGet, ↓wp_mDIn, ↓wp_mDPut, ↓wp_mListK, ↓wp_mPopAt, ↓wp_mScIx, ↓wp_mScLen, ↓wp_mScSlice, Op.get, rs, RV.toD, stV, setW, gets, f1, fII, fAdd, fSub, fMul, fDiv, fMod, fLt, fLe, fGt, fGe, fNeg, asB, truD, isN, fIsN, fNotN, lenD, absD, PD.intD, max2_eq, min2_eq, min3D, listD, tupleD, ixD, isiD, PD.listAt, putAtL, Option.map_some, List.getElem?_cons_zero, List.getElem?_cons_succ, List.set_cons_zero, List.set_cons_succ, List.map_cons, List.map_nil, List.replicate_succ, List.replicate_zero, List.cons_append, List.nil_append, List.append_nil, List.length_cons, List.length_nil, List.length_map, if_true, if_false, Bool.not_true, Bool.not_false, Bool.false_eq_true, decide_true, decide_false, decide_eq_true_eq, and_true, true_and, and_self, reduceIte, Nat.reduceAdd, Nat.reduceSub, Nat.reduceLeDiff, Nat.reduceLT, Nat.reduceEqDiff, Int.reduceLT, Int.reduceLE, Option.isSome_some, Option.isSome_none, Bool.not_eq_true', Bool.if_true_left, fEq_int, sumD_map, zz]
        refine Go.mk ?_
        refine @wpl_x { e : List SV // wipeE e [7] = [SV.d (.o j), SV.d (.int (1 + v)), SV.d (.int 2), SV.d (.int same), SV.d (.int (1 + v3)), SV.d (DI N), x6, SV.un] } _ _ _ _ _ _ (fun _ => (List.replicate N.length (1 : Int)).map D.int) (fun z => ⟨z.1, sto.set j y⟩) ?_ ?_
        · refine wp_lcE (E0 := [SV.d (.o j), SV.d (.int (1 + v)), SV.d (.int 2), SV.d (.int same), SV.d (.int (1 + v3)), SV.d (DI N), x6, SV.un]) (st := sto.set j y) (fun _ => true) (fun _ => .int 1) rfl rfl (by rw [List.length_nil, List.length_map]; omega) (fun d hd => ?_) fun w2 h1 h2 => ?_
          · simp only [↓wp_bnd, ↓wp_pure, ↓wp_mVar, ↓wp_oVar, ↓wp_oE, ↓wp_mFrz, ↓wp_mRV, ↓wp_m1, ↓wp_m2, ↓wp_mB, ↓wp_mChain, ↓wp_mAnd, ↓wp_mOr, ↓wp_mNot, ↓wp_mTru, ↓wp_mIf, ↓wp_mAndV, ↓wp_mOrV, ↓wp_mNotV, ↓wp_aNil, ↓wp_aCons, ↓wp_qNil, ↓wp_qCons, ↓wp_mA, ↓wp_mTup, ↓wp_mLst, ↓wp_mIsi, ↓wp_mPart, ↓wp_mSlice, ↓wp_mRg1, ↓wp_mRg2, ↓wp_mRgL, ↓wp_iRg, ↓wp_iLst, ↓wp_mApp, ↓wp_mSeq, ↓wp_mExpr, ↓wp_mRet, ↓wp_mSet, ↓wp_mAsg, ↓wp_mgName, ↓wp_mgNil, ↓wp_mgCons, ↓wp_mgTup, ↓wp_mgSub, ↓wp_mAug, ↓wp_mAugS, ↓wx_mFor, ↓wx_mLc, ↓wx_mCall, ↓wp_mFn, ↓wx_mCallL, tab1_self, ↓wp_mAlloc, ↓wp_mNew, ↓wp_mDGet, ↓wp_mDIn, ↓wp_mDPut, ↓wp_mListK, ↓wp_mPopAt, ↓wp_mScIx, ↓wp_mScLen, ↓wp_mScSlice, Op.get, rs, RV.toD, stV, setW, gets, f1, fII, fAdd, fSub, fMul, fDiv, fMod, fLt, fLe, fGt, fGe, fNeg, asB, truD, isN, fIsN, fNotN, lenD, absD, PD.intD, max2_eq, min2_eq, min3D, listD, tupleD, ixD, isiD, PD.listAt, putAtL, Option.map_some, List.getElem?_cons_zero, List.getElem?_cons_succ, List.set_cons_zero, List.set_cons_succ, List.map_cons, List.map_nil, List.replicate_succ, List.replicate_zero, List.cons_append, List.nil_append, List.append_nil, List.length_cons, List.length_nil, List.length_map, if_true, if_false, Bool.not_true, Bool.not_false, Bool.false_eq_true, decide_true, decide_false, decide_eq_true_eq, and_true, true_and, and_self, reduceIte, Nat.reduceAdd, Nat.reduceSub, Nat.reduceLeDiff, Nat.reduceLT, Nat.reduceEqDiff, Int.reduceLT, Int.reduceLE, Option.isSome_some, Option.isSome_none, Bool.not_eq_true', Bool.if_true_left]
            rfl
          · refine ⟨⟨w2.env, h1⟩, ?_, by rw [← h2]⟩
            rw [List.nil_append, List.filter_eq_self.mpr (fun _ _ => rfl), List.map_map, List.map_replicate]
            exact List.map_const' ..
        · rintro ⟨e9, he9⟩
          have hb : backE [SV.d (.o j), SV.d (.int (1 + v)), SV.d (.int 2), SV.d (.int same), SV.d (.int (1 + v3)), SV.d (DI N), x6, SV.un] e9 [7] = [SV.d (.o j), SV.d (.int (1 + v)), SV.d (.int 2), SV.d (.int same), SV.d (.int (1 + v3)), SV.d (DI N), x6, SV.un] := he9
          simp only [↓wp_bnd, ↓wp_pure, ↓wp_mVar, ↓wp_oVar, ↓wp_oE, ↓wp_mFrz, ↓wp_mRV, ↓wp_m1, ↓wp_m2, ↓wp_mB, ↓wp_mChain, ↓wp_mAnd, ↓wp_mOr, ↓wp_mNot, ↓wp_mTru, ↓wp_mIf, ↓wp_mAndV, ↓wp_mOrV, ↓wp_mNotV, ↓wp_aNil, ↓wp_aCons, ↓wp_qNil, ↓wp_qCons, ↓wp_mA, ↓wp_mTup, ↓wp_mLst, ↓wp_mIsi, ↓wp_mPart, ↓wp_mSlice, ↓wp_mRg1, ↓wp_mRg2, ↓wp_mRgL, ↓wp_iRg, ↓wp_iLst, ↓wp_mApp, ↓wp_mSeq, ↓wp_mExpr, ↓wp_mRet, ↓wp_mSet, ↓wp_mAsg, ↓wp_mgName, ↓wp_mgNil, ↓wp_mgCons, ↓wp_mgTup, ↓wp_mgSub, ↓wp_mAug, ↓wp_mAugS, ↓wx_mFor, ↓wx_mLc, ↓wx_mCall, ↓wp_mFn, ↓wx_mCallL, tab1_self, ↓wp_mAlloc, ↓wp_mNew, ↓wp_mDGet, ↓wp_mDIn, ↓wp_mDPut, ↓wp_mListK, ↓wp_mPopAt, ↓wp_mScIx, ↓wp_mScLen, ↓wp_mScSlice, Op.get, rs, RV.toD, stV, setW, gets, f1, fII, fAdd, fSub, fMul, fDiv, fMod, fLt, fLe, fGt, fGe, fNeg, asB, truD, isN, fIsN, fNotN, lenD, absD, PD.intD, max2_eq, min2_eq, min3D, listD, tupleD, ixD, isiD, PD.listAt, putAtL, Option.map_some, List.getElem?_cons_zero, List.getElem?_cons_succ, List.set_cons_zero, List.set_cons_succ, List.map_cons, List.map_nil, List.replicate_succ, List.replicate_zero, List.cons_append, List.nil_append, List.append_nil, List.length_cons, List.length_nil, List.length_map, if_true, if_false, Bool.not_true, Bool.not_false, Bool.false_eq_true, decide_true, decide_false, decide_eq_true_eq, and_true, true_and, and_self, reduceIte, Nat.reduceAdd, Nat.reduceSub, Nat.reduceLeDiff, Nat.reduceLT, Nat.reduceEqDiff, Int.reduceLT, Int.reduceLE, Option.isSome_some, Option.isSome_none, Bool.not_eq_true', Bool.if_true_left, hb]
          have hs1 : (List.replicate N.length (1 : Int)).sum = N.length := by simp
          exact ⟨⟨⟨(List.replicate N.length 1, y), ⟨fun x hx => by rw [List.eq_of_mem_replicate hx]; omega, by rw [List.length_replicate]; omega, by rw [hs1]; omega⟩, by rw [List.length_replicate]; omega, hy⟩, rfl, rfl⟩⟩
      · simp only [↓wp_bnd, ↓wp_pure, ↓wp_mVar, ↓wp_oVar, ↓wp_oE, ↓wp_mFrz, ↓wp_mRV, ↓wp_m1, ↓wp_m2, ↓wp_mB, ↓wp_mChain, ↓wp_mAnd, ↓wp_mOr, ↓wp_mNot, ↓wp_mTru, ↓wp_mIf, ↓wp_mAndV, ↓wp_mOrV, ↓wp_mNotV, ↓wp_aNil, ↓wp_aCons, ↓wp_qNil, ↓wp_qCons, ↓wp_mA, ↓wp_mTup, ↓wp_mLst, ↓wp_mIsi, ↓wp_mPart, ↓wp_mSlice, ↓wp_mRg1, ↓wp_mRg2, ↓wp_mRgL, ↓wp_iRg, ↓wp_iLst, ↓wp_mApp, ↓wp_mSeq, ↓wp_mExpr, ↓wp_mRet, ↓wp_mSet, ↓wp_mAsg, ↓wp_mgName, ↓wp_mgNil, ↓wp_mgCons, ↓wp_mgTup, ↓wp_mgSub, ↓wp_mAug, ↓wp_mAugS, ↓wx_mFor, ↓wx_mLc, ↓wx_mCall, ↓wp_mFn, ↓wx_mCallL, tab1_self, ↓wp_mAlloc, ↓wp_mNew, ↓wp_mDGet, ↓wp_mDIn, ↓wp_mDPut, ↓wp_mListK, ↓wp_mPopAt, ↓wp_mScIx, ↓wp_mScLen, ↓wp_mScSlice, Op.get, rs, RV.toD, stV, setW, gets, f1, fII, fAdd, fSub, fMul, fDiv, fMod, fLt, fLe, fGt, fGe, fNeg, asB, truD, isN, fIsN, fNotN, lenD, absD, PD.intD, max2_eq, min2_eq, min3D, listD, tupleD, ixD, isiD, PD.listAt, putAtL, Option.map_some, List.getElem?_cons_zero, List.getElem?_cons_succ, List.set_cons_zero, List.set_cons_succ, List.map_cons, List.map_nil, List.replicate_succ, List.replicate_zero, List.cons_append, List.nil_append, List.append_nil, List.length_cons, List.length_nil, List.length_map, if_true, if_false, Bool.not_true, Bool.not_false, Bool.false_eq_true, decide_true, decide_false, decide_eq_true_eq, and_true, true_and, and_self, reduceIte, Nat.reduceAdd, Nat.reduceSub, Nat.reduceLeDiff, Nat.reduceLT, Nat.reduceEqDiff, Int.reduceLT, Int.reduceLE, Option.isSome_some, Option.isSome_none, Bool.not_eq_true', Bool.if_true_left, fEq_int, sumD_map, zz]
        have hs := sum_nn fun x hx => (hN' x hx).1
        exact ⟨⟨⟨(N, y), ⟨hN', by show N.length ≤ 6; omega, by show 1 ≤ N.sum; omega⟩, by show N.length ≤ 4; omega, hy⟩, rfl, rfl⟩⟩
/-! all takings -/
structure Pt (p : List Int) (m : Int) (i : Nat) (t : List Int) : Prop where
  len : t.length = i
  bd : ∀ (k : Nat) (a b : Int), t[k]? = some a → p[k]? = some b → 0 ≤ a ∧ a ≤ b
  lo : 0 ≤ m - t.sum
  hi : m - t.sum ≤ (p.drop i).sum
theorem drop_sum {i : Nat} (hi : i < p.length) : (p.drop i).sum = p.getD i 0 + (p.drop (i + 1)).sum := by
  rw [List.drop_eq_getElem_cons hi, List.sum_cons, List.getD_eq_getElem?_getD, List.getElem?_eq_getElem hi]; rfl
theorem Pt.snoc {i : Nat} {t : List Int} {x : Int} (hi : i < p.length) : Pt p m (i + 1) (t ++ [x]) ↔ Pt p m i t ∧ imax 0 (m - t.sum - (p.drop (i + 1)).sum) ≤ x ∧ x < imin (m - t.sum) (p.getD i 0) + 1 := by
  have ds := drop_sum hi
  have pg : p[i]? = some (p.getD i 0) := by rw [List.getD_eq_getElem?_getD, List.getElem?_eq_getElem hi]; rfl
  have im : ∀ a : Int, imax 0 a ≤ x ↔ 0 ≤ x ∧ a ≤ x := fun a => by unfold imax; split <;> omega
  have in' : ∀ a b : Int, x < imin a b + 1 ↔ x ≤ a ∧ x ≤ b := fun a b => by unfold imin; split <;> omega
  rw [im, in']
  constructor
  · rintro ⟨h1, h2, h3, h4⟩
    rw [List.sum_append, List.sum_cons, List.sum_nil] at h3 h4
    have hl : t.length = i := by simpa using h1
    have hx := h2 i x (p.getD i 0) (by rw [List.getElem?_append_right (by omega), hl, Nat.sub_self]; rfl) pg
    exact ⟨⟨hl, fun k a b ha hb => h2 k a b (by rw [List.getElem?_append_left (List.getElem?_eq_some_iff.mp ha).1]; exact ha) hb, by omega, by omega⟩, ⟨hx.1, by omega⟩, by omega, hx.2⟩
  · rintro ⟨⟨h1, h2, h3, h4⟩, ⟨h5, h6⟩, h7, h8⟩
    refine ⟨by rw [List.length_append, h1]; rfl, fun k a b ha hb => ?_, by rw [List.sum_append, List.sum_cons, List.sum_nil]; omega, by rw [List.sum_append, List.sum_cons, List.sum_nil]; omega⟩
    by_cases hk : k < t.length
    · rw [List.getElem?_append_left hk] at ha
      exact h2 k a b ha hb
    · rw [List.getElem?_append_right (by omega)] at ha
      have hk' : k - t.length = 0 := by
        apply Classical.byContradiction
        intro z
        rw [List.getElem?_eq_none (by simp; omega)] at ha
        cases ha
      rw [hk'] at ha
      cases ha
      have : k = i := by omega
      rw [this, pg] at hb
      cases hb
      exact ⟨h5, h8⟩
theorem Pt.tk {t : List Int} : Pt p m p.length t ↔ Tk p m t := by
  constructor
  · rintro ⟨h1, h2, h3, h4⟩
    rw [List.drop_length, List.sum_nil] at h4
    exact ⟨h1, h2, by omega⟩
  · rintro ⟨h1, h2, h3⟩
    exact ⟨h1, h2, by omega, by rw [List.drop_length, List.sum_nil]; omega⟩
theorem wp_all (f : Few p) (hl4 : p.length ≤ 4) (r : Row p m) : wp (m_law_all_takings [DI p, .int m]) ⟨[], sto⟩ fun d w' => ∃ F : { F : List (List Int) // ∀ t, t ∈ F ↔ Tk p m t }, d = .lst (F.1.map DI) ∧ w' = ⟨[], sto⟩ := by
  have s := f.sm
  have hr0 := r.lo
  have hr1 := r.hi
  have hs60 := s.sum
  unfold m_law_all_takings
  simp only [↓wp_bnd, ↓wp_pure, ↓wp_mVar, ↓wp_oVar, ↓wp_oE, ↓wp_mFrz, ↓wp_mRV, ↓wp_m1, ↓wp_m2, ↓wp_mB, ↓wp_mChain, ↓wp_mAnd, ↓wp_mOr, ↓wp_mNot, ↓wp_mTru, ↓wp_mIf, ↓wp_mAndV, ↓wp_mOrV, ↓wp_mNotV, ↓wp_aNil, ↓wp_aCons, ↓wp_qNil, ↓wp_qCons, ↓wp_mA, ↓wp_mTup, ↓wp_mLst, ↓wp_mIsi, ↓wp_mPart, ↓wp_mSlice, ↓wp_mRg1, ↓wp_mRg2, ↓wp_mRgL, ↓wp_iRg, ↓wp_iLst, ↓wp_mApp, ↓wp_mSeq, ↓wp_mExpr, ↓wp_mRet, ↓wp_mSet, ↓wp_mAsg, ↓wp_mgName, ↓wp_mgNil, ↓wp_mgCons, ↓wp_mgTup, ↓wp_mgSub, ↓wp_mAug, ↓wp_mAugS, ↓wx_mFor, ↓wx_mLc, ↓wx_mCall, ↓wp_mFn, ↓wx_mCallL, tab1_self, ↓wp_mAlloc, ↓wp_mNew, ↓wp_mDGet, ↓wp_mDIn, ↓wp_mDPut, ↓wp_mListK, ↓wp_mPopAt, ↓wp_mScIx, ↓wp_mScLen, ↓wp_mScSlice, Op.get, rs, RV.toD, stV, setW, gets, f1, fII, fAdd, fSub, fMul, fDiv, fMod, fLt, fLe, fGt, fGe, fNeg, asB, truD, isN, fIsN, fNotN, lenD, absD, PD.intD, max2_eq, min2_eq, min3D, listD, tupleD, ixD, isiD, PD.listAt, putAtL, Option.map_some, List.getElem?_cons_zero, List.getElem?_cons_succ, List.set_cons_zero, List.set_cons_succ, List.map_cons, List.map_nil, List.replicate_succ, List.replicate_zero, List.cons_append, List.nil_append, List.append_nil, List.length_cons, List.length_nil, List.length_map, if_true, if_false, Bool.not_true, Bool.not_false, Bool.false_eq_true, decide_true, decide_false, decide_eq_true_eq, and_true, true_and, and_self, reduceIte, Nat.reduceAdd, Nat.reduceSub, Nat.reduceLeDiff, Nat.reduceLT, Nat.reduceEqDiff, Int.reduceLT, Int.reduceLE, Option.isSome_some, Option.isSome_none, Bool.not_eq_true', Bool.if_true_left]
  refine ⟨rg2_ok (by omega) (by omega) (by omega) (by omega), ?_⟩
  refine @wpf_x (SV × SV × SV × SV × SV × SV × { F : List (List Int) // ∀ t, t ∈ F ↔ Tk p m t }) _ _ _ _ (fun _ => .nx) (fun z => ⟨[SV.d (DI p), SV.d (.int m), SV.d (.lst (z.2.2.2.2.2.2.1.map DI)), z.1, z.2.1, z.2.2.1, z.2.2.2.1, z.2.2.2.2.1, z.2.2.2.2.2.1], sto⟩) ?_ ?_
  · refine wp_for (fun i w => ∃ (x3 x4 x5 x6 x7 x8 : SV) (F : List (List Int)), (∀ t, t ∈ F ↔ Pt p m i t) ∧ F.length ≤ 4 ^ i ∧ w = ⟨[SV.d (DI p), SV.d (.int m), SV.d (.lst (F.map DI)), x3, x4, x5, x6, x7, x8], sto⟩) ?_ ?_ ?_
    · refine ⟨SV.un, SV.un, SV.un, SV.un, SV.un, SV.un, [[]], fun t => ?_, by simp, rfl⟩
      rw [List.mem_singleton]
      constructor
      · rintro rfl
        exact ⟨rfl, fun k a b h => by simp at h, by simp; omega, by simp; omega⟩
      · intro h
        exact List.length_eq_zero_iff.mp h.len
    · rintro i d w hd ⟨x3, x4, x5, x6, x7, x8, F, hF, hFl, rfl⟩
      obtain ⟨k, hk, rfl, k1, k2⟩ := rgD_at hd
      have hi : i < p.length := by
        have := (List.getElem?_eq_some_iff.mp hk).1
        rw [rng_length] at this
        omega
      have ki : k = i := by
        unfold rng at hk
        rw [List.getElem?_map, List.getElem?_range (by omega)] at hk
        have : (0 : Int) + (i : Int) = k := Option.some.inj hk
        omega
      subst ki
      have pg0 : 0 ≤ p.getD i 0 ∧ p.getD i 0 ≤ 3 := by
        rw [List.getD_eq_getElem?_getD, List.getElem?_eq_getElem hi]
        exact f.nn _ (List.getElem_mem _)
      have i3 : i ≤ 3 := by omega
      have p256 : 4 ^ i ≤ 64 := Nat.le_trans (Nat.pow_le_pow_right (by omega) i3) (by decide)
      have dnn := sum_nn (ps := p.drop (i + 1)) fun x hx => s.nn x (List.mem_of_mem_drop hx)
      simp only [↓wp_bnd, ↓wp_pure, ↓wp_mVar, ↓wp_oVar, ↓wp_oE, ↓wp_mFrz, ↓wp_mRV, ↓wp_m1, ↓wp_m2, ↓wp_mB, ↓wp_mChain, ↓wp_mAnd, ↓wp_mOr, ↓wp_mNot, ↓wp_mTru, ↓wp_mIf, ↓wp_mAndV, ↓wp_mOrV, ↓wp_mNotV, ↓wp_aNil, ↓wp_aCons, ↓wp_qNil, ↓wp_qCons, ↓wp_mA, ↓wp_mTup, ↓wp_mLst, ↓wp_mIsi, ↓wp_mPart, ↓wp_mSlice, ↓wp_mRg1, ↓wp_mRg2, ↓wp_mRgL, ↓wp_iRg, ↓wp_iLst, ↓wp_mApp, ↓wp_mSeq, ↓wp_mExpr, ↓wp_mRet, ↓wp_mSet, ↓wp_mAsg, ↓wp_mgName, ↓wp_mgNil, ↓wp_mgCons, ↓wp_mgTup, ↓wp_mgSub, ↓wp_mAug, ↓wp_mAugS, ↓wx_mFor, ↓wx_mLc, ↓wx_mCall, ↓wp_mFn, ↓wx_mCallL, tab1_self, ↓wp_mAlloc, ↓wp_mNew, ↓wp_mDGet, ↓wp_mDIn, ↓wp_mDPut, ↓wp_mListK, ↓wp_mPopAt, ↓wp_mScIx, ↓wp_mScLen, ↓wp_mScSlice, Op.get, rs, RV.toD, stV, setW, gets, f1, fII, fAdd, fSub, fMul, fDiv, fMod, fLt, fLe, fGt, fGe, fNeg, asB, truD, isN, fIsN, fNotN, lenD, absD, PD.intD, max2_eq, min2_eq, min3D, listD, tupleD, ixD, isiD, PD.listAt, putAtL, Option.map_some, List.getElem?_cons_zero, List.getElem?_cons_succ, List.set_cons_zero, List.set_cons_succ, List.map_cons, List.map_nil, List.replicate_succ, List.replicate_zero, List.cons_append, List.nil_append, List.append_nil, List.length_cons, List.length_nil, List.length_map, if_true, if_false, Bool.not_true, Bool.not_false, Bool.false_eq_true, decide_true, decide_false, decide_eq_true_eq, and_true, true_and, and_self, reduceIte, Nat.reduceAdd, Nat.reduceSub, Nat.reduceLeDiff, Nat.reduceLT, Nat.reduceEqDiff, Int.reduceLT, Int.reduceLE, Option.isSome_some, Option.isSome_none, Bool.not_eq_true', Bool.if_true_left]
      refine @wpf_x (SV × SV × SV × SV × { G : List (List Int) // (∀ t, t ∈ G ↔ Pt p m (i + 1) t) ∧ G.length ≤ 4 ^ (i + 1) }) _ _ _ _ (fun _ => .nx) (fun z => ⟨[SV.d (DI p), SV.d (.int m), SV.d (.lst (F.map DI)), SV.d (.int i), SV.own (z.2.2.2.2.1.map DI), z.1, z.2.1, z.2.2.1, z.2.2.2.1], sto⟩) ?_ ?_
      · refine wp_for (fun n w => ∃ (x5 x6 x7 x8 : SV) (G : List (List Int)), (∀ t, t ∈ G ↔ ∃ one ∈ F.take n, ∃ x, t = one ++ [x] ∧ imax 0 (m - one.sum - (p.drop (i + 1)).sum) ≤ x ∧ x < imin (m - one.sum) (p.getD i 0) + 1) ∧ G.length ≤ 4 * n ∧ w = ⟨[SV.d (DI p), SV.d (.int m), SV.d (.lst (F.map DI)), SV.d (.int i), SV.own (G.map DI), x5, x6, x7, x8], sto⟩) ?_ ?_ ?_
        · exact ⟨x5, x6, x7, x8, [], fun t => by simp, by simp, rfl⟩
        · rintro n d w hd' ⟨x5, x6, x7, x8, G, hG, hGl, rfl⟩
          rw [List.getElem?_map] at hd'
          cases ho : F[n]? with
          | none => rw [ho] at hd'; cases hd'
          | some one =>
            rw [ho] at hd'
            cases hd'
            have hn : n < F.length := (List.getElem?_eq_some_iff.mp ho).1
            have po := (hF one).mp (List.mem_of_getElem? ho)
            have hlo := po.lo
            have hhi := po.hi
            have hdd := drop_sum hi
            have b1 : 0 ≤ imax 0 (m - one.sum - (p.drop (i + 1)).sum) ∧ imax 0 (m - one.sum - (p.drop (i + 1)).sum) ≤ 60 := by unfold imax; split <;> omega
            have b2 : 0 ≤ imin (m - one.sum) (p.getD i 0) ∧ imin (m - one.sum) (p.getD i 0) ≤ 3 := by unfold imin; split <;> omega
            have hol := po.len
            simp only [↓wp_bnd, ↓wp_pure, ↓wp_mVar, ↓wp_oVar, ↓wp_oE, ↓wp_mFrz, ↓wp_mRV, ↓wp_m1, ↓wp_m2, ↓wp_mB, ↓wp_mChain, ↓wp_mAnd, ↓wp_mOr, ↓wp_mNot, ↓wp_mTru, ↓wp_mIf, ↓wp_mAndV, ↓wp_mOrV, ↓wp_mNotV, ↓wp_aNil, ↓wp_aCons, ↓wp_qNil, ↓wp_qCons, ↓wp_mA, ↓wp_mTup, ↓wp_mLst, ↓wp_mIsi, ↓wp_mPart, ↓wp_mSlice, ↓wp_mRg1, ↓wp_mRg2, ↓wp_mRgL, ↓wp_iRg, ↓wp_iLst, ↓wp_mApp, ↓wp_mSeq, ↓wp_mExpr, ↓wp_mRet, ↓wp_mSet, ↓wp_mAsg, ↓wp_mgName, ↓wp_mgNil, ↓wp_mgCons, ↓wp_mgTup, ↓wp_mgSub, ↓wp_mAug, ↓wp_mAugS, ↓wx_mFor, ↓wx_mLc, ↓wx_mCall, ↓wp_mFn, ↓wx_mCallL, tab1_self, ↓wp_mAlloc, ↓wp_mNew, ↓wp_mDGet, ↓wp_mDIn, ↓wp_mDPut, ↓wp_mListK, ↓wp_mPopAt, ↓wp_mScIx, ↓wp_mScLen, ↓wp_mScSlice, Op.get, rs, RV.toD, stV, setW, gets, f1, fII, fAdd, fSub, fMul, fDiv, fMod, fLt, fLe, fGt, fGe, fNeg, asB, truD, isN, fIsN, fNotN, lenD, absD, PD.intD, max2_eq, min2_eq, min3D, listD, tupleD, ixD, isiD, PD.listAt, putAtL, Option.map_some, List.getElem?_cons_zero, List.getElem?_cons_succ, List.set_cons_zero, List.set_cons_succ, List.map_cons, List.map_nil, List.replicate_succ, List.replicate_zero, List.cons_append, List.nil_append, List.append_nil, List.length_cons, List.length_nil, List.length_map, if_true, if_false, Bool.not_true, Bool.not_false, Bool.false_eq_true, decide_true, decide_false, decide_eq_true_eq, and_true, true_and, and_self, reduceIte, Nat.reduceAdd, Nat.reduceSub, Nat.reduceLeDiff, Nat.reduceLT, Nat.reduceEqDiff, Int.reduceLT, Int.reduceLE, Option.isSome_some, Option.isSome_none, Bool.not_eq_true', Bool.if_true_left, sumD_map, cutD_map, cut_from (p := p) (c := (i : Int) + 1) (by omega) (by omega), show ((i : Int) + 1).toNat = i + 1 by omega, at_map (p := p) (i := (i : Int)) (by omega) (by omega), Int.toNat_natCast]
            refine ⟨rg2_ok (by omega) (by omega) (by omega) (by omega), ?_⟩
            refine @wpl_x { e : List SV // wipeE e [8] = [SV.d (DI p), SV.d (.int m), SV.d (.lst (F.map DI)), SV.d (.int i), SV.own (G.map DI), SV.d (DI one), SV.d (.int (m - one.sum)), SV.d (.int (imax 0 (m - one.sum - (p.drop (i + 1)).sum))), SV.un] } _ _ _ _ _ _ (fun _ => (rng (imax 0 (m - one.sum - (p.drop (i + 1)).sum)) (imin (m - one.sum) (p.getD i 0) + 1)).map fun x => DI (one ++ [x])) (fun z => ⟨z.1, sto⟩) ?_ ?_
            · refine wp_lcE (E0 := [SV.d (DI p), SV.d (.int m), SV.d (.lst (F.map DI)), SV.d (.int i), SV.own (G.map DI), SV.d (DI one), SV.d (.int (m - one.sum)), SV.d (.int (imax 0 (m - one.sum - (p.drop (i + 1)).sum))), SV.un]) (st := sto) (fun _ => true) (fun d => match d with | .int x => DI (one ++ [x]) | _ => d) rfl rfl (by rw [List.length_nil, rgD_rng, List.length_map, rng_length]; omega) (fun d hd => ?_) fun w2 h1 h2 => ?_
              · rw [rgD_rng] at hd
                obtain ⟨x, hx, rfl⟩ := List.mem_map.mp hd
                simp only [↓wp_bnd, ↓wp_pure, ↓wp_mVar, ↓wp_oVar, ↓wp_oE, ↓wp_mFrz, ↓wp_mRV, ↓wp_m1, ↓wp_m2, ↓wp_mB, ↓wp_mChain, ↓wp_mAnd, ↓wp_mOr, ↓wp_mNot, ↓wp_mTru, ↓wp_mIf, ↓wp_mAndV, ↓wp_mOrV, ↓wp_mNotV, ↓wp_aNil, ↓wp_aCons, ↓wp_qNil, ↓wp_qCons, ↓wp_mA, ↓wp_mTup, ↓wp_mLst, ↓wp_mIsi, ↓wp_mPart, ↓wp_mSlice, ↓wp_mRg1, ↓wp_mRg2, ↓wp_mRgL, ↓wp_iRg, ↓wp_iLst, ↓wp_mApp, ↓wp_mSeq, ↓wp_mExpr, ↓wp_mRet, ↓wp_mSet, ↓wp_mAsg, ↓wp_mgName, ↓wp_mgNil, ↓wp_mgCons, ↓wp_mgTup, ↓wp_mgSub, ↓wp_mAug, ↓wp_mAugS, ↓wx_mFor, ↓wx_mLc, ↓wx_mCall, ↓wp_mFn, ↓wx_mCallL, tab1_self, ↓wp_mAlloc, ↓wp_mNew, ↓wp_mDGet, ↓wp_mDIn, ↓wp_mDPut, ↓wp_mListK, ↓wp_mPopAt, ↓wp_mScIx, ↓wp_mScLen, ↓wp_mScSlice, Op.get, rs, RV.toD, stV, setW, gets, f1, fII, fAdd, fSub, fMul, fDiv, fMod, fLt, fLe, fGt, fGe, fNeg, asB, truD, isN, fIsN, fNotN, lenD, absD, PD.intD, max2_eq, min2_eq, min3D, listD, tupleD, ixD, isiD, PD.listAt, putAtL, Option.map_some, List.getElem?_cons_zero, List.getElem?_cons_succ, List.set_cons_zero, List.set_cons_succ, List.map_cons, List.map_nil, List.replicate_succ, List.replicate_zero, List.cons_append, List.nil_append, List.append_nil, List.length_cons, List.length_nil, List.length_map, if_true, if_false, Bool.not_true, Bool.not_false, Bool.false_eq_true, decide_true, decide_false, decide_eq_true_eq, and_true, true_and, and_self, reduceIte, Nat.reduceAdd, Nat.reduceSub, Nat.reduceLeDiff, Nat.reduceLT, Nat.reduceEqDiff, Int.reduceLT, Int.reduceLE, Option.isSome_some, Option.isSome_none, Bool.not_eq_true', Bool.if_true_left]
                rw [if_pos (show one.length ≤ 16777215 by omega)]
                exact ⟨by show D.lst (one.map D.int ++ [D.int x]) = D.lst ((one ++ [x]).map D.int); rw [List.map_append]; rfl, rfl⟩
              · refine ⟨⟨w2.env, h1⟩, ?_, by rw [← h2]⟩
                rw [List.nil_append, List.filter_eq_self.mpr (fun _ _ => rfl), rgD_rng, List.map_map]
                rfl
            · rintro ⟨e9, he9⟩
              have he9' : e9.set 8 SV.un = [SV.d (DI p), SV.d (.int m), SV.d (.lst (F.map DI)), SV.d (.int i), SV.own (G.map DI), SV.d (DI one), SV.d (.int (m - one.sum)), SV.d (.int (imax 0 (m - one.sum - (p.drop (i + 1)).sum))), SV.un] := he9
              have hb : backE [SV.d (DI p), SV.d (.int m), SV.d (.lst (F.map DI)), SV.d (.int i), SV.own (G.map DI), SV.d (DI one), SV.d (.int (m - one.sum)), SV.d (.int (imax 0 (m - one.sum - (p.drop (i + 1)).sum))), x8] e9 [8] = [SV.d (DI p), SV.d (.int m), SV.d (.lst (F.map DI)), SV.d (.int i), SV.own (G.map DI), SV.d (DI one), SV.d (.int (m - one.sum)), SV.d (.int (imax 0 (m - one.sum - (p.drop (i + 1)).sum))), x8] := by
                show e9.set 8 x8 = _
                rw [← List.set_set (a := SV.un) (b := x8), he9']
                rfl
              have hlen : (rng (imax 0 (m - one.sum - (p.drop (i + 1)).sum)) (imin (m - one.sum) (p.getD i 0) + 1)).length ≤ 4 := by rw [rng_length]; omega
              simp only [↓wp_bnd, ↓wp_pure, ↓wp_mVar, ↓wp_oVar, ↓wp_oE, ↓wp_mFrz, ↓wp_mRV, ↓wp_m1, ↓wp_m2, ↓wp_mB, ↓wp_mChain, ↓wp_mAnd, ↓wp_mOr, ↓wp_mNot, ↓wp_mTru, ↓wp_mIf, ↓wp_mAndV, ↓wp_mOrV, ↓wp_mNotV, ↓wp_aNil, ↓wp_aCons, ↓wp_qNil, ↓wp_qCons, ↓wp_mA, ↓wp_mTup, ↓wp_mLst, ↓wp_mIsi, ↓wp_mPart, ↓wp_mSlice, ↓wp_mRg1, ↓wp_mRg2, ↓wp_mRgL, ↓wp_iRg, ↓wp_iLst, ↓wp_mApp, ↓wp_mSeq, ↓wp_mExpr, ↓wp_mRet, ↓wp_mSet, ↓wp_mAsg, ↓wp_mgName, ↓wp_mgNil, ↓wp_mgCons, ↓wp_mgTup, ↓wp_mgSub, ↓wp_mAug, ↓wp_mAugS, ↓wx_mFor, ↓wx_mLc, ↓wx_mCall, ↓wp_mFn, ↓wx_mCallL, tab1_self, ↓wp_mAlloc, ↓wp_mNew, ↓wp_mDGet, ↓wp_mDIn, ↓wp_mDPut, ↓wp_mListK, ↓wp_mPopAt, ↓wp_mScIx, ↓wp_mScLen, ↓wp_mScSlice, Op.get, rs, RV.toD, stV, setW, gets, f1, fII, fAdd, fSub, fMul, fDiv, fMod, fLt, fLe, fGt, fGe, fNeg, asB, truD, isN, fIsN, fNotN, lenD, absD, PD.intD, max2_eq, min2_eq, min3D, listD, tupleD, ixD, isiD, PD.listAt, putAtL, Option.map_some, List.getElem?_cons_zero, List.getElem?_cons_succ, List.set_cons_zero, List.set_cons_succ, List.map_cons, List.map_nil, List.replicate_succ, List.replicate_zero, List.cons_append, List.nil_append, List.append_nil, List.length_cons, List.length_nil, List.length_map, if_true, if_false, Bool.not_true, Bool.not_false, Bool.false_eq_true, decide_true, decide_false, decide_eq_true_eq, and_true, true_and, and_self, reduceIte, Nat.reduceAdd, Nat.reduceSub, Nat.reduceLeDiff, Nat.reduceLT, Nat.reduceEqDiff, Int.reduceLT, Int.reduceLE, Option.isSome_some, Option.isSome_none, Bool.not_eq_true', Bool.if_true_left, hb, if_pos (show G.length + (rng (imax 0 (m - one.sum - (p.drop (i + 1)).sum)) (imin (m - one.sum) (p.getD i 0) + 1)).length ≤ 16777216 by omega)]
              refine Go.mk ⟨SV.d (DI one), SV.d (.int (m - one.sum)), SV.d (.int (imax 0 (m - one.sum - (p.drop (i + 1)).sum))), x8, G ++ (rng (imax 0 (m - one.sum - (p.drop (i + 1)).sum)) (imin (m - one.sum) (p.getD i 0) + 1)).map (fun x => one ++ [x]), fun t => ?_, by rw [List.length_append, List.length_map]; omega, ?_⟩
              · rw [List.mem_append, hG, take_snoc ho]
                constructor
                · rintro (⟨o, h1, h2⟩ | h)
                  · exact ⟨o, List.mem_append_left _ h1, h2⟩
                  · obtain ⟨x, hx, rfl⟩ := List.mem_map.mp h
                    exact ⟨one, by simp, x, rfl, mem_rng.mp hx⟩
                · rintro ⟨o, h1, x, h2, h3⟩
                  rcases List.mem_append.mp h1 with h | h
                  · exact .inl ⟨o, h, x, h2, h3⟩
                  · rw [List.mem_singleton.mp h] at h2 h3
                    exact .inr (List.mem_map.mpr ⟨x, mem_rng.mpr h3, h2.symm⟩)
              · rw [List.map_append, List.map_map]
                rfl
        · rintro w ⟨x5, x6, x7, x8, G, hG, hGl, rfl⟩
          rw [List.length_map] at hGl
          rw [List.length_map, List.take_length] at hG
          refine ⟨(x5, x6, x7, x8, ⟨G, fun t => ?_, by rw [Nat.pow_succ]; omega⟩), rfl, rfl⟩
          rw [hG]
          constructor
          · rintro ⟨one, h1, x, rfl, h3⟩
            exact (Pt.snoc hi).mpr ⟨(hF one).mp h1, h3⟩
          · intro h
            have hne : t ≠ [] := fun z => by have := h.len; rw [z] at this; simp at this
            have e : t = t.dropLast ++ [t.getLast hne] := (List.dropLast_concat_getLast hne).symm
            rw [e] at h
            obtain ⟨h1, h2⟩ := (Pt.snoc hi).mp h
            exact ⟨_, (hF _).mpr h1, _, e, h2⟩
      · rintro ⟨x5, x6, x7, x8, G, hG, hGl⟩
        simp only [↓wp_bnd, ↓wp_pure, ↓wp_mVar, ↓wp_oVar, ↓wp_oE, ↓wp_mFrz, ↓wp_mRV, ↓wp_m1, ↓wp_m2, ↓wp_mB, ↓wp_mChain, ↓wp_mAnd, ↓wp_mOr, ↓wp_mNot, ↓wp_mTru, ↓wp_mIf, ↓wp_mAndV, ↓wp_mOrV, ↓wp_mNotV, ↓wp_aNil, ↓wp_aCons, ↓wp_qNil, ↓wp_qCons, ↓wp_mA, ↓wp_mTup, ↓wp_mLst, ↓wp_mIsi, ↓wp_mPart, ↓wp_mSlice, ↓wp_mRg1, ↓wp_mRg2, ↓wp_mRgL, ↓wp_iRg, ↓wp_iLst, ↓wp_mApp, ↓wp_mSeq, ↓wp_mExpr, ↓wp_mRet, ↓wp_mSet, ↓wp_mAsg, ↓wp_mgName, ↓wp_mgNil, ↓wp_mgCons, ↓wp_mgTup, ↓wp_mgSub, ↓wp_mAug, ↓wp_mAugS, ↓wx_mFor, ↓wx_mLc, ↓wx_mCall, ↓wp_mFn, ↓wx_mCallL, tab1_self, ↓wp_mAlloc, ↓wp_mNew, ↓wp_mDGet, ↓wp_mDIn, ↓wp_mDPut, ↓wp_mListK, ↓wp_mPopAt, ↓wp_mScIx, ↓wp_mScLen, ↓wp_mScSlice, Op.get, rs, RV.toD, stV, setW, gets, f1, fII, fAdd, fSub, fMul, fDiv, fMod, fLt, fLe, fGt, fGe, fNeg, asB, truD, isN, fIsN, fNotN, lenD, absD, PD.intD, max2_eq, min2_eq, min3D, listD, tupleD, ixD, isiD, PD.listAt, putAtL, Option.map_some, List.getElem?_cons_zero, List.getElem?_cons_succ, List.set_cons_zero, List.set_cons_succ, List.map_cons, List.map_nil, List.replicate_succ, List.replicate_zero, List.cons_append, List.nil_append, List.append_nil, List.length_cons, List.length_nil, List.length_map, if_true, if_false, Bool.not_true, Bool.not_false, Bool.false_eq_true, decide_true, decide_false, decide_eq_true_eq, and_true, true_and, and_self, reduceIte, Nat.reduceAdd, Nat.reduceSub, Nat.reduceLeDiff, Nat.reduceLT, Nat.reduceEqDiff, Int.reduceLT, Int.reduceLE, Option.isSome_some, Option.isSome_none, Bool.not_eq_true', Bool.if_true_left]
        exact ⟨SV.d (.int i), SV.d (.lst (G.map DI)), x5, x6, x7, x8, G, hG, hGl, rfl⟩
    · rintro w ⟨x3, x4, x5, x6, x7, x8, F, hF, hFl, rfl⟩
      rw [rgD_rng, List.length_map, rng_length, show ((p.length : Int) - 0).toNat = p.length by omega] at hF
      exact ⟨(x3, x4, x5, x6, x7, x8, ⟨F, fun t => (hF t).trans Pt.tk⟩), rfl, rfl⟩
  · rintro ⟨x3, x4, x5, x6, x7, x8, F, hF⟩
    simp only [↓wp_bnd, ↓wp_pure, ↓wp_mVar, ↓wp_oVar, ↓wp_oE, ↓wp_mFrz, ↓wp_mRV, ↓wp_m1, ↓wp_m2, ↓wp_mB, ↓wp_mChain, ↓wp_mAnd, ↓wp_mOr, ↓wp_mNot, ↓wp_mTru, ↓wp_mIf, ↓wp_mAndV, ↓wp_mOrV, ↓wp_mNotV, ↓wp_aNil, ↓wp_aCons, ↓wp_qNil, ↓wp_qCons, ↓wp_mA, ↓wp_mTup, ↓wp_mLst, ↓wp_mIsi, ↓wp_mPart, ↓wp_mSlice, ↓wp_mRg1, ↓wp_mRg2, ↓wp_mRgL, ↓wp_iRg, ↓wp_iLst, ↓wp_mApp, ↓wp_mSeq, ↓wp_mExpr, ↓wp_mRet, ↓wp_mSet, ↓wp_mAsg, ↓wp_mgName, ↓wp_mgNil, ↓wp_mgCons, ↓wp_mgTup, ↓wp_mgSub, ↓wp_mAug, ↓wp_mAugS, ↓wx_mFor, ↓wx_mLc, ↓wx_mCall, ↓wp_mFn, ↓wx_mCallL, tab1_self, ↓wp_mAlloc, ↓wp_mNew, ↓wp_mDGet, ↓wp_mDIn, ↓wp_mDPut, ↓wp_mListK, ↓wp_mPopAt, ↓wp_mScIx, ↓wp_mScLen, ↓wp_mScSlice, Op.get, rs, RV.toD, stV, setW, gets, f1, fII, fAdd, fSub, fMul, fDiv, fMod, fLt, fLe, fGt, fGe, fNeg, asB, truD, isN, fIsN, fNotN, lenD, absD, PD.intD, max2_eq, min2_eq, min3D, listD, tupleD, ixD, isiD, PD.listAt, putAtL, Option.map_some, List.getElem?_cons_zero, List.getElem?_cons_succ, List.set_cons_zero, List.set_cons_succ, List.map_cons, List.map_nil, List.replicate_succ, List.replicate_zero, List.cons_append, List.nil_append, List.append_nil, List.length_cons, List.length_nil, List.length_map, if_true, if_false, Bool.not_true, Bool.not_false, Bool.false_eq_true, decide_true, decide_false, decide_eq_true_eq, and_true, true_and, and_self, reduceIte, Nat.reduceAdd, Nat.reduceSub, Nat.reduceLeDiff, Nat.reduceLT, Nat.reduceEqDiff, Int.reduceLT, Int.reduceLE, Option.isSome_some, Option.isSome_none, Bool.not_eq_true', Bool.if_true_left]
    exact ⟨⟨⟨F, hF⟩, rfl⟩⟩
end
end K73

set_option maxHeartbeats 1000000
namespace K73
open PySem PySem.Spec PyProof.Rows L2 PD
section
variable {p : List Int} {l c h m : Int} {sto : List O} {j : Nat} {ns : List Int}
theorem wp_most {a : D} {n k : Int} (h : n ≤ k) : wp (m_check_most [a, .int n, .int k]) ⟨[], sto⟩ fun d w' => d = .non ∧ w' = ⟨[], sto⟩ := by
  unfold m_check_most
  simp only [↓wp_bnd, ↓wp_pure, ↓wp_mVar, ↓wp_oVar, ↓wp_oE, ↓wp_mFrz, ↓wp_mRV, ↓wp_m1, ↓wp_m2, ↓wp_mB, ↓wp_mChain, ↓wp_mAnd, ↓wp_mOr, ↓wp_mNot, ↓wp_mTru, ↓wp_mIf, ↓wp_mAndV, ↓wp_mOrV, ↓wp_mNotV, ↓wp_aNil, ↓wp_aCons, ↓wp_qNil, ↓wp_qCons, ↓wp_mA, ↓wp_mTup, ↓wp_mLst, ↓wp_mIsi, ↓wp_mPart, ↓wp_mSlice, ↓wp_mRg1, ↓wp_mRg2, ↓wp_mRgL, ↓wp_iRg, ↓wp_iLst, ↓wp_mApp, ↓wp_mSeq, ↓wp_mExpr, ↓wp_mRet, ↓wp_mSet, ↓wp_mAsg, ↓wp_mgName, ↓wp_mgNil, ↓wp_mgCons, ↓wp_mgTup, ↓wp_mgSub, ↓wp_mAug, ↓wp_mAugS, ↓wx_mFor, ↓wx_mLc, ↓wx_mCall, ↓wp_mFn, ↓wx_mCallL, tab1_self, ↓wp_mAlloc, ↓wp_mNew, ↓wp_mDGet, ↓wp_mDIn, ↓wp_mDPut, ↓wp_mListK, ↓wp_mPopAt, ↓wp_mScIx, ↓wp_mScLen, ↓wp_mScSlice, Op.get, rs, RV.toD, stV, setW, gets, f1, fII, fAdd, fSub, fMul, fDiv, fMod, fLt, fLe, fGt, fGe, fNeg, asB, truD, isN, fIsN, fNotN, lenD, absD, PD.intD, max2_eq, min2_eq, min3D, listD, tupleD, ixD, isiD, PD.listAt, putAtL, Option.map_some, List.getElem?_cons_zero, List.getElem?_cons_succ, List.set_cons_zero, List.set_cons_succ, List.map_cons, List.map_nil, List.replicate_succ, List.replicate_zero, List.cons_append, List.nil_append, List.append_nil, List.length_cons, List.length_nil, List.length_map, if_true, if_false, Bool.not_true, Bool.not_false, Bool.false_eq_true, decide_true, decide_false, decide_eq_true_eq, and_true, true_and, and_self, reduceIte, Nat.reduceAdd, Nat.reduceSub, Nat.reduceLeDiff, Nat.reduceLT, Nat.reduceEqDiff, Int.reduceLT, Int.reduceLE, Option.isSome_some, Option.isSome_none, Bool.not_eq_true', Bool.if_true_left, show ¬ (k < n) by omega]
theorem wp_each {a : D} {k : Int} (h : ∀ x ∈ p, x ≤ k) : wp (m_check_each [a, DI p, .int k]) ⟨[], sto⟩ fun d w' => d = .non ∧ w' = ⟨[], sto⟩ := by
  unfold m_check_each
  simp only [↓wp_bnd, ↓wp_pure, ↓wp_mVar, ↓wp_oVar, ↓wp_oE, ↓wp_mFrz, ↓wp_mRV, ↓wp_m1, ↓wp_m2, ↓wp_mB, ↓wp_mChain, ↓wp_mAnd, ↓wp_mOr, ↓wp_mNot, ↓wp_mTru, ↓wp_mIf, ↓wp_mAndV, ↓wp_mOrV, ↓wp_mNotV, ↓wp_aNil, ↓wp_aCons, ↓wp_qNil, ↓wp_qCons, ↓wp_mA, ↓wp_mTup, ↓wp_mLst, ↓wp_mIsi, ↓wp_mPart, ↓wp_mSlice, ↓wp_mRg1, ↓wp_mRg2, ↓wp_mRgL, ↓wp_iRg, ↓wp_iLst, ↓wp_mApp, ↓wp_mSeq, ↓wp_mExpr, ↓wp_mRet, ↓wp_mSet, ↓wp_mAsg, ↓wp_mgName, ↓wp_mgNil, ↓wp_mgCons, ↓wp_mgTup, ↓wp_mgSub, ↓wp_mAug, ↓wp_mAugS, ↓wx_mFor, ↓wx_mLc, ↓wx_mCall, ↓wp_mFn, ↓wx_mCallL, tab1_self, ↓wp_mAlloc, ↓wp_mNew, ↓wp_mDGet, ↓wp_mDIn, ↓wp_mDPut, ↓wp_mListK, ↓wp_mPopAt, ↓wp_mScIx, ↓wp_mScLen, ↓wp_mScSlice, Op.get, rs, RV.toD, stV, setW, gets, f1, fII, fAdd, fSub, fMul, fDiv, fMod, fLt, fLe, fGt, fGe, fNeg, asB, truD, isN, fIsN, fNotN, lenD, absD, PD.intD, max2_eq, min2_eq, min3D, listD, tupleD, ixD, isiD, PD.listAt, putAtL, Option.map_some, List.getElem?_cons_zero, List.getElem?_cons_succ, List.set_cons_zero, List.set_cons_succ, List.map_cons, List.map_nil, List.replicate_succ, List.replicate_zero, List.cons_append, List.nil_append, List.append_nil, List.length_cons, List.length_nil, List.length_map, if_true, if_false, Bool.not_true, Bool.not_false, Bool.false_eq_true, decide_true, decide_false, decide_eq_true_eq, and_true, true_and, and_self, reduceIte, Nat.reduceAdd, Nat.reduceSub, Nat.reduceLeDiff, Nat.reduceLT, Nat.reduceEqDiff, Int.reduceLT, Int.reduceLE, Option.isSome_some, Option.isSome_none, Bool.not_eq_true', Bool.if_true_left]
  refine @wpf_x SV _ _ _ _ (fun _ => .nx) (fun z => ⟨[SV.d a, SV.d (DI p), SV.d (.int k), z], sto⟩) ?_ ?_
  · refine wp_for (fun i w => ∃ x3 : SV, w = ⟨[SV.d a, SV.d (DI p), SV.d (.int k), x3], sto⟩) ?_ ?_ ?_
    · exact ⟨_, rfl⟩
    · rintro i d w hd ⟨x3, rfl⟩
      rw [List.getElem?_map] at hd
      cases ho : p[i]? with
      | none => rw [ho] at hd; cases hd
      | some x =>
        rw [ho] at hd
        cases hd
        have := h x (List.mem_of_getElem? ho)
        simp only [↓wp_bnd, ↓wp_pure, ↓wp_mVar, ↓wp_oVar, ↓wp_oE, ↓wp_mFrz, ↓wp_mRV, ↓wp_m1, ↓wp_m2, ↓wp_mB, ↓wp_mChain, ↓wp_mAnd, ↓wp_mOr, ↓wp_mNot, ↓wp_mTru, ↓wp_mIf, ↓wp_mAndV, ↓wp_mOrV, ↓wp_mNotV, ↓wp_aNil, ↓wp_aCons, ↓wp_qNil, ↓wp_qCons, ↓wp_mA, ↓wp_mTup, ↓wp_mLst, ↓wp_mIsi, ↓wp_mPart, ↓wp_mSlice, ↓wp_mRg1, ↓wp_mRg2, ↓wp_mRgL, ↓wp_iRg, ↓wp_iLst, ↓wp_mApp, ↓wp_mSeq, ↓wp_mExpr, ↓wp_mRet, ↓wp_mSet, ↓wp_mAsg, ↓wp_mgName, ↓wp_mgNil, ↓wp_mgCons, ↓wp_mgTup, ↓wp_mgSub, ↓wp_mAug, ↓wp_mAugS, ↓wx_mFor, ↓wx_mLc, ↓wx_mCall, ↓wp_mFn, ↓wx_mCallL, tab1_self, ↓wp_mAlloc, ↓wp_mNew, ↓wp_mDGet, ↓wp_mDIn, ↓wp_mDPut, ↓wp_mListK, ↓wp_mPopAt, ↓wp_mScIx, ↓wp_mScLen, ↓wp_mScSlice, Op.get, rs, RV.toD, stV, setW, gets, f1, fII, fAdd, fSub, fMul, fDiv, fMod, fLt, fLe, fGt, fGe, fNeg, asB, truD, isN, fIsN, fNotN, lenD, absD, PD.intD, max2_eq, min2_eq, min3D, listD, tupleD, ixD, isiD, PD.listAt, putAtL, Option.map_some, List.getElem?_cons_zero, List.getElem?_cons_succ, List.set_cons_zero, List.set_cons_succ, List.map_cons, List.map_nil, List.replicate_succ, List.replicate_zero, List.cons_append, List.nil_append, List.append_nil, List.length_cons, List.length_nil, List.length_map, if_true, if_false, Bool.not_true, Bool.not_false, Bool.false_eq_true, decide_true, decide_false, decide_eq_true_eq, and_true, true_and, and_self, reduceIte, Nat.reduceAdd, Nat.reduceSub, Nat.reduceLeDiff, Nat.reduceLT, Nat.reduceEqDiff, Int.reduceLT, Int.reduceLE, Option.isSome_some, Option.isSome_none, Bool.not_eq_true', Bool.if_true_left, show ¬ (k < x) by omega]
        exact ⟨_, rfl⟩
    · rintro w ⟨x3, rfl⟩
      exact ⟨x3, rfl, rfl⟩
  · intro z
    simp only [↓wp_bnd, ↓wp_pure, ↓wp_mVar, ↓wp_oVar, ↓wp_oE, ↓wp_mFrz, ↓wp_mRV, ↓wp_m1, ↓wp_m2, ↓wp_mB, ↓wp_mChain, ↓wp_mAnd, ↓wp_mOr, ↓wp_mNot, ↓wp_mTru, ↓wp_mIf, ↓wp_mAndV, ↓wp_mOrV, ↓wp_mNotV, ↓wp_aNil, ↓wp_aCons, ↓wp_qNil, ↓wp_qCons, ↓wp_mA, ↓wp_mTup, ↓wp_mLst, ↓wp_mIsi, ↓wp_mPart, ↓wp_mSlice, ↓wp_mRg1, ↓wp_mRg2, ↓wp_mRgL, ↓wp_iRg, ↓wp_iLst, ↓wp_mApp, ↓wp_mSeq, ↓wp_mExpr, ↓wp_mRet, ↓wp_mSet, ↓wp_mAsg, ↓wp_mgName, ↓wp_mgNil, ↓wp_mgCons, ↓wp_mgTup, ↓wp_mgSub, ↓wp_mAug, ↓wp_mAugS, ↓wx_mFor, ↓wx_mLc, ↓wx_mCall, ↓wp_mFn, ↓wx_mCallL, tab1_self, ↓wp_mAlloc, ↓wp_mNew, ↓wp_mDGet, ↓wp_mDIn, ↓wp_mDPut, ↓wp_mListK, ↓wp_mPopAt, ↓wp_mScIx, ↓wp_mScLen, ↓wp_mScSlice, Op.get, rs, RV.toD, stV, setW, gets, f1, fII, fAdd, fSub, fMul, fDiv, fMod, fLt, fLe, fGt, fGe, fNeg, asB, truD, isN, fIsN, fNotN, lenD, absD, PD.intD, max2_eq, min2_eq, min3D, listD, tupleD, ixD, isiD, PD.listAt, putAtL, Option.map_some, List.getElem?_cons_zero, List.getElem?_cons_succ, List.set_cons_zero, List.set_cons_succ, List.map_cons, List.map_nil, List.replicate_succ, List.replicate_zero, List.cons_append, List.nil_append, List.append_nil, List.length_cons, List.length_nil, List.length_map, if_true, if_false, Bool.not_true, Bool.not_false, Bool.false_eq_true, decide_true, decide_false, decide_eq_true_eq, and_true, true_and, and_self, reduceIte, Nat.reduceAdd, Nat.reduceSub, Nat.reduceLeDiff, Nat.reduceLT, Nat.reduceEqDiff, Int.reduceLT, Int.reduceLE, Option.isSome_some, Option.isSome_none, Bool.not_eq_true', Bool.if_true_left]
    exact ⟨trivial⟩
theorem wp_row (f : Few p) (r : Row p m) : wp (m_check_row [DI p, .int m]) ⟨[], sto⟩ fun d w' => d = .non ∧ w' = ⟨[], sto⟩ := by
  have hl := f.len
  have hr0 := r.lo
  have hr1 := r.hi
  have hne : p.length ≠ 0 := fun z => r.ne (List.length_eq_zero_iff.mp z)
  unfold m_check_row
  simp only [↓wp_bnd, ↓wp_pure, ↓wp_mVar, ↓wp_oVar, ↓wp_oE, ↓wp_mFrz, ↓wp_mRV, ↓wp_m1, ↓wp_m2, ↓wp_mB, ↓wp_mChain, ↓wp_mAnd, ↓wp_mOr, ↓wp_mNot, ↓wp_mTru, ↓wp_mIf, ↓wp_mAndV, ↓wp_mOrV, ↓wp_mNotV, ↓wp_aNil, ↓wp_aCons, ↓wp_qNil, ↓wp_qCons, ↓wp_mA, ↓wp_mTup, ↓wp_mLst, ↓wp_mIsi, ↓wp_mPart, ↓wp_mSlice, ↓wp_mRg1, ↓wp_mRg2, ↓wp_mRgL, ↓wp_iRg, ↓wp_iLst, ↓wp_mApp, ↓wp_mSeq, ↓wp_mExpr, ↓wp_mRet, ↓wp_mSet, ↓wp_mAsg, ↓wp_mgName, ↓wp_mgNil, ↓wp_mgCons, ↓wp_mgTup, ↓wp_mgSub, ↓wp_mAug, ↓wp_mAugS, ↓wx_mFor, ↓wx_mLc, ↓wx_mCall, ↓wp_mFn, ↓wx_mCallL, tab1_self, ↓wp_mAlloc, ↓wp_mNew, ↓wp_mDGet, ↓wp_mDIn, ↓wp_mDPut, ↓wp_mListK, ↓wp_mPopAt, ↓wp_mScIx, ↓wp_mScLen, ↓wp_mScSlice, Op.get, rs, RV.toD, stV, setW, gets, f1, fII, fAdd, fSub, fMul, fDiv, fMod, fLt, fLe, fGt, fGe, fNeg, asB, truD, isN, fIsN, fNotN, lenD, absD, PD.intD, max2_eq, min2_eq, min3D, listD, tupleD, ixD, isiD, PD.listAt, putAtL, Option.map_some, List.getElem?_cons_zero, List.getElem?_cons_succ, List.set_cons_zero, List.set_cons_succ, List.map_cons, List.map_nil, List.replicate_succ, List.replicate_zero, List.cons_append, List.nil_append, List.append_nil, List.length_cons, List.length_nil, List.length_map, if_true, if_false, Bool.not_true, Bool.not_false, Bool.false_eq_true, decide_true, decide_false, decide_eq_true_eq, and_true, true_and, and_self, reduceIte, Nat.reduceAdd, Nat.reduceSub, Nat.reduceLeDiff, Nat.reduceLT, Nat.reduceEqDiff, Int.reduceLT, Int.reduceLE, Option.isSome_some, Option.isSome_none, Bool.not_eq_true', Bool.if_true_left]
  refine @wpc_e _ _ _ _ .non ⟨[], sto⟩ (wp_most (by omega)) ?_
  simp only [↓wp_bnd, ↓wp_pure, ↓wp_mVar, ↓wp_oVar, ↓wp_oE, ↓wp_mFrz, ↓wp_mRV, ↓wp_m1, ↓wp_m2, ↓wp_mB, ↓wp_mChain, ↓wp_mAnd, ↓wp_mOr, ↓wp_mNot, ↓wp_mTru, ↓wp_mIf, ↓wp_mAndV, ↓wp_mOrV, ↓wp_mNotV, ↓wp_aNil, ↓wp_aCons, ↓wp_qNil, ↓wp_qCons, ↓wp_mA, ↓wp_mTup, ↓wp_mLst, ↓wp_mIsi, ↓wp_mPart, ↓wp_mSlice, ↓wp_mRg1, ↓wp_mRg2, ↓wp_mRgL, ↓wp_iRg, ↓wp_iLst, ↓wp_mApp, ↓wp_mSeq, ↓wp_mExpr, ↓wp_mRet, ↓wp_mSet, ↓wp_mAsg, ↓wp_mgName, ↓wp_mgNil, ↓wp_mgCons, ↓wp_mgTup, ↓wp_mgSub, ↓wp_mAug, ↓wp_mAugS, ↓wx_mFor, ↓wx_mLc, ↓wx_mCall, ↓wp_mFn, ↓wx_mCallL, tab1_self, ↓wp_mAlloc, ↓wp_mNew, ↓wp_mDGet, ↓wp_mDIn, ↓wp_mDPut, ↓wp_mListK, ↓wp_mPopAt, ↓wp_mScIx, ↓wp_mScLen, ↓wp_mScSlice, Op.get, rs, RV.toD, stV, setW, gets, f1, fII, fAdd, fSub, fMul, fDiv, fMod, fLt, fLe, fGt, fGe, fNeg, asB, truD, isN, fIsN, fNotN, lenD, absD, PD.intD, max2_eq, min2_eq, min3D, listD, tupleD, ixD, isiD, PD.listAt, putAtL, Option.map_some, List.getElem?_cons_zero, List.getElem?_cons_succ, List.set_cons_zero, List.set_cons_succ, List.map_cons, List.map_nil, List.replicate_succ, List.replicate_zero, List.cons_append, List.nil_append, List.append_nil, List.length_cons, List.length_nil, List.length_map, if_true, if_false, Bool.not_true, Bool.not_false, Bool.false_eq_true, decide_true, decide_false, decide_eq_true_eq, and_true, true_and, and_self, reduceIte, Nat.reduceAdd, Nat.reduceSub, Nat.reduceLeDiff, Nat.reduceLT, Nat.reduceEqDiff, Int.reduceLT, Int.reduceLE, Option.isSome_some, Option.isSome_none, Bool.not_eq_true', Bool.if_true_left]
  refine Go.mk (@wpc_e _ _ _ _ .non ⟨[], sto⟩ (wp_each fun x hx => by have := f.nn x hx; omega) ?_)
  simp only [↓wp_bnd, ↓wp_pure, ↓wp_mVar, ↓wp_oVar, ↓wp_oE, ↓wp_mFrz, ↓wp_mRV, ↓wp_m1, ↓wp_m2, ↓wp_mB, ↓wp_mChain, ↓wp_mAnd, ↓wp_mOr, ↓wp_mNot, ↓wp_mTru, ↓wp_mIf, ↓wp_mAndV, ↓wp_mOrV, ↓wp_mNotV, ↓wp_aNil, ↓wp_aCons, ↓wp_qNil, ↓wp_qCons, ↓wp_mA, ↓wp_mTup, ↓wp_mLst, ↓wp_mIsi, ↓wp_mPart, ↓wp_mSlice, ↓wp_mRg1, ↓wp_mRg2, ↓wp_mRgL, ↓wp_iRg, ↓wp_iLst, ↓wp_mApp, ↓wp_mSeq, ↓wp_mExpr, ↓wp_mRet, ↓wp_mSet, ↓wp_mAsg, ↓wp_mgName, ↓wp_mgNil, ↓wp_mgCons, ↓wp_mgTup, ↓wp_mgSub, ↓wp_mAug, ↓wp_mAugS, ↓wx_mFor, ↓wx_mLc, ↓wx_mCall, ↓wp_mFn, ↓wx_mCallL, tab1_self, ↓wp_mAlloc, ↓wp_mNew, ↓wp_mDGet, ↓wp_mDIn, ↓wp_mDPut, ↓wp_mListK, ↓wp_mPopAt, ↓wp_mScIx, ↓wp_mScLen, ↓wp_mScSlice, Op.get, rs, RV.toD, stV, setW, gets, f1, fII, fAdd, fSub, fMul, fDiv, fMod, fLt, fLe, fGt, fGe, fNeg, asB, truD, isN, fIsN, fNotN, lenD, absD, PD.intD, max2_eq, min2_eq, min3D, listD, tupleD, ixD, isiD, PD.listAt, putAtL, Option.map_some, List.getElem?_cons_zero, List.getElem?_cons_succ, List.set_cons_zero, List.set_cons_succ, List.map_cons, List.map_nil, List.replicate_succ, List.replicate_zero, List.cons_append, List.nil_append, List.append_nil, List.length_cons, List.length_nil, List.length_map, if_true, if_false, Bool.not_true, Bool.not_false, Bool.false_eq_true, decide_true, decide_false, decide_eq_true_eq, and_true, true_and, and_self, reduceIte, Nat.reduceAdd, Nat.reduceSub, Nat.reduceLeDiff, Nat.reduceLT, Nat.reduceEqDiff, Int.reduceLT, Int.reduceLE, Option.isSome_some, Option.isSome_none, Bool.not_eq_true', Bool.if_true_left]
  refine Go.mk ⟨rg2_ok (by omega) (by omega) (by omega) (by omega), ?_⟩
  refine @wpf_x SV _ _ _ _ (fun _ => .nx) (fun z => ⟨[SV.d (DI p), SV.d (.int m), z], sto⟩) ?_ ?_
  · refine wp_for (fun i w => ∃ x3 : SV, w = ⟨[SV.d (DI p), SV.d (.int m), x3], sto⟩) ?_ ?_ ?_
    · exact ⟨_, rfl⟩
    · rintro i d w hd ⟨x3, rfl⟩
      obtain ⟨k, hk, rfl, k1, k2⟩ := rgD_at hd
      have pk : 0 ≤ p.getD k.toNat 0 := by
        rw [List.getD_eq_getElem?_getD, List.getElem?_eq_getElem (by omega)]
        exact (f.nn _ (List.getElem_mem _)).1
      simp only [↓wp_bnd, ↓wp_pure, ↓wp_mVar, ↓wp_oVar, ↓wp_oE, ↓wp_mFrz, ↓wp_mRV, ↓wp_m1, ↓wp_m2, ↓wp_mB, ↓wp_mChain, ↓wp_mAnd, ↓wp_mOr, ↓wp_mNot, ↓wp_mTru, ↓wp_mIf, ↓wp_mAndV, ↓wp_mOrV, ↓wp_mNotV, ↓wp_aNil, ↓wp_aCons, ↓wp_qNil, ↓wp_qCons, ↓wp_mA, ↓wp_mTup, ↓wp_mLst, ↓wp_mIsi, ↓wp_mPart, ↓wp_mSlice, ↓wp_mRg1, ↓wp_mRg2, ↓wp_mRgL, ↓wp_iRg, ↓wp_iLst, ↓wp_mApp, ↓wp_mSeq, ↓wp_mExpr, ↓wp_mRet, ↓wp_mSet, ↓wp_mAsg, ↓wp_mgName, ↓wp_mgNil, ↓wp_mgCons, ↓wp_mgTup, ↓wp_mgSub, ↓wp_mAug, ↓wp_mAugS, ↓wx_mFor, ↓wx_mLc, ↓wx_mCall, ↓wp_mFn, ↓wx_mCallL, tab1_self, ↓wp_mAlloc, ↓wp_mNew, ↓wp_mDGet, ↓wp_mDIn, ↓wp_mDPut, ↓wp_mListK, ↓wp_mPopAt, ↓wp_mScIx, ↓wp_mScLen, ↓wp_mScSlice, Op.get, rs, RV.toD, stV, setW, gets, f1, fII, fAdd, fSub, fMul, fDiv, fMod, fLt, fLe, fGt, fGe, fNeg, asB, truD, isN, fIsN, fNotN, lenD, absD, PD.intD, max2_eq, min2_eq, min3D, listD, tupleD, ixD, isiD, PD.listAt, putAtL, Option.map_some, List.getElem?_cons_zero, List.getElem?_cons_succ, List.set_cons_zero, List.set_cons_succ, List.map_cons, List.map_nil, List.replicate_succ, List.replicate_zero, List.cons_append, List.nil_append, List.append_nil, List.length_cons, List.length_nil, List.length_map, if_true, if_false, Bool.not_true, Bool.not_false, Bool.false_eq_true, decide_true, decide_false, decide_eq_true_eq, and_true, true_and, and_self, reduceIte, Nat.reduceAdd, Nat.reduceSub, Nat.reduceLeDiff, Nat.reduceLT, Nat.reduceEqDiff, Int.reduceLT, Int.reduceLE, Option.isSome_some, Option.isSome_none, Bool.not_eq_true', Bool.if_true_left, at_map (p := p) (i := k) (by omega) (by omega), show ¬ (p.getD k.toNat 0 < 0) by omega]
      exact ⟨_, rfl⟩
    · rintro w ⟨x3, rfl⟩
      exact ⟨x3, rfl, rfl⟩
  · intro z
    simp only [↓wp_bnd, ↓wp_pure, ↓wp_mVar, ↓wp_oVar, ↓wp_oE, ↓wp_mFrz, ↓wp_mRV, ↓wp_m1, ↓wp_m2, ↓wp_mB, ↓wp_mChain, ↓wp_mAnd, ↓wp_mOr, ↓wp_mNot, ↓wp_mTru, ↓wp_mIf, ↓wp_mAndV, ↓wp_mOrV, ↓wp_mNotV, ↓wp_aNil, ↓wp_aCons, ↓wp_qNil, ↓wp_qCons, ↓wp_mA, ↓wp_mTup, ↓wp_mLst, ↓wp_mIsi, ↓wp_mPart, ↓wp_mSlice, ↓wp_mRg1, ↓wp_mRg2, ↓wp_mRgL, ↓wp_iRg, ↓wp_iLst, ↓wp_mApp, ↓wp_mSeq, ↓wp_mExpr, ↓wp_mRet, ↓wp_mSet, ↓wp_mAsg, ↓wp_mgName, ↓wp_mgNil, ↓wp_mgCons, ↓wp_mgTup, ↓wp_mgSub, ↓wp_mAug, ↓wp_mAugS, ↓wx_mFor, ↓wx_mLc, ↓wx_mCall, ↓wp_mFn, ↓wx_mCallL, tab1_self, ↓wp_mAlloc, ↓wp_mNew, ↓wp_mDGet, ↓wp_mDIn, ↓wp_mDPut, ↓wp_mListK, ↓wp_mPopAt, ↓wp_mScIx, ↓wp_mScLen, ↓wp_mScSlice, Op.get, rs, RV.toD, stV, setW, gets, f1, fII, fAdd, fSub, fMul, fDiv, fMod, fLt, fLe, fGt, fGe, fNeg, asB, truD, isN, fIsN, fNotN, lenD, absD, PD.intD, max2_eq, min2_eq, min3D, listD, tupleD, ixD, isiD, PD.listAt, putAtL, Option.map_some, List.getElem?_cons_zero, List.getElem?_cons_succ, List.set_cons_zero, List.set_cons_succ, List.map_cons, List.map_nil, List.replicate_succ, List.replicate_zero, List.cons_append, List.nil_append, List.append_nil, List.length_cons, List.length_nil, List.length_map, if_true, if_false, Bool.not_true, Bool.not_false, Bool.false_eq_true, decide_true, decide_false, decide_eq_true_eq, and_true, true_and, and_self, reduceIte, Nat.reduceAdd, Nat.reduceSub, Nat.reduceLeDiff, Nat.reduceLT, Nat.reduceEqDiff, Int.reduceLT, Int.reduceLE, Option.isSome_some, Option.isSome_none, Bool.not_eq_true', Bool.if_true_left, fEq_int, show ¬ ((p.length : Int) = 0) by omega, sumD_map, show (1 : Int) ≤ m by omega, hr1]
    exact ⟨trivial⟩
theorem sl_all (p : List Int) : sl p 0 p.length = p := by
  unfold sl
  show (p.drop 0).take _ = p
  rw [List.drop_zero, show ((p.length : Int)).toNat - (0 : Int).toNat = p.length by omega, List.take_length]
theorem rowI_all (r : Row p m) : RowI p 0 p.length m := ⟨Int.le_refl _, by omega, Int.le_refl _, by rw [sl_all]; exact r⟩
theorem new_at {z : O} : (sto ++ [z])[sto.length]? = some z := by rw [List.getElem?_append_right (Nat.le_refl _), Nat.sub_self]; rfl
theorem new_set {z y : O} : (sto ++ [z]).set sto.length y = sto ++ [y] := by rw [List.set_append_right _ _ (Nat.le_refl _), Nat.sub_self]; rfl
theorem wp_due (f : Few p) (r : Row p m) : wp (m_openings_due [DI p, .int m]) ⟨[], sto⟩ fun d w' => ∃ y : O, d = .int (numN p m) ∧ w' = ⟨[], sto ++ [y]⟩ := by
  have hl := f.len
  unfold m_openings_due
  simp only [↓wp_bnd, ↓wp_pure, ↓wp_mVar, ↓wp_oVar, ↓wp_oE, ↓wp_mFrz, ↓wp_mRV, ↓wp_m1, ↓wp_m2, ↓wp_mB, ↓wp_mChain, ↓wp_mAnd, ↓wp_mOr, ↓wp_mNot, ↓wp_mTru, ↓wp_mIf, ↓wp_mAndV, ↓wp_mOrV, ↓wp_mNotV, ↓wp_aNil, ↓wp_aCons, ↓wp_qNil, ↓wp_qCons, ↓wp_mA, ↓wp_mTup, ↓wp_mLst, ↓wp_mIsi, ↓wp_mPart, ↓wp_mSlice, ↓wp_mRg1, ↓wp_mRg2, ↓wp_mRgL, ↓wp_iRg, ↓wp_iLst, ↓wp_mApp, ↓wp_mSeq, ↓wp_mExpr, ↓wp_mRet, ↓wp_mSet, ↓wp_mAsg, ↓wp_mgName, ↓wp_mgNil, ↓wp_mgCons, ↓wp_mgTup, ↓wp_mgSub, ↓wp_mAug, ↓wp_mAugS, ↓wx_mFor, ↓wx_mLc, ↓wx_mCall, ↓wp_mFn, ↓wx_mCallL, tab1_self, ↓wp_mAlloc, ↓wp_mNew, ↓wp_mDGet, ↓wp_mDIn, ↓wp_mDPut, ↓wp_mListK, ↓wp_mPopAt, ↓wp_mScIx, ↓wp_mScLen, ↓wp_mScSlice, Op.get, rs, RV.toD, stV, setW, gets, f1, fII, fAdd, fSub, fMul, fDiv, fMod, fLt, fLe, fGt, fGe, fNeg, asB, truD, isN, fIsN, fNotN, lenD, absD, PD.intD, max2_eq, min2_eq, min3D, listD, tupleD, ixD, isiD, PD.listAt, putAtL, Option.map_some, List.getElem?_cons_zero, List.getElem?_cons_succ, List.set_cons_zero, List.set_cons_succ, List.map_cons, List.map_nil, List.replicate_succ, List.replicate_zero, List.cons_append, List.nil_append, List.append_nil, List.length_cons, List.length_nil, List.length_map, if_true, if_false, Bool.not_true, Bool.not_false, Bool.false_eq_true, decide_true, decide_false, decide_eq_true_eq, and_true, true_and, and_self, reduceIte, Nat.reduceAdd, Nat.reduceSub, Nat.reduceLeDiff, Nat.reduceLT, Nat.reduceEqDiff, Int.reduceLT, Int.reduceLE, Option.isSome_some, Option.isSome_none, Bool.not_eq_true', Bool.if_true_left]
  refine @wpc_e _ _ _ _ .non ⟨[], sto⟩ (wp_row f r) ?_
  simp only [↓wp_bnd, ↓wp_pure, ↓wp_mVar, ↓wp_oVar, ↓wp_oE, ↓wp_mFrz, ↓wp_mRV, ↓wp_m1, ↓wp_m2, ↓wp_mB, ↓wp_mChain, ↓wp_mAnd, ↓wp_mOr, ↓wp_mNot, ↓wp_mTru, ↓wp_mIf, ↓wp_mAndV, ↓wp_mOrV, ↓wp_mNotV, ↓wp_aNil, ↓wp_aCons, ↓wp_qNil, ↓wp_qCons, ↓wp_mA, ↓wp_mTup, ↓wp_mLst, ↓wp_mIsi, ↓wp_mPart, ↓wp_mSlice, ↓wp_mRg1, ↓wp_mRg2, ↓wp_mRgL, ↓wp_iRg, ↓wp_iLst, ↓wp_mApp, ↓wp_mSeq, ↓wp_mExpr, ↓wp_mRet, ↓wp_mSet, ↓wp_mAsg, ↓wp_mgName, ↓wp_mgNil, ↓wp_mgCons, ↓wp_mgTup, ↓wp_mgSub, ↓wp_mAug, ↓wp_mAugS, ↓wx_mFor, ↓wx_mLc, ↓wx_mCall, ↓wp_mFn, ↓wx_mCallL, tab1_self, ↓wp_mAlloc, ↓wp_mNew, ↓wp_mDGet, ↓wp_mDIn, ↓wp_mDPut, ↓wp_mListK, ↓wp_mPopAt, ↓wp_mScIx, ↓wp_mScLen, ↓wp_mScSlice, Op.get, rs, RV.toD, stV, setW, gets, f1, fII, fAdd, fSub, fMul, fDiv, fMod, fLt, fLe, fGt, fGe, fNeg, asB, truD, isN, fIsN, fNotN, lenD, absD, PD.intD, max2_eq, min2_eq, min3D, listD, tupleD, ixD, isiD, PD.listAt, putAtL, Option.map_some, List.getElem?_cons_zero, List.getElem?_cons_succ, List.set_cons_zero, List.set_cons_succ, List.map_cons, List.map_nil, List.replicate_succ, List.replicate_zero, List.cons_append, List.nil_append, List.append_nil, List.length_cons, List.length_nil, List.length_map, if_true, if_false, Bool.not_true, Bool.not_false, Bool.false_eq_true, decide_true, decide_false, decide_eq_true_eq, and_true, true_and, and_self, reduceIte, Nat.reduceAdd, Nat.reduceSub, Nat.reduceLeDiff, Nat.reduceLT, Nat.reduceEqDiff, Int.reduceLT, Int.reduceLE, Option.isSome_some, Option.isSome_none, Bool.not_eq_true', Bool.if_true_left]
  refine Go.mk (@wpc_x _ O _ _ _ (fun _ => .int (numN p m)) (fun y => ⟨[], sto ++ [y]⟩) ?_ ?_)
  · refine on_ok f.sm 12 0 p.length m _ sto.length [] _ (rowI_all r) (by omega) new_at Tab.nil fun kvs' T => ?_
    rw [sl_all, new_set]
    exact ⟨_, rfl, rfl⟩
  · intro y
    simp only [↓wp_bnd, ↓wp_pure, ↓wp_mVar, ↓wp_oVar, ↓wp_oE, ↓wp_mFrz, ↓wp_mRV, ↓wp_m1, ↓wp_m2, ↓wp_mB, ↓wp_mChain, ↓wp_mAnd, ↓wp_mOr, ↓wp_mNot, ↓wp_mTru, ↓wp_mIf, ↓wp_mAndV, ↓wp_mOrV, ↓wp_mNotV, ↓wp_aNil, ↓wp_aCons, ↓wp_qNil, ↓wp_qCons, ↓wp_mA, ↓wp_mTup, ↓wp_mLst, ↓wp_mIsi, ↓wp_mPart, ↓wp_mSlice, ↓wp_mRg1, ↓wp_mRg2, ↓wp_mRgL, ↓wp_iRg, ↓wp_iLst, ↓wp_mApp, ↓wp_mSeq, ↓wp_mExpr, ↓wp_mRet, ↓wp_mSet, ↓wp_mAsg, ↓wp_mgName, ↓wp_mgNil, ↓wp_mgCons, ↓wp_mgTup, ↓wp_mgSub, ↓wp_mAug, ↓wp_mAugS, ↓wx_mFor, ↓wx_mLc, ↓wx_mCall, ↓wp_mFn, ↓wx_mCallL, tab1_self, ↓wp_mAlloc, ↓wp_mNew, ↓wp_mDGet, ↓wp_mDIn, ↓wp_mDPut, ↓wp_mListK, ↓wp_mPopAt, ↓wp_mScIx, ↓wp_mScLen, ↓wp_mScSlice, Op.get, rs, RV.toD, stV, setW, gets, f1, fII, fAdd, fSub, fMul, fDiv, fMod, fLt, fLe, fGt, fGe, fNeg, asB, truD, isN, fIsN, fNotN, lenD, absD, PD.intD, max2_eq, min2_eq, min3D, listD, tupleD, ixD, isiD, PD.listAt, putAtL, Option.map_some, List.getElem?_cons_zero, List.getElem?_cons_succ, List.set_cons_zero, List.set_cons_succ, List.map_cons, List.map_nil, List.replicate_succ, List.replicate_zero, List.cons_append, List.nil_append, List.append_nil, List.length_cons, List.length_nil, List.length_map, if_true, if_false, Bool.not_true, Bool.not_false, Bool.false_eq_true, decide_true, decide_false, decide_eq_true_eq, and_true, true_and, and_self, reduceIte, Nat.reduceAdd, Nat.reduceSub, Nat.reduceLeDiff, Nat.reduceLT, Nat.reduceEqDiff, Int.reduceLT, Int.reduceLE, Option.isSome_some, Option.isSome_none, Bool.not_eq_true', Bool.if_true_left]
    exact ⟨⟨_, rfl⟩⟩
theorem wp_same (a : Int) : wp (m_law_matches 2 [.int a, .int a]) ⟨[], sto⟩ fun d w' => d = .bl true ∧ w' = ⟨[], sto⟩ := by
  unfold m_law_matches
  simp only [↓wp_bnd, ↓wp_pure, ↓wp_mVar, ↓wp_oVar, ↓wp_oE, ↓wp_mFrz, ↓wp_mRV, ↓wp_m1, ↓wp_m2, ↓wp_mB, ↓wp_mChain, ↓wp_mAnd, ↓wp_mOr, ↓wp_mNot, ↓wp_mTru, ↓wp_mIf, ↓wp_mAndV, ↓wp_mOrV, ↓wp_mNotV, ↓wp_aNil, ↓wp_aCons, ↓wp_qNil, ↓wp_qCons, ↓wp_mA, ↓wp_mTup, ↓wp_mLst, ↓wp_mIsi, ↓wp_mPart, ↓wp_mSlice, ↓wp_mRg1, ↓wp_mRg2, ↓wp_mRgL, ↓wp_iRg, ↓wp_iLst, ↓wp_mApp, ↓wp_mSeq, ↓wp_mExpr, ↓wp_mRet, ↓wp_mSet, ↓wp_mAsg, ↓wp_mgName, ↓wp_mgNil, ↓wp_mgCons, ↓wp_mgTup, ↓wp_mgSub, ↓wp_mAug, ↓wp_mAugS, ↓wx_mFor, ↓wx_mLc, ↓wx_mCall, ↓wp_mFn, ↓wx_mCallL, tab1_self, ↓wp_mAlloc, ↓wp_mNew, ↓wp_mDGet, ↓wp_mDIn, ↓wp_mDPut, ↓wp_mListK, ↓wp_mPopAt, ↓wp_mScIx, ↓wp_mScLen, ↓wp_mScSlice, Op.get, rs, RV.toD, stV, setW, gets, f1, fII, fAdd, fSub, fMul, fDiv, fMod, fLt, fLe, fGt, fGe, fNeg, asB, truD, isN, fIsN, fNotN, lenD, absD, PD.intD, max2_eq, min2_eq, min3D, listD, tupleD, ixD, isiD, PD.listAt, putAtL, Option.map_some, List.getElem?_cons_zero, List.getElem?_cons_succ, List.set_cons_zero, List.set_cons_succ, List.map_cons, List.map_nil, List.replicate_succ, List.replicate_zero, List.cons_append, List.nil_append, List.append_nil, List.length_cons, List.length_nil, List.length_map, if_true, if_false, Bool.not_true, Bool.not_false, Bool.false_eq_true, decide_true, decide_false, decide_eq_true_eq, and_true, true_and, and_self, reduceIte, Nat.reduceAdd, Nat.reduceSub, Nat.reduceLeDiff, Nat.reduceLT, Nat.reduceEqDiff, Int.reduceLT, Int.reduceLE, Option.isSome_some, Option.isSome_none, Bool.not_eq_true', Bool.if_true_left, fEq_int]
theorem wp_opener (ad : Str → Addr) : wp (m_built_opener ad []) ⟨[], sto⟩ fun d w' => d = .lst [.ref (ad "opener_opens"), .ref (ad "built_acts"), .ref (ad "opener_told")] ∧ w' = ⟨[], sto⟩ := by
  unfold m_built_opener
  simp only [↓wp_bnd, ↓wp_pure, ↓wp_mVar, ↓wp_oVar, ↓wp_oE, ↓wp_mFrz, ↓wp_mRV, ↓wp_m1, ↓wp_m2, ↓wp_mB, ↓wp_mChain, ↓wp_mAnd, ↓wp_mOr, ↓wp_mNot, ↓wp_mTru, ↓wp_mIf, ↓wp_mAndV, ↓wp_mOrV, ↓wp_mNotV, ↓wp_aNil, ↓wp_aCons, ↓wp_qNil, ↓wp_qCons, ↓wp_mA, ↓wp_mTup, ↓wp_mLst, ↓wp_mIsi, ↓wp_mPart, ↓wp_mSlice, ↓wp_mRg1, ↓wp_mRg2, ↓wp_mRgL, ↓wp_iRg, ↓wp_iLst, ↓wp_mApp, ↓wp_mSeq, ↓wp_mExpr, ↓wp_mRet, ↓wp_mSet, ↓wp_mAsg, ↓wp_mgName, ↓wp_mgNil, ↓wp_mgCons, ↓wp_mgTup, ↓wp_mgSub, ↓wp_mAug, ↓wp_mAugS, ↓wx_mFor, ↓wx_mLc, ↓wx_mCall, ↓wp_mFn, ↓wx_mCallL, tab1_self, ↓wp_mAlloc, ↓wp_mNew, ↓wp_mDGet, ↓wp_mDIn, ↓wp_mDPut, ↓wp_mListK, ↓wp_mPopAt, ↓wp_mScIx, ↓wp_mScLen, ↓wp_mScSlice, Op.get, rs, RV.toD, stV, setW, gets, f1, fII, fAdd, fSub, fMul, fDiv, fMod, fLt, fLe, fGt, fGe, fNeg, asB, truD, isN, fIsN, fNotN, lenD, absD, PD.intD, max2_eq, min2_eq, min3D, listD, tupleD, ixD, isiD, PD.listAt, putAtL, Option.map_some, List.getElem?_cons_zero, List.getElem?_cons_succ, List.set_cons_zero, List.set_cons_succ, List.map_cons, List.map_nil, List.replicate_succ, List.replicate_zero, List.cons_append, List.nil_append, List.append_nil, List.length_cons, List.length_nil, List.length_map, if_true, if_false, Bool.not_true, Bool.not_false, Bool.false_eq_true, decide_true, decide_false, decide_eq_true_eq, and_true, true_and, and_self, reduceIte, Nat.reduceAdd, Nat.reduceSub, Nat.reduceLeDiff, Nat.reduceLT, Nat.reduceEqDiff, Int.reduceLT, Int.reduceLE, Option.isSome_some, Option.isSome_none, Bool.not_eq_true', Bool.if_true_left]
theorem wp_opening (s : Sm p) (r : Row p m) (hl : p.length ≤ 12) : wp (m_law_opening 12 [DI p, .int m, .o sto.length]) ⟨[], sto ++ [.dn []]⟩ fun d w' => ∃ y : O, d = .int (numN p m) ∧ w' = ⟨[], sto ++ [y]⟩ := by
  have := opening_ok s 12 0 p.length m (sto ++ [.dn []]) sto.length [] (rowI_all r) (by omega) new_at Tab.nil
  rw [sl_all] at this
  refine wp_mono this ?_
  rintro a w' ⟨i, rfl, rfl⟩
  exact ⟨_, rfl, by rw [new_set]⟩
theorem pow18 : fPow (.int 10) (.int 18) = some (.d (.int 1000000000000000000)) := by rfl
theorem wp_purse (sa : Addr) : wp (m_law_purse sa ns [.ref sa, .int 0]) ⟨[], sto⟩ fun d w' => ∃ y : { y : O // Pu (sto ++ [y]) sto.length }, d = .o sto.length ∧ w' = ⟨[], sto ++ [y.1]⟩ := by
  have fin : ∀ a b c : Int, 0 ≤ a → Pu (sto ++ [O.lst [.int a, .int b, .int c]]) sto.length := fun a b c h => ⟨a, b, c, h, new_at⟩
  have n1 : (-(2 ^ 64) < (2 : Int) ∧ (2 : Int) < 2 ^ 64) := by decide
  have n2 : (-(2 ^ 64) < (104729 : Int) ∧ (104729 : Int) < 2 ^ 64) := by decide
  have n3 : (-(2 ^ 64) < (31 : Int) ∧ (31 : Int) < 2 ^ 64) := by decide
  have sz : ∀ n : Int, ∃ a : Int, (if n < 0 then -n else n) = a ∧ 0 ≤ a := fun n => by
    by_cases z : n < 0
    · exact ⟨-n, if_pos z, by omega⟩
    · exact ⟨n, if_neg z, by omega⟩
  unfold m_law_purse
  cases ns with
  | nil =>
    simp only [↓wp_bnd, ↓wp_pure, ↓wp_mVar, ↓wp_oVar, ↓wp_oE, ↓wp_mFrz, ↓wp_mRV, ↓wp_m1, ↓wp_m2, ↓wp_mB, ↓wp_mChain, ↓wp_mAnd, ↓wp_mOr, ↓wp_mNot, ↓wp_mTru, ↓wp_mIf, ↓wp_mAndV, ↓wp_mOrV, ↓wp_mNotV, ↓wp_aNil, ↓wp_aCons, ↓wp_qNil, ↓wp_qCons, ↓wp_mA, ↓wp_mTup, ↓wp_mLst, ↓wp_mIsi, ↓wp_mPart, ↓wp_mSlice, ↓wp_mRg1, ↓wp_mRg2, ↓wp_mRgL, ↓wp_iRg, ↓wp_iLst, ↓wp_mApp, ↓wp_mSeq, ↓wp_mExpr, ↓wp_mRet, ↓wp_mSet, ↓wp_mAsg, ↓wp_mgName, ↓wp_mgNil, ↓wp_mgCons, ↓wp_mgTup, ↓wp_mgSub, ↓wp_mAug, ↓wp_mAugS, ↓wx_mFor, ↓wx_mLc, ↓wx_mCall, ↓wp_mFn, ↓wx_mCallL, tab1_self, ↓wp_mAlloc, ↓wp_mNew, ↓wp_mDGet, ↓wp_mDIn, ↓wp_mDPut, ↓wp_mListK, ↓wp_mPopAt, ↓wp_mScIx, ↓wp_mScLen, ↓wp_mScSlice, Op.get, rs, RV.toD, stV, setW, gets, f1, fII, fAdd, fSub, fMul, fDiv, fMod, fLt, fLe, fGt, fGe, fNeg, asB, truD, isN, fIsN, fNotN, lenD, absD, PD.intD, max2_eq, min2_eq, min3D, listD, tupleD, ixD, isiD, PD.listAt, putAtL, Option.map_some, List.getElem?_cons_zero, List.getElem?_cons_succ, List.set_cons_zero, List.set_cons_succ, List.map_cons, List.map_nil, List.replicate_succ, List.replicate_zero, List.cons_append, List.nil_append, List.append_nil, List.length_cons, List.length_nil, List.length_map, if_true, if_false, Bool.not_true, Bool.not_false, Bool.false_eq_true, decide_true, decide_false, decide_eq_true_eq, and_true, true_and, and_self, reduceIte, Nat.reduceAdd, Nat.reduceSub, Nat.reduceLeDiff, Nat.reduceLT, Nat.reduceEqDiff, Int.reduceLT, Int.reduceLE, Option.isSome_some, Option.isSome_none, Bool.not_eq_true', Bool.if_true_left, scLenD, show ((0 : Int) < ((0 : Nat) : Int)) = False by simp]
    refine @wpl_x { e : List SV // wipeE e [4] = [SV.d (.ref sa), SV.d (.int 0), SV.un, SV.un, SV.un] } _ _ _ _ _ _ (fun _ => []) (fun z => ⟨z.1, sto⟩) ?_ ?_
    · show wp (lcD _ _ _ [] []) _ _
      exact ⟨⟨_, rfl⟩, rfl, rfl⟩
    · rintro ⟨e9, he9⟩
      have hb : backE [SV.d (.ref sa), SV.d (.int 0), SV.un, SV.un, SV.un] e9 [4] = [SV.d (.ref sa), SV.d (.int 0), SV.un, SV.un, SV.un] := he9
      simp only [↓wp_bnd, ↓wp_pure, ↓wp_mVar, ↓wp_oVar, ↓wp_oE, ↓wp_mFrz, ↓wp_mRV, ↓wp_m1, ↓wp_m2, ↓wp_mB, ↓wp_mChain, ↓wp_mAnd, ↓wp_mOr, ↓wp_mNot, ↓wp_mTru, ↓wp_mIf, ↓wp_mAndV, ↓wp_mOrV, ↓wp_mNotV, ↓wp_aNil, ↓wp_aCons, ↓wp_qNil, ↓wp_qCons, ↓wp_mA, ↓wp_mTup, ↓wp_mLst, ↓wp_mIsi, ↓wp_mPart, ↓wp_mSlice, ↓wp_mRg1, ↓wp_mRg2, ↓wp_mRgL, ↓wp_iRg, ↓wp_iLst, ↓wp_mApp, ↓wp_mSeq, ↓wp_mExpr, ↓wp_mRet, ↓wp_mSet, ↓wp_mAsg, ↓wp_mgName, ↓wp_mgNil, ↓wp_mgCons, ↓wp_mgTup, ↓wp_mgSub, ↓wp_mAug, ↓wp_mAugS, ↓wx_mFor, ↓wx_mLc, ↓wx_mCall, ↓wp_mFn, ↓wx_mCallL, tab1_self, ↓wp_mAlloc, ↓wp_mNew, ↓wp_mDGet, ↓wp_mDIn, ↓wp_mDPut, ↓wp_mListK, ↓wp_mPopAt, ↓wp_mScIx, ↓wp_mScLen, ↓wp_mScSlice, Op.get, rs, RV.toD, stV, setW, gets, f1, fII, fAdd, fSub, fMul, fDiv, fMod, fLt, fLe, fGt, fGe, fNeg, asB, truD, isN, fIsN, fNotN, lenD, absD, PD.intD, max2_eq, min2_eq, min3D, listD, tupleD, ixD, isiD, PD.listAt, putAtL, Option.map_some, List.getElem?_cons_zero, List.getElem?_cons_succ, List.set_cons_zero, List.set_cons_succ, List.map_cons, List.map_nil, List.replicate_succ, List.replicate_zero, List.cons_append, List.nil_append, List.append_nil, List.length_cons, List.length_nil, List.length_map, if_true, if_false, Bool.not_true, Bool.not_false, Bool.false_eq_true, decide_true, decide_false, decide_eq_true_eq, and_true, true_and, and_self, reduceIte, Nat.reduceAdd, Nat.reduceSub, Nat.reduceLeDiff, Nat.reduceLT, Nat.reduceEqDiff, Int.reduceLT, Int.reduceLE, Option.isSome_some, Option.isSome_none, Bool.not_eq_true', Bool.if_true_left, hb, show sumD (.lst []) = some (.d (.int 0)) from rfl, mul_ok' (i := 31) n3, mul_ok' (i := 2) n1, mul_ok (j := 104729) n2, pow18, Int.mul_zero, Int.lt_irrefl, Int.add_zero, Int.zero_mul, show ¬ ((1000000000000000000 : Int) ≤ 0) by decide, show (0 : Int) < 2147483629 by decide]
      exact ⟨⟨⟨.lst [.int 0, .int _, .int 0], fin 0 _ 0 (by omega)⟩, rfl⟩⟩
  | cons n0 ns =>
    have h0 : atI (n0 :: ns) 0 = some n0 := by
      unfold atI ixN
      rw [if_pos (Int.le_refl _), if_pos (by rw [List.length_cons]; omega)]
      rfl
    by_cases z : n0 < 0
    · by_cases z2 : 1000000000000000000 ≤ 2 * -n0 + 1
      · simp only [↓wp_bnd, ↓wp_pure, ↓wp_mVar, ↓wp_oVar, ↓wp_oE, ↓wp_mFrz, ↓wp_mRV, ↓wp_m1, ↓wp_m2, ↓wp_mB, ↓wp_mChain, ↓wp_mAnd, ↓wp_mOr, ↓wp_mNot, ↓wp_mTru, ↓wp_mIf, ↓wp_mAndV, ↓wp_mOrV, ↓wp_mNotV, ↓wp_aNil, ↓wp_aCons, ↓wp_qNil, ↓wp_qCons, ↓wp_mA, ↓wp_mTup, ↓wp_mLst, ↓wp_mIsi, ↓wp_mPart, ↓wp_mSlice, ↓wp_mRg1, ↓wp_mRg2, ↓wp_mRgL, ↓wp_iRg, ↓wp_iLst, ↓wp_mApp, ↓wp_mSeq, ↓wp_mExpr, ↓wp_mRet, ↓wp_mSet, ↓wp_mAsg, ↓wp_mgName, ↓wp_mgNil, ↓wp_mgCons, ↓wp_mgTup, ↓wp_mgSub, ↓wp_mAug, ↓wp_mAugS, ↓wx_mFor, ↓wx_mLc, ↓wx_mCall, ↓wp_mFn, ↓wx_mCallL, tab1_self, ↓wp_mAlloc, ↓wp_mNew, ↓wp_mDGet, ↓wp_mDIn, ↓wp_mDPut, ↓wp_mListK, ↓wp_mPopAt, ↓wp_mScIx, ↓wp_mScLen, ↓wp_mScSlice, Op.get, rs, RV.toD, stV, setW, gets, f1, fII, fAdd, fSub, fMul, fDiv, fMod, fLt, fLe, fGt, fGe, fNeg, asB, truD, isN, fIsN, fNotN, lenD, absD, PD.intD, max2_eq, min2_eq, min3D, listD, tupleD, ixD, isiD, PD.listAt, putAtL, Option.map_some, List.getElem?_cons_zero, List.getElem?_cons_succ, List.set_cons_zero, List.set_cons_succ, List.map_cons, List.map_nil, List.replicate_succ, List.replicate_zero, List.cons_append, List.nil_append, List.append_nil, List.length_cons, List.length_nil, List.length_map, if_true, if_false, Bool.not_true, Bool.not_false, Bool.false_eq_true, decide_true, decide_false, decide_eq_true_eq, and_true, true_and, and_self, reduceIte, Nat.reduceAdd, Nat.reduceSub, Nat.reduceLeDiff, Nat.reduceLT, Nat.reduceEqDiff, Int.reduceLT, Int.reduceLE, Option.isSome_some, Option.isSome_none, Bool.not_eq_true', Bool.if_true_left, scLenD, scIxD, show ((0 : Int) < ((ns.length + 1 : Nat) : Int)) = True by simp, h0, z, z2, mul_ok' (i := 2) n1, mul_ok (j := 104729) n2, pow18, Int.zero_mul, Int.add_zero, show (0 : Int) < 2147483629 by decide]
        exact ⟨⟨.lst [.int (2 * -n0 + 1), .int _, .int 0], fin _ _ 0 (by omega)⟩, rfl⟩
      · simp only [↓wp_bnd, ↓wp_pure, ↓wp_mVar, ↓wp_oVar, ↓wp_oE, ↓wp_mFrz, ↓wp_mRV, ↓wp_m1, ↓wp_m2, ↓wp_mB, ↓wp_mChain, ↓wp_mAnd, ↓wp_mOr, ↓wp_mNot, ↓wp_mTru, ↓wp_mIf, ↓wp_mAndV, ↓wp_mOrV, ↓wp_mNotV, ↓wp_aNil, ↓wp_aCons, ↓wp_qNil, ↓wp_qCons, ↓wp_mA, ↓wp_mTup, ↓wp_mLst, ↓wp_mIsi, ↓wp_mPart, ↓wp_mSlice, ↓wp_mRg1, ↓wp_mRg2, ↓wp_mRgL, ↓wp_iRg, ↓wp_iLst, ↓wp_mApp, ↓wp_mSeq, ↓wp_mExpr, ↓wp_mRet, ↓wp_mSet, ↓wp_mAsg, ↓wp_mgName, ↓wp_mgNil, ↓wp_mgCons, ↓wp_mgTup, ↓wp_mgSub, ↓wp_mAug, ↓wp_mAugS, ↓wx_mFor, ↓wx_mLc, ↓wx_mCall, ↓wp_mFn, ↓wx_mCallL, tab1_self, ↓wp_mAlloc, ↓wp_mNew, ↓wp_mDGet, ↓wp_mDIn, ↓wp_mDPut, ↓wp_mListK, ↓wp_mPopAt, ↓wp_mScIx, ↓wp_mScLen, ↓wp_mScSlice, Op.get, rs, RV.toD, stV, setW, gets, f1, fII, fAdd, fSub, fMul, fDiv, fMod, fLt, fLe, fGt, fGe, fNeg, asB, truD, isN, fIsN, fNotN, lenD, absD, PD.intD, max2_eq, min2_eq, min3D, listD, tupleD, ixD, isiD, PD.listAt, putAtL, Option.map_some, List.getElem?_cons_zero, List.getElem?_cons_succ, List.set_cons_zero, List.set_cons_succ, List.map_cons, List.map_nil, List.replicate_succ, List.replicate_zero, List.cons_append, List.nil_append, List.append_nil, List.length_cons, List.length_nil, List.length_map, if_true, if_false, Bool.not_true, Bool.not_false, Bool.false_eq_true, decide_true, decide_false, decide_eq_true_eq, and_true, true_and, and_self, reduceIte, Nat.reduceAdd, Nat.reduceSub, Nat.reduceLeDiff, Nat.reduceLT, Nat.reduceEqDiff, Int.reduceLT, Int.reduceLE, Option.isSome_some, Option.isSome_none, Bool.not_eq_true', Bool.if_true_left, scLenD, scIxD, show ((0 : Int) < ((ns.length + 1 : Nat) : Int)) = True by simp, h0, z, z2, mul_ok' (i := 2) n1, mul_ok (j := 104729) n2, pow18, Int.zero_mul, Int.add_zero, show (0 : Int) < 2147483629 by decide]
        exact ⟨⟨.lst [.int 0, .int _, .int 0], fin 0 _ 0 (by omega)⟩, rfl⟩
    · by_cases z2 : 1000000000000000000 ≤ 2 * n0
      · simp only [↓wp_bnd, ↓wp_pure, ↓wp_mVar, ↓wp_oVar, ↓wp_oE, ↓wp_mFrz, ↓wp_mRV, ↓wp_m1, ↓wp_m2, ↓wp_mB, ↓wp_mChain, ↓wp_mAnd, ↓wp_mOr, ↓wp_mNot, ↓wp_mTru, ↓wp_mIf, ↓wp_mAndV, ↓wp_mOrV, ↓wp_mNotV, ↓wp_aNil, ↓wp_aCons, ↓wp_qNil, ↓wp_qCons, ↓wp_mA, ↓wp_mTup, ↓wp_mLst, ↓wp_mIsi, ↓wp_mPart, ↓wp_mSlice, ↓wp_mRg1, ↓wp_mRg2, ↓wp_mRgL, ↓wp_iRg, ↓wp_iLst, ↓wp_mApp, ↓wp_mSeq, ↓wp_mExpr, ↓wp_mRet, ↓wp_mSet, ↓wp_mAsg, ↓wp_mgName, ↓wp_mgNil, ↓wp_mgCons, ↓wp_mgTup, ↓wp_mgSub, ↓wp_mAug, ↓wp_mAugS, ↓wx_mFor, ↓wx_mLc, ↓wx_mCall, ↓wp_mFn, ↓wx_mCallL, tab1_self, ↓wp_mAlloc, ↓wp_mNew, ↓wp_mDGet, ↓wp_mDIn, ↓wp_mDPut, ↓wp_mListK, ↓wp_mPopAt, ↓wp_mScIx, ↓wp_mScLen, ↓wp_mScSlice, Op.get, rs, RV.toD, stV, setW, gets, f1, fII, fAdd, fSub, fMul, fDiv, fMod, fLt, fLe, fGt, fGe, fNeg, asB, truD, isN, fIsN, fNotN, lenD, absD, PD.intD, max2_eq, min2_eq, min3D, listD, tupleD, ixD, isiD, PD.listAt, putAtL, Option.map_some, List.getElem?_cons_zero, List.getElem?_cons_succ, List.set_cons_zero, List.set_cons_succ, List.map_cons, List.map_nil, List.replicate_succ, List.replicate_zero, List.cons_append, List.nil_append, List.append_nil, List.length_cons, List.length_nil, List.length_map, if_true, if_false, Bool.not_true, Bool.not_false, Bool.false_eq_true, decide_true, decide_false, decide_eq_true_eq, and_true, true_and, and_self, reduceIte, Nat.reduceAdd, Nat.reduceSub, Nat.reduceLeDiff, Nat.reduceLT, Nat.reduceEqDiff, Int.reduceLT, Int.reduceLE, Option.isSome_some, Option.isSome_none, Bool.not_eq_true', Bool.if_true_left, scLenD, scIxD, show ((0 : Int) < ((ns.length + 1 : Nat) : Int)) = True by simp, h0, z, z2, mul_ok' (i := 2) n1, mul_ok (j := 104729) n2, pow18, Int.zero_mul, Int.add_zero, show (0 : Int) < 2147483629 by decide]
        exact ⟨⟨.lst [.int (2 * n0), .int _, .int 0], fin _ _ 0 (by omega)⟩, rfl⟩
      · simp only [↓wp_bnd, ↓wp_pure, ↓wp_mVar, ↓wp_oVar, ↓wp_oE, ↓wp_mFrz, ↓wp_mRV, ↓wp_m1, ↓wp_m2, ↓wp_mB, ↓wp_mChain, ↓wp_mAnd, ↓wp_mOr, ↓wp_mNot, ↓wp_mTru, ↓wp_mIf, ↓wp_mAndV, ↓wp_mOrV, ↓wp_mNotV, ↓wp_aNil, ↓wp_aCons, ↓wp_qNil, ↓wp_qCons, ↓wp_mA, ↓wp_mTup, ↓wp_mLst, ↓wp_mIsi, ↓wp_mPart, ↓wp_mSlice, ↓wp_mRg1, ↓wp_mRg2, ↓wp_mRgL, ↓wp_iRg, ↓wp_iLst, ↓wp_mApp, ↓wp_mSeq, ↓wp_mExpr, ↓wp_mRet, ↓wp_mSet, ↓wp_mAsg, ↓wp_mgName, ↓wp_mgNil, ↓wp_mgCons, ↓wp_mgTup, ↓wp_mgSub, ↓wp_mAug, ↓wp_mAugS, ↓wx_mFor, ↓wx_mLc, ↓wx_mCall, ↓wp_mFn, ↓wx_mCallL, tab1_self, ↓wp_mAlloc, ↓wp_mNew, ↓wp_mDGet, ↓wp_mDIn, ↓wp_mDPut, ↓wp_mListK, ↓wp_mPopAt, ↓wp_mScIx, ↓wp_mScLen, ↓wp_mScSlice, Op.get, rs, RV.toD, stV, setW, gets, f1, fII, fAdd, fSub, fMul, fDiv, fMod, fLt, fLe, fGt, fGe, fNeg, asB, truD, isN, fIsN, fNotN, lenD, absD, PD.intD, max2_eq, min2_eq, min3D, listD, tupleD, ixD, isiD, PD.listAt, putAtL, Option.map_some, List.getElem?_cons_zero, List.getElem?_cons_succ, List.set_cons_zero, List.set_cons_succ, List.map_cons, List.map_nil, List.replicate_succ, List.replicate_zero, List.cons_append, List.nil_append, List.append_nil, List.length_cons, List.length_nil, List.length_map, if_true, if_false, Bool.not_true, Bool.not_false, Bool.false_eq_true, decide_true, decide_false, decide_eq_true_eq, and_true, true_and, and_self, reduceIte, Nat.reduceAdd, Nat.reduceSub, Nat.reduceLeDiff, Nat.reduceLT, Nat.reduceEqDiff, Int.reduceLT, Int.reduceLE, Option.isSome_some, Option.isSome_none, Bool.not_eq_true', Bool.if_true_left, scLenD, scIxD, show ((0 : Int) < ((ns.length + 1 : Nat) : Int)) = True by simp, h0, z, z2, mul_ok' (i := 2) n1, mul_ok (j := 104729) n2, pow18, Int.zero_mul, Int.add_zero, show (0 : Int) < 2147483629 by decide]
        exact ⟨⟨.lst [.int 0, .int _, .int 0], fin 0 _ 0 (by omega)⟩, rfl⟩
end
end K73

set_option maxHeartbeats 1000000
namespace K73
open PySem PySem.Spec PyProof.Rows L2 PD
section
variable {p : List Int} {m : Int} {y : O} {rest : List O} {ns : List Int}
/-- the purse stands first in the store -/
def PuO (y : O) : Prop := ∃ a b c : Int, 0 ≤ a ∧ y = .lst [.int a, .int b, .int c]
theorem PuO.pu (h : PuO y) : Pu (y :: rest) 0 := by
  obtain ⟨a, b, c, h0, rfl⟩ := h
  exact ⟨a, b, c, h0, rfl⟩
theorem PuO.of (h : Pu (y :: rest) 0) : PuO y := by
  obtain ⟨a, b, c, h0, h1⟩ := h
  exact ⟨a, b, c, h0, Option.some.inj h1⟩
theorem draw0 {many : Int} (h : PuO y) (h0 : 0 < many) (h1 : many ≤ 1000) : wp (m_law_draw [.o 0, .int many]) ⟨[], y :: rest⟩ fun d w' => ∃ i : { i : Int × O // PuO i.2 ∧ 0 ≤ i.1 ∧ i.1 < many }, d = .int i.1.1 ∧ w' = ⟨[], i.1.2 :: rest⟩ :=
  wp_mono (wp_drawI h.pu h0 h1) fun d w' ⟨i, e⟩ => ⟨⟨(i.1.1, i.1.2), PuO.of (rest := rest) i.2.1, i.2.2⟩, e⟩
theorem small0 (h : PuO y) : wp (m_law_small_row [.o 0]) ⟨[], y :: rest⟩ fun d w' => ∃ i : { i : List Int × O // Few i.1 ∧ i.1.length ≤ 4 ∧ PuO i.2 }, d = DI i.1.1 ∧ w' = ⟨[], i.1.2 :: rest⟩ :=
  wp_mono (wp_small h.pu) fun d w' ⟨i, e⟩ => ⟨⟨(i.1.1, i.1.2), i.2.1, i.2.2.1, PuO.of (rest := rest) i.2.2.2⟩, e⟩
theorem drawn0 (h : PuO y) (s : Sm p) (r : Row p m) : wp (m_law_drawn_takings [.o 0, DI p, .int m]) ⟨[], y :: rest⟩ fun d w' => ∃ i : { i : List Int × O // Tk p m i.1 ∧ PuO i.2 }, d = DI i.1.1 ∧ w' = ⟨[], i.1.2 :: rest⟩ :=
  wp_mono (wp_drawn h.pu s r) fun d w' ⟨i, e⟩ => ⟨⟨(i.1.1, i.1.2), i.2.1, PuO.of (rest := rest) i.2.2⟩, e⟩
theorem records0 (ad : Str → Addr) {t : List Int} (s : Sm p) (T : Tk p m t) (m1 : 1 ≤ m) : wp (m_law_records ad [.lst [.ref (ad "opener_opens"), .ref (ad "built_acts"), .ref (ad "opener_told")], DI p, .int m, DI t]) ⟨[], y :: rest⟩ fun d w' => ∃ rs : List O, d = .int (play p m (pre t) (p.length + 1) []) ∧ w' = ⟨[], y :: rs⟩ :=
  wp_records ad s T m1 fun ext => ⟨rest ++ ext, rfl, rfl⟩
theorem opening0 (s : Sm p) (r : Row p m) (hl : p.length ≤ 12) : wp (m_law_opening 12 [DI p, .int m, .o (rest.length + 1)]) ⟨[], y :: (rest ++ [.dn []])⟩ fun d w' => ∃ rs : List O, d = .int (numN p m) ∧ w' = ⟨[], y :: rs⟩ :=
  wp_mono (wp_opening (sto := y :: rest) s r hl) fun d w' ⟨o, e⟩ => ⟨rest ++ [o], e⟩
theorem due0 (f : Few p) (r : Row p m) : wp (m_openings_due [DI p, .int m]) ⟨[], y :: rest⟩ fun d w' => ∃ rs : List O, d = .int (numN p m) ∧ w' = ⟨[], y :: rs⟩ :=
  wp_mono (wp_due (sto := y :: rest) f r) fun d w' ⟨o, e⟩ => ⟨rest ++ [o], e⟩
theorem purse0 (sa : Addr) : wp (m_law_purse sa ns [.ref sa, .int 0]) ⟨[], []⟩ fun d w' => ∃ y : { y : O // PuO y }, d = .o 0 ∧ w' = ⟨[], [y.1]⟩ :=
  wp_mono (wp_purse (sto := []) sa) fun d w' ⟨i, e⟩ => ⟨⟨i.1, PuO.of (rest := []) i.2⟩, e⟩
/-- the play's number -/
theorem play_num {t : List Int} (T : Tk p m t) (nn : ∀ x ∈ p, 0 ≤ x) (r : Row p m) : play p m (pre t) (p.length + 1) [] ≤ numN p m := by
  have I := T.inv (C := []) nn r.lo List.nodup_nil (fun c h => by cases h)
  have h2 : play p m (pre t) (p.length + 1) [] ≤ ((0 : Nat) : Int) + numN p m := play_le T (p.length + 1) I (act_nil nn r)
  omega
theorem worst_num (nn : ∀ x ∈ p, 0 ≤ x) (r : Row p m) {F : List (List Int)} (hF : ∀ t, t ∈ F ↔ Tk p m t) : F.foldl (fun w t => imax w (play p m (pre t) (p.length + 1) [])) 0 = numN p m := by
  have hm := maxB_spec (fun t => play p m (pre t) (p.length + 1) []) F
  have h1 : maxB (fun t => play p m (pre t) (p.length + 1) []) F ≤ numN p m := by
    rcases hm.2.2 with h | ⟨t, ht, h⟩
    · rw [h]; exact numN_nonneg _ _
    · rw [← h]; exact play_num ((hF t).mp ht) nn r
  have n0 : 0 < p.length := Nat.pos_of_ne_zero fun z => r.ne (List.length_eq_zero_iff.mp z)
  have I : Inv p m (fun c => if c = 0 then 0 else m) [] := ⟨nn, List.nodup_nil, (fun c h => by cases h), rfl, if_neg (by omega), r.lo, fun a b hab => by
    obtain ⟨g1, g2, g3, _⟩ := hab
    rcases g1 with g1 | g1
    · rcases g2 with g2 | g2
      · cases g2
      · subst g1 g2
        rw [if_pos rfl, if_neg (by omega), sl_all]
        have := r.lo
        have := r.hi
        omega
    · cases g1⟩
  obtain ⟨t, T, _, h2⟩ := foe (p.length + 1) I (act_nil nn r) (by
    have := numN_le p.length p m (Nat.le_refl _) r
    show numN p m < _
    omega)
  have h3 := hm.2.1 t ((hF t).mpr T)
  have h4 : ((0 : Nat) : Int) + numN p m ≤ play p m (pre t) (p.length + 1) [] := h2
  have h5 : play p m (pre t) (p.length + 1) [] ≤ maxB (fun t => play p m (pre t) (p.length + 1) []) F := h3
  show maxB (fun t => play p m (pre t) (p.length + 1) []) F = _
  omega
abbrev opn (ad : Str → Addr) : D := .lst [.ref (ad "opener_opens"), .ref (ad "built_acts"), .ref (ad "opener_told")]
set_option maxHeartbeats 0 in
theorem law_wp (ad : Str → Addr) (sa : Addr) (ns : List Int) : wp (m_law ad sa ns [.ref sa]) ⟨[], []⟩ fun d _ => d = .bl true := by
  unfold m_law
  simp only [↓wp_bnd, ↓wp_pure, ↓wp_mVar, ↓wp_oVar, ↓wp_oE, ↓wp_mFrz, ↓wp_mRV, ↓wp_m1, ↓wp_m2, ↓wp_mB, ↓wp_mChain, ↓wp_mAnd, ↓wp_mOr, ↓wp_mNot, ↓wp_mTru, ↓wp_mIf, ↓wp_mAndV, ↓wp_mOrV, ↓wp_mNotV, ↓wp_aNil, ↓wp_aCons, ↓wp_qNil, ↓wp_qCons, ↓wp_mA, ↓wp_mTup, ↓wp_mLst, ↓wp_mIsi, ↓wp_mPart, ↓wp_mSlice, ↓wp_mRg1, ↓wp_mRg2, ↓wp_mRgL, ↓wp_iRg, ↓wp_iLst, ↓wp_mApp, ↓wp_mSeq, ↓wp_mExpr, ↓wp_mRet, ↓wp_mSet, ↓wp_mAsg, ↓wp_mgName, ↓wp_mgNil, ↓wp_mgCons, ↓wp_mgTup, ↓wp_mgSub, ↓wp_mAug, ↓wp_mAugS, ↓wx_mFor, ↓wx_mLc, ↓wx_mCall, ↓wp_mFn, ↓wx_mCallL, tab1_self, ↓wp_mAlloc, ↓wp_mNew, ↓wp_mDGet, ↓wp_mDIn, ↓wp_mDPut, ↓wp_mListK, ↓wp_mPopAt, ↓wp_mScIx, ↓wp_mScLen, ↓wp_mScSlice, Op.get, rs, RV.toD, stV, setW, gets, f1, fII, fAdd, fSub, fMul, fDiv, fMod, fLt, fLe, fGt, fGe, fNeg, asB, truD, isN, fIsN, fNotN, lenD, absD, PD.intD, max2_eq, min2_eq, min3D, listD, tupleD, ixD, isiD, PD.listAt, putAtL, Option.map_some, List.getElem?_cons_zero, List.getElem?_cons_succ, List.set_cons_zero, List.set_cons_succ, List.map_cons, List.map_nil, List.replicate_succ, List.replicate_zero, List.cons_append, List.nil_append, List.append_nil, List.length_cons, List.length_nil, List.length_map, if_true, if_false, Bool.not_true, Bool.not_false, Bool.false_eq_true, decide_true, decide_false, decide_eq_true_eq, and_true, true_and, and_self, reduceIte, Nat.reduceAdd, Nat.reduceSub, Nat.reduceLeDiff, Nat.reduceLT, Nat.reduceEqDiff, Int.reduceLT, Int.reduceLE, Option.isSome_some, Option.isSome_none, Bool.not_eq_true', Bool.if_true_left]
  refine @wpc_x _ { y : O // PuO y } _ _ _ (fun _ => .o 0) (fun y => ⟨[], [y.1]⟩) (purse0 sa) ?_
  rintro ⟨y0, hy0⟩
  simp only [↓wp_bnd, ↓wp_pure, ↓wp_mVar, ↓wp_oVar, ↓wp_oE, ↓wp_mFrz, ↓wp_mRV, ↓wp_m1, ↓wp_m2, ↓wp_mB, ↓wp_mChain, ↓wp_mAnd, ↓wp_mOr, ↓wp_mNot, ↓wp_mTru, ↓wp_mIf, ↓wp_mAndV, ↓wp_mOrV, ↓wp_mNotV, ↓wp_aNil, ↓wp_aCons, ↓wp_qNil, ↓wp_qCons, ↓wp_mA, ↓wp_mTup, ↓wp_mLst, ↓wp_mIsi, ↓wp_mPart, ↓wp_mSlice, ↓wp_mRg1, ↓wp_mRg2, ↓wp_mRgL, ↓wp_iRg, ↓wp_iLst, ↓wp_mApp, ↓wp_mSeq, ↓wp_mExpr, ↓wp_mRet, ↓wp_mSet, ↓wp_mAsg, ↓wp_mgName, ↓wp_mgNil, ↓wp_mgCons, ↓wp_mgTup, ↓wp_mgSub, ↓wp_mAug, ↓wp_mAugS, ↓wx_mFor, ↓wx_mLc, ↓wx_mCall, ↓wp_mFn, ↓wx_mCallL, tab1_self, ↓wp_mAlloc, ↓wp_mNew, ↓wp_mDGet, ↓wp_mDIn, ↓wp_mDPut, ↓wp_mListK, ↓wp_mPopAt, ↓wp_mScIx, ↓wp_mScLen, ↓wp_mScSlice, Op.get, rs, RV.toD, stV, setW, gets, f1, fII, fAdd, fSub, fMul, fDiv, fMod, fLt, fLe, fGt, fGe, fNeg, asB, truD, isN, fIsN, fNotN, lenD, absD, PD.intD, max2_eq, min2_eq, min3D, listD, tupleD, ixD, isiD, PD.listAt, putAtL, Option.map_some, List.getElem?_cons_zero, List.getElem?_cons_succ, List.set_cons_zero, List.set_cons_succ, List.map_cons, List.map_nil, List.replicate_succ, List.replicate_zero, List.cons_append, List.nil_append, List.append_nil, List.length_cons, List.length_nil, List.length_map, if_true, if_false, Bool.not_true, Bool.not_false, Bool.false_eq_true, decide_true, decide_false, decide_eq_true_eq, and_true, true_and, and_self, reduceIte, Nat.reduceAdd, Nat.reduceSub, Nat.reduceLeDiff, Nat.reduceLT, Nat.reduceEqDiff, Int.reduceLT, Int.reduceLE, Option.isSome_some, Option.isSome_none, Bool.not_eq_true', Bool.if_true_left]
  refine Go.mk (@wpc_x _ { i : List Int × O // Few i.1 ∧ i.1.length ≤ 4 ∧ PuO i.2 } _ _ _ (fun z => DI z.1.1) (fun z => ⟨[], z.1.2 :: []⟩) (small0 hy0) ?_)
  rintro ⟨⟨p, y1⟩, few, len4, hy1⟩
  have s := few.sm
  have sp := few.sum
  have s60 := s.sum
  have hl10 : p.length ≤ 10 := s.len
  simp only [↓wp_bnd, ↓wp_pure, ↓wp_mVar, ↓wp_oVar, ↓wp_oE, ↓wp_mFrz, ↓wp_mRV, ↓wp_m1, ↓wp_m2, ↓wp_mB, ↓wp_mChain, ↓wp_mAnd, ↓wp_mOr, ↓wp_mNot, ↓wp_mTru, ↓wp_mIf, ↓wp_mAndV, ↓wp_mOrV, ↓wp_mNotV, ↓wp_aNil, ↓wp_aCons, ↓wp_qNil, ↓wp_qCons, ↓wp_mA, ↓wp_mTup, ↓wp_mLst, ↓wp_mIsi, ↓wp_mPart, ↓wp_mSlice, ↓wp_mRg1, ↓wp_mRg2, ↓wp_mRgL, ↓wp_iRg, ↓wp_iLst, ↓wp_mApp, ↓wp_mSeq, ↓wp_mExpr, ↓wp_mRet, ↓wp_mSet, ↓wp_mAsg, ↓wp_mgName, ↓wp_mgNil, ↓wp_mgCons, ↓wp_mgTup, ↓wp_mgSub, ↓wp_mAug, ↓wp_mAugS, ↓wx_mFor, ↓wx_mLc, ↓wx_mCall, ↓wp_mFn, ↓wx_mCallL, tab1_self, ↓wp_mAlloc, ↓wp_mNew, ↓wp_mDGet, ↓wp_mDIn, ↓wp_mDPut, ↓wp_mListK, ↓wp_mPopAt, ↓wp_mScIx, ↓wp_mScLen, ↓wp_mScSlice, Op.get, rs, RV.toD, stV, setW, gets, f1, fII, fAdd, fSub, fMul, fDiv, fMod, fLt, fLe, fGt, fGe, fNeg, asB, truD, isN, fIsN, fNotN, lenD, absD, PD.intD, max2_eq, min2_eq, min3D, listD, tupleD, ixD, isiD, PD.listAt, putAtL, Option.map_some, List.getElem?_cons_zero, List.getElem?_cons_succ, List.set_cons_zero, List.set_cons_succ, List.map_cons, List.map_nil, List.replicate_succ, List.replicate_zero, List.cons_append, List.nil_append, List.append_nil, List.length_cons, List.length_nil, List.length_map, if_true, if_false, Bool.not_true, Bool.not_false, Bool.false_eq_true, decide_true, decide_false, decide_eq_true_eq, and_true, true_and, and_self, reduceIte, Nat.reduceAdd, Nat.reduceSub, Nat.reduceLeDiff, Nat.reduceLT, Nat.reduceEqDiff, Int.reduceLT, Int.reduceLE, Option.isSome_some, Option.isSome_none, Bool.not_eq_true', Bool.if_true_left, sumD_map]
  refine Go.mk (@wpc_x _ { i : Int × O // PuO i.2 ∧ 0 ≤ i.1 ∧ i.1 < p.sum } _ _ _ (fun z => .int z.1.1) (fun z => ⟨[], z.1.2 :: []⟩) (draw0 hy1 (by have : 1 ≤ p.sum := sp; omega) (by have : p.sum ≤ 60 := s60; omega)) ?_)
  rintro ⟨⟨v, y2⟩, hy2, v0, v1⟩
  have r : Row p (1 + v) := ⟨s.nn, by have : 0 ≤ v := v0; omega, by have : v < p.sum := v1; omega⟩
  generalize hm : 1 + v = m at r
  simp only [↓wp_bnd, ↓wp_pure, ↓wp_mVar, ↓wp_oVar, ↓wp_oE, ↓wp_mFrz, ↓wp_mRV, ↓wp_m1, ↓wp_m2, ↓wp_mB, ↓wp_mChain, ↓wp_mAnd, ↓wp_mOr, ↓wp_mNot, ↓wp_mTru, ↓wp_mIf, ↓wp_mAndV, ↓wp_mOrV, ↓wp_mNotV, ↓wp_aNil, ↓wp_aCons, ↓wp_qNil, ↓wp_qCons, ↓wp_mA, ↓wp_mTup, ↓wp_mLst, ↓wp_mIsi, ↓wp_mPart, ↓wp_mSlice, ↓wp_mRg1, ↓wp_mRg2, ↓wp_mRgL, ↓wp_iRg, ↓wp_iLst, ↓wp_mApp, ↓wp_mSeq, ↓wp_mExpr, ↓wp_mRet, ↓wp_mSet, ↓wp_mAsg, ↓wp_mgName, ↓wp_mgNil, ↓wp_mgCons, ↓wp_mgTup, ↓wp_mgSub, ↓wp_mAug, ↓wp_mAugS, ↓wx_mFor, ↓wx_mLc, ↓wx_mCall, ↓wp_mFn, ↓wx_mCallL, tab1_self, ↓wp_mAlloc, ↓wp_mNew, ↓wp_mDGet, ↓wp_mDIn, ↓wp_mDPut, ↓wp_mListK, ↓wp_mPopAt, ↓wp_mScIx, ↓wp_mScLen, ↓wp_mScSlice, Op.get, rs, RV.toD, stV, setW, gets, f1, fII, fAdd, fSub, fMul, fDiv, fMod, fLt, fLe, fGt, fGe, fNeg, asB, truD, isN, fIsN, fNotN, lenD, absD, PD.intD, max2_eq, min2_eq, min3D, listD, tupleD, ixD, isiD, PD.listAt, putAtL, Option.map_some, List.getElem?_cons_zero, List.getElem?_cons_succ, List.set_cons_zero, List.set_cons_succ, List.map_cons, List.map_nil, List.replicate_succ, List.replicate_zero, List.cons_append, List.nil_append, List.append_nil, List.length_cons, List.length_nil, List.length_map, if_true, if_false, Bool.not_true, Bool.not_false, Bool.false_eq_true, decide_true, decide_false, decide_eq_true_eq, and_true, true_and, and_self, reduceIte, Nat.reduceAdd, Nat.reduceSub, Nat.reduceLeDiff, Nat.reduceLT, Nat.reduceEqDiff, Int.reduceLT, Int.reduceLE, Option.isSome_some, Option.isSome_none, Bool.not_eq_true', Bool.if_true_left, hm]
  refine Go.mk (@wpc_x _ (List O) _ _ _ (fun _ => .int (numN p m)) (fun rq => ⟨[], y2 :: rq⟩) (opening0 (rest := []) s r (by omega)) ?_)
  intro rest
  simp only [↓wp_bnd, ↓wp_pure, ↓wp_mVar, ↓wp_oVar, ↓wp_oE, ↓wp_mFrz, ↓wp_mRV, ↓wp_m1, ↓wp_m2, ↓wp_mB, ↓wp_mChain, ↓wp_mAnd, ↓wp_mOr, ↓wp_mNot, ↓wp_mTru, ↓wp_mIf, ↓wp_mAndV, ↓wp_mOrV, ↓wp_mNotV, ↓wp_aNil, ↓wp_aCons, ↓wp_qNil, ↓wp_qCons, ↓wp_mA, ↓wp_mTup, ↓wp_mLst, ↓wp_mIsi, ↓wp_mPart, ↓wp_mSlice, ↓wp_mRg1, ↓wp_mRg2, ↓wp_mRgL, ↓wp_iRg, ↓wp_iLst, ↓wp_mApp, ↓wp_mSeq, ↓wp_mExpr, ↓wp_mRet, ↓wp_mSet, ↓wp_mAsg, ↓wp_mgName, ↓wp_mgNil, ↓wp_mgCons, ↓wp_mgTup, ↓wp_mgSub, ↓wp_mAug, ↓wp_mAugS, ↓wx_mFor, ↓wx_mLc, ↓wx_mCall, ↓wp_mFn, ↓wx_mCallL, tab1_self, ↓wp_mAlloc, ↓wp_mNew, ↓wp_mDGet, ↓wp_mDIn, ↓wp_mDPut, ↓wp_mListK, ↓wp_mPopAt, ↓wp_mScIx, ↓wp_mScLen, ↓wp_mScSlice, Op.get, rs, RV.toD, stV, setW, gets, f1, fII, fAdd, fSub, fMul, fDiv, fMod, fLt, fLe, fGt, fGe, fNeg, asB, truD, isN, fIsN, fNotN, lenD, absD, PD.intD, max2_eq, min2_eq, min3D, listD, tupleD, ixD, isiD, PD.listAt, putAtL, Option.map_some, List.getElem?_cons_zero, List.getElem?_cons_succ, List.set_cons_zero, List.set_cons_succ, List.map_cons, List.map_nil, List.replicate_succ, List.replicate_zero, List.cons_append, List.nil_append, List.append_nil, List.length_cons, List.length_nil, List.length_map, if_true, if_false, Bool.not_true, Bool.not_false, Bool.false_eq_true, decide_true, decide_false, decide_eq_true_eq, and_true, true_and, and_self, reduceIte, Nat.reduceAdd, Nat.reduceSub, Nat.reduceLeDiff, Nat.reduceLT, Nat.reduceEqDiff, Int.reduceLT, Int.reduceLE, Option.isSome_some, Option.isSome_none, Bool.not_eq_true', Bool.if_true_left]
  refine Go.mk (@wpc_e _ _ _ _ (opn ad) ⟨[], y2 :: rest⟩ (wp_opener ad) ?_)
  simp only [↓wp_bnd, ↓wp_pure, ↓wp_mVar, ↓wp_oVar, ↓wp_oE, ↓wp_mFrz, ↓wp_mRV, ↓wp_m1, ↓wp_m2, ↓wp_mB, ↓wp_mChain, ↓wp_mAnd, ↓wp_mOr, ↓wp_mNot, ↓wp_mTru, ↓wp_mIf, ↓wp_mAndV, ↓wp_mOrV, ↓wp_mNotV, ↓wp_aNil, ↓wp_aCons, ↓wp_qNil, ↓wp_qCons, ↓wp_mA, ↓wp_mTup, ↓wp_mLst, ↓wp_mIsi, ↓wp_mPart, ↓wp_mSlice, ↓wp_mRg1, ↓wp_mRg2, ↓wp_mRgL, ↓wp_iRg, ↓wp_iLst, ↓wp_mApp, ↓wp_mSeq, ↓wp_mExpr, ↓wp_mRet, ↓wp_mSet, ↓wp_mAsg, ↓wp_mgName, ↓wp_mgNil, ↓wp_mgCons, ↓wp_mgTup, ↓wp_mgSub, ↓wp_mAug, ↓wp_mAugS, ↓wx_mFor, ↓wx_mLc, ↓wx_mCall, ↓wp_mFn, ↓wx_mCallL, tab1_self, ↓wp_mAlloc, ↓wp_mNew, ↓wp_mDGet, ↓wp_mDIn, ↓wp_mDPut, ↓wp_mListK, ↓wp_mPopAt, ↓wp_mScIx, ↓wp_mScLen, ↓wp_mScSlice, Op.get, rs, RV.toD, stV, setW, gets, f1, fII, fAdd, fSub, fMul, fDiv, fMod, fLt, fLe, fGt, fGe, fNeg, asB, truD, isN, fIsN, fNotN, lenD, absD, PD.intD, max2_eq, min2_eq, min3D, listD, tupleD, ixD, isiD, PD.listAt, putAtL, Option.map_some, List.getElem?_cons_zero, List.getElem?_cons_succ, List.set_cons_zero, List.set_cons_succ, List.map_cons, List.map_nil, List.replicate_succ, List.replicate_zero, List.cons_append, List.nil_append, List.append_nil, List.length_cons, List.length_nil, List.length_map, if_true, if_false, Bool.not_true, Bool.not_false, Bool.false_eq_true, decide_true, decide_false, decide_eq_true_eq, and_true, true_and, and_self, reduceIte, Nat.reduceAdd, Nat.reduceSub, Nat.reduceLeDiff, Nat.reduceLT, Nat.reduceEqDiff, Int.reduceLT, Int.reduceLE, Option.isSome_some, Option.isSome_none, Bool.not_eq_true', Bool.if_true_left]
  refine Go.mk (@wpc_x _ { F : List (List Int) // ∀ t, t ∈ F ↔ Tk p m t } _ _ _ (fun F => .lst (F.1.map DI)) (fun F => ⟨[], y2 :: rest⟩) (wp_all few len4 r) ?_)
  rintro ⟨F, hF⟩
  simp only [↓wp_bnd, ↓wp_pure, ↓wp_mVar, ↓wp_oVar, ↓wp_oE, ↓wp_mFrz, ↓wp_mRV, ↓wp_m1, ↓wp_m2, ↓wp_mB, ↓wp_mChain, ↓wp_mAnd, ↓wp_mOr, ↓wp_mNot, ↓wp_mTru, ↓wp_mIf, ↓wp_mAndV, ↓wp_mOrV, ↓wp_mNotV, ↓wp_aNil, ↓wp_aCons, ↓wp_qNil, ↓wp_qCons, ↓wp_mA, ↓wp_mTup, ↓wp_mLst, ↓wp_mIsi, ↓wp_mPart, ↓wp_mSlice, ↓wp_mRg1, ↓wp_mRg2, ↓wp_mRgL, ↓wp_iRg, ↓wp_iLst, ↓wp_mApp, ↓wp_mSeq, ↓wp_mExpr, ↓wp_mRet, ↓wp_mSet, ↓wp_mAsg, ↓wp_mgName, ↓wp_mgNil, ↓wp_mgCons, ↓wp_mgTup, ↓wp_mgSub, ↓wp_mAug, ↓wp_mAugS, ↓wx_mFor, ↓wx_mLc, ↓wx_mCall, ↓wp_mFn, ↓wx_mCallL, tab1_self, ↓wp_mAlloc, ↓wp_mNew, ↓wp_mDGet, ↓wp_mDIn, ↓wp_mDPut, ↓wp_mListK, ↓wp_mPopAt, ↓wp_mScIx, ↓wp_mScLen, ↓wp_mScSlice, Op.get, rs, RV.toD, stV, setW, gets, f1, fII, fAdd, fSub, fMul, fDiv, fMod, fLt, fLe, fGt, fGe, fNeg, asB, truD, isN, fIsN, fNotN, lenD, absD, PD.intD, max2_eq, min2_eq, min3D, listD, tupleD, ixD, isiD, PD.listAt, putAtL, Option.map_some, List.getElem?_cons_zero, List.getElem?_cons_succ, List.set_cons_zero, List.set_cons_succ, List.map_cons, List.map_nil, List.replicate_succ, List.replicate_zero, List.cons_append, List.nil_append, List.append_nil, List.length_cons, List.length_nil, List.length_map, if_true, if_false, Bool.not_true, Bool.not_false, Bool.false_eq_true, decide_true, decide_false, decide_eq_true_eq, and_true, true_and, and_self, reduceIte, Nat.reduceAdd, Nat.reduceSub, Nat.reduceLeDiff, Nat.reduceLT, Nat.reduceEqDiff, Int.reduceLT, Int.reduceLE, Option.isSome_some, Option.isSome_none, Bool.not_eq_true', Bool.if_true_left]
  refine Go.mk (@wpf_x (SV × SV × List O) _ _ _ _ (fun _ => .nx) (fun z => ⟨[SV.d (.ref sa), SV.d (.o 0), SV.d (DI p), SV.d (.int m), SV.d (.int (numN p m)), SV.d (opn ad), SV.d (.int (numN p m)), z.1, z.2.1, SV.un, SV.un, SV.un], y2 :: z.2.2⟩) ?_ ?_)
  · refine wp_for (fun i w => ∃ (x7 x8 : SV) (ext : List O), w = ⟨[SV.d (.ref sa), SV.d (.o 0), SV.d (DI p), SV.d (.int m), SV.d (.int (numN p m)), SV.d (opn ad), SV.d (.int ((F.take i).foldl (fun w t => imax w (play p m (pre t) (p.length + 1) [])) 0)), x7, x8, SV.un, SV.un, SV.un], y2 :: ext⟩) ?_ ?_ ?_
    · exact ⟨SV.un, SV.un, rest, rfl⟩
    · rintro i d w hd ⟨x7, x8, ext, rfl⟩
      rw [List.getElem?_map] at hd
      cases ho : F[i]? with
      | none => rw [ho] at hd; cases hd
      | some t =>
        rw [ho] at hd
        cases hd
        have T := (hF t).mp (List.mem_of_getElem? ho)
        have pl := play_num T s.nn r
        simp only [↓wp_bnd, ↓wp_pure, ↓wp_mVar, ↓wp_oVar, ↓wp_oE, ↓wp_mFrz, ↓wp_mRV, ↓wp_m1, ↓wp_m2, ↓wp_mB, ↓wp_mChain, ↓wp_mAnd, ↓wp_mOr, ↓wp_mNot, ↓wp_mTru, ↓wp_mIf, ↓wp_mAndV, ↓wp_mOrV, ↓wp_mNotV, ↓wp_aNil, ↓wp_aCons, ↓wp_qNil, ↓wp_qCons, ↓wp_mA, ↓wp_mTup, ↓wp_mLst, ↓wp_mIsi, ↓wp_mPart, ↓wp_mSlice, ↓wp_mRg1, ↓wp_mRg2, ↓wp_mRgL, ↓wp_iRg, ↓wp_iLst, ↓wp_mApp, ↓wp_mSeq, ↓wp_mExpr, ↓wp_mRet, ↓wp_mSet, ↓wp_mAsg, ↓wp_mgName, ↓wp_mgNil, ↓wp_mgCons, ↓wp_mgTup, ↓wp_mgSub, ↓wp_mAug, ↓wp_mAugS, ↓wx_mFor, ↓wx_mLc, ↓wx_mCall, ↓wp_mFn, ↓wx_mCallL, tab1_self, ↓wp_mAlloc, ↓wp_mNew, ↓wp_mDGet, ↓wp_mDIn, ↓wp_mDPut, ↓wp_mListK, ↓wp_mPopAt, ↓wp_mScIx, ↓wp_mScLen, ↓wp_mScSlice, Op.get, rs, RV.toD, stV, setW, gets, f1, fII, fAdd, fSub, fMul, fDiv, fMod, fLt, fLe, fGt, fGe, fNeg, asB, truD, isN, fIsN, fNotN, lenD, absD, PD.intD, max2_eq, min2_eq, min3D, listD, tupleD, ixD, isiD, PD.listAt, putAtL, Option.map_some, List.getElem?_cons_zero, List.getElem?_cons_succ, List.set_cons_zero, List.set_cons_succ, List.map_cons, List.map_nil, List.replicate_succ, List.replicate_zero, List.cons_append, List.nil_append, List.append_nil, List.length_cons, List.length_nil, List.length_map, if_true, if_false, Bool.not_true, Bool.not_false, Bool.false_eq_true, decide_true, decide_false, decide_eq_true_eq, and_true, true_and, and_self, reduceIte, Nat.reduceAdd, Nat.reduceSub, Nat.reduceLeDiff, Nat.reduceLT, Nat.reduceEqDiff, Int.reduceLT, Int.reduceLE, Option.isSome_some, Option.isSome_none, Bool.not_eq_true', Bool.if_true_left]
        refine @wpc_x _ (List O) _ _ _ (fun _ => .int (play p m (pre t) (p.length + 1) [])) (fun e2 => ⟨[], y2 :: e2⟩) (records0 ad s T r.lo) ?_
        intro e2
        simp only [↓wp_bnd, ↓wp_pure, ↓wp_mVar, ↓wp_oVar, ↓wp_oE, ↓wp_mFrz, ↓wp_mRV, ↓wp_m1, ↓wp_m2, ↓wp_mB, ↓wp_mChain, ↓wp_mAnd, ↓wp_mOr, ↓wp_mNot, ↓wp_mTru, ↓wp_mIf, ↓wp_mAndV, ↓wp_mOrV, ↓wp_mNotV, ↓wp_aNil, ↓wp_aCons, ↓wp_qNil, ↓wp_qCons, ↓wp_mA, ↓wp_mTup, ↓wp_mLst, ↓wp_mIsi, ↓wp_mPart, ↓wp_mSlice, ↓wp_mRg1, ↓wp_mRg2, ↓wp_mRgL, ↓wp_iRg, ↓wp_iLst, ↓wp_mApp, ↓wp_mSeq, ↓wp_mExpr, ↓wp_mRet, ↓wp_mSet, ↓wp_mAsg, ↓wp_mgName, ↓wp_mgNil, ↓wp_mgCons, ↓wp_mgTup, ↓wp_mgSub, ↓wp_mAug, ↓wp_mAugS, ↓wx_mFor, ↓wx_mLc, ↓wx_mCall, ↓wp_mFn, ↓wx_mCallL, tab1_self, ↓wp_mAlloc, ↓wp_mNew, ↓wp_mDGet, ↓wp_mDIn, ↓wp_mDPut, ↓wp_mListK, ↓wp_mPopAt, ↓wp_mScIx, ↓wp_mScLen, ↓wp_mScSlice, Op.get, rs, RV.toD, stV, setW, gets, f1, fII, fAdd, fSub, fMul, fDiv, fMod, fLt, fLe, fGt, fGe, fNeg, asB, truD, isN, fIsN, fNotN, lenD, absD, PD.intD, max2_eq, min2_eq, min3D, listD, tupleD, ixD, isiD, PD.listAt, putAtL, Option.map_some, List.getElem?_cons_zero, List.getElem?_cons_succ, List.set_cons_zero, List.set_cons_succ, List.map_cons, List.map_nil, List.replicate_succ, List.replicate_zero, List.cons_append, List.nil_append, List.append_nil, List.length_cons, List.length_nil, List.length_map, if_true, if_false, Bool.not_true, Bool.not_false, Bool.false_eq_true, decide_true, decide_false, decide_eq_true_eq, and_true, true_and, and_self, reduceIte, Nat.reduceAdd, Nat.reduceSub, Nat.reduceLeDiff, Nat.reduceLT, Nat.reduceEqDiff, Int.reduceLT, Int.reduceLE, Option.isSome_some, Option.isSome_none, Bool.not_eq_true', Bool.if_true_left, show ¬ (numN p m < play p m (pre t) (p.length + 1) []) by omega]
        refine Go.mk ⟨SV.d (DI t), SV.d (.int (play p m (pre t) (p.length + 1) [])), e2, ?_⟩
        rw [take_snoc ho, List.foldl_append]
        rfl
    · rintro w ⟨x7, x8, ext, rfl⟩
      refine ⟨(x7, x8, ext), rfl, ?_⟩
      rw [List.length_map, List.take_length, worst_num s.nn r hF]
  · rintro ⟨x7, x8, rest2⟩
    simp only [↓wp_bnd, ↓wp_pure, ↓wp_mVar, ↓wp_oVar, ↓wp_oE, ↓wp_mFrz, ↓wp_mRV, ↓wp_m1, ↓wp_m2, ↓wp_mB, ↓wp_mChain, ↓wp_mAnd, ↓wp_mOr, ↓wp_mNot, ↓wp_mTru, ↓wp_mIf, ↓wp_mAndV, ↓wp_mOrV, ↓wp_mNotV, ↓wp_aNil, ↓wp_aCons, ↓wp_qNil, ↓wp_qCons, ↓wp_mA, ↓wp_mTup, ↓wp_mLst, ↓wp_mIsi, ↓wp_mPart, ↓wp_mSlice, ↓wp_mRg1, ↓wp_mRg2, ↓wp_mRgL, ↓wp_iRg, ↓wp_iLst, ↓wp_mApp, ↓wp_mSeq, ↓wp_mExpr, ↓wp_mRet, ↓wp_mSet, ↓wp_mAsg, ↓wp_mgName, ↓wp_mgNil, ↓wp_mgCons, ↓wp_mgTup, ↓wp_mgSub, ↓wp_mAug, ↓wp_mAugS, ↓wx_mFor, ↓wx_mLc, ↓wx_mCall, ↓wp_mFn, ↓wx_mCallL, tab1_self, ↓wp_mAlloc, ↓wp_mNew, ↓wp_mDGet, ↓wp_mDIn, ↓wp_mDPut, ↓wp_mListK, ↓wp_mPopAt, ↓wp_mScIx, ↓wp_mScLen, ↓wp_mScSlice, Op.get, rs, RV.toD, stV, setW, gets, f1, fII, fAdd, fSub, fMul, fDiv, fMod, fLt, fLe, fGt, fGe, fNeg, asB, truD, isN, fIsN, fNotN, lenD, absD, PD.intD, max2_eq, min2_eq, min3D, listD, tupleD, ixD, isiD, PD.listAt, putAtL, Option.map_some, List.getElem?_cons_zero, List.getElem?_cons_succ, List.set_cons_zero, List.set_cons_succ, List.map_cons, List.map_nil, List.replicate_succ, List.replicate_zero, List.cons_append, List.nil_append, List.append_nil, List.length_cons, List.length_nil, List.length_map, if_true, if_false, Bool.not_true, Bool.not_false, Bool.false_eq_true, decide_true, decide_false, decide_eq_true_eq, and_true, true_and, and_self, reduceIte, Nat.reduceAdd, Nat.reduceSub, Nat.reduceLeDiff, Nat.reduceLT, Nat.reduceEqDiff, Int.reduceLT, Int.reduceLE, Option.isSome_some, Option.isSome_none, Bool.not_eq_true', Bool.if_true_left, fNe_int]
    refine Go.mk (@wpc_x _ (List O) _ _ _ (fun _ => .int (numN p m)) (fun rq => ⟨[], y2 :: rq⟩) (due0 few r) ?_)
    intro rest3
    simp only [↓wp_bnd, ↓wp_pure, ↓wp_mVar, ↓wp_oVar, ↓wp_oE, ↓wp_mFrz, ↓wp_mRV, ↓wp_m1, ↓wp_m2, ↓wp_mB, ↓wp_mChain, ↓wp_mAnd, ↓wp_mOr, ↓wp_mNot, ↓wp_mTru, ↓wp_mIf, ↓wp_mAndV, ↓wp_mOrV, ↓wp_mNotV, ↓wp_aNil, ↓wp_aCons, ↓wp_qNil, ↓wp_qCons, ↓wp_mA, ↓wp_mTup, ↓wp_mLst, ↓wp_mIsi, ↓wp_mPart, ↓wp_mSlice, ↓wp_mRg1, ↓wp_mRg2, ↓wp_mRgL, ↓wp_iRg, ↓wp_iLst, ↓wp_mApp, ↓wp_mSeq, ↓wp_mExpr, ↓wp_mRet, ↓wp_mSet, ↓wp_mAsg, ↓wp_mgName, ↓wp_mgNil, ↓wp_mgCons, ↓wp_mgTup, ↓wp_mgSub, ↓wp_mAug, ↓wp_mAugS, ↓wx_mFor, ↓wx_mLc, ↓wx_mCall, ↓wp_mFn, ↓wx_mCallL, tab1_self, ↓wp_mAlloc, ↓wp_mNew, ↓wp_mDGet, ↓wp_mDIn, ↓wp_mDPut, ↓wp_mListK, ↓wp_mPopAt, ↓wp_mScIx, ↓wp_mScLen, ↓wp_mScSlice, Op.get, rs, RV.toD, stV, setW, gets, f1, fII, fAdd, fSub, fMul, fDiv, fMod, fLt, fLe, fGt, fGe, fNeg, asB, truD, isN, fIsN, fNotN, lenD, absD, PD.intD, max2_eq, min2_eq, min3D, listD, tupleD, ixD, isiD, PD.listAt, putAtL, Option.map_some, List.getElem?_cons_zero, List.getElem?_cons_succ, List.set_cons_zero, List.set_cons_succ, List.map_cons, List.map_nil, List.replicate_succ, List.replicate_zero, List.cons_append, List.nil_append, List.append_nil, List.length_cons, List.length_nil, List.length_map, if_true, if_false, Bool.not_true, Bool.not_false, Bool.false_eq_true, decide_true, decide_false, decide_eq_true_eq, and_true, true_and, and_self, reduceIte, Nat.reduceAdd, Nat.reduceSub, Nat.reduceLeDiff, Nat.reduceLT, Nat.reduceEqDiff, Int.reduceLT, Int.reduceLE, Option.isSome_some, Option.isSome_none, Bool.not_eq_true', Bool.if_true_left]
    refine Go.mk (@wpc_e _ _ _ _ (.bl true) ⟨[], y2 :: rest3⟩ (wp_same _) ?_)
    simp only [↓wp_bnd, ↓wp_pure, ↓wp_mVar, ↓wp_oVar, ↓wp_oE, ↓wp_mFrz, ↓wp_mRV, ↓wp_m1, ↓wp_m2, ↓wp_mB, ↓wp_mChain, ↓wp_mAnd, ↓wp_mOr, ↓wp_mNot, ↓wp_mTru, ↓wp_mIf, ↓wp_mAndV, ↓wp_mOrV, ↓wp_mNotV, ↓wp_aNil, ↓wp_aCons, ↓wp_qNil, ↓wp_qCons, ↓wp_mA, ↓wp_mTup, ↓wp_mLst, ↓wp_mIsi, ↓wp_mPart, ↓wp_mSlice, ↓wp_mRg1, ↓wp_mRg2, ↓wp_mRgL, ↓wp_iRg, ↓wp_iLst, ↓wp_mApp, ↓wp_mSeq, ↓wp_mExpr, ↓wp_mRet, ↓wp_mSet, ↓wp_mAsg, ↓wp_mgName, ↓wp_mgNil, ↓wp_mgCons, ↓wp_mgTup, ↓wp_mgSub, ↓wp_mAug, ↓wp_mAugS, ↓wx_mFor, ↓wx_mLc, ↓wx_mCall, ↓wp_mFn, ↓wx_mCallL, tab1_self, ↓wp_mAlloc, ↓wp_mNew, ↓wp_mDGet, ↓wp_mDIn, ↓wp_mDPut, ↓wp_mListK, ↓wp_mPopAt, ↓wp_mScIx, ↓wp_mScLen, ↓wp_mScSlice, Op.get, rs, RV.toD, stV, setW, gets, f1, fII, fAdd, fSub, fMul, fDiv, fMod, fLt, fLe, fGt, fGe, fNeg, asB, truD, isN, fIsN, fNotN, lenD, absD, PD.intD, max2_eq, min2_eq, min3D, listD, tupleD, ixD, isiD, PD.listAt, putAtL, Option.map_some, List.getElem?_cons_zero, List.getElem?_cons_succ, List.set_cons_zero, List.set_cons_succ, List.map_cons, List.map_nil, List.replicate_succ, List.replicate_zero, List.cons_append, List.nil_append, List.append_nil, List.length_cons, List.length_nil, List.length_map, if_true, if_false, Bool.not_true, Bool.not_false, Bool.false_eq_true, decide_true, decide_false, decide_eq_true_eq, and_true, true_and, and_self, reduceIte, Nat.reduceAdd, Nat.reduceSub, Nat.reduceLeDiff, Nat.reduceLT, Nat.reduceEqDiff, Int.reduceLT, Int.reduceLE, Option.isSome_some, Option.isSome_none, Bool.not_eq_true', Bool.if_true_left]
    refine Go.mk (@wpc_x _ { i : Int × O // PuO i.2 ∧ 0 ≤ i.1 ∧ i.1 < 2 } _ _ _ (fun z => .int z.1.1) (fun z => ⟨[], z.1.2 :: rest3⟩) (draw0 hy2 (by omega) (by omega)) ?_)
    rintro ⟨⟨v3, y3⟩, hy3, u0, u1⟩
    have u0' : 0 ≤ v3 := u0
    have u1' : v3 < 2 := u1
    simp only [↓wp_bnd, ↓wp_pure, ↓wp_mVar, ↓wp_oVar, ↓wp_oE, ↓wp_mFrz, ↓wp_mRV, ↓wp_m1, ↓wp_m2, ↓wp_mB, ↓wp_mChain, ↓wp_mAnd, ↓wp_mOr, ↓wp_mNot, ↓wp_mTru, ↓wp_mIf, ↓wp_mAndV, ↓wp_mOrV, ↓wp_mNotV, ↓wp_aNil, ↓wp_aCons, ↓wp_qNil, ↓wp_qCons, ↓wp_mA, ↓wp_mTup, ↓wp_mLst, ↓wp_mIsi, ↓wp_mPart, ↓wp_mSlice, ↓wp_mRg1, ↓wp_mRg2, ↓wp_mRgL, ↓wp_iRg, ↓wp_iLst, ↓wp_mApp, ↓wp_mSeq, ↓wp_mExpr, ↓wp_mRet, ↓wp_mSet, ↓wp_mAsg, ↓wp_mgName, ↓wp_mgNil, ↓wp_mgCons, ↓wp_mgTup, ↓wp_mgSub, ↓wp_mAug, ↓wp_mAugS, ↓wx_mFor, ↓wx_mLc, ↓wx_mCall, ↓wp_mFn, ↓wx_mCallL, tab1_self, ↓wp_mAlloc, ↓wp_mNew, ↓wp_mDGet, ↓wp_mDIn, ↓wp_mDPut, ↓wp_mListK, ↓wp_mPopAt, ↓wp_mScIx, ↓wp_mScLen, ↓wp_mScSlice, Op.get, rs, RV.toD, stV, setW, gets, f1, fII, fAdd, fSub, fMul, fDiv, fMod, fLt, fLe, fGt, fGe, fNeg, asB, truD, isN, fIsN, fNotN, lenD, absD, PD.intD, max2_eq, min2_eq, min3D, listD, tupleD, ixD, isiD, PD.listAt, putAtL, Option.map_some, List.getElem?_cons_zero, List.getElem?_cons_succ, List.set_cons_zero, List.set_cons_succ, List.map_cons, List.map_nil, List.replicate_succ, List.replicate_zero, List.cons_append, List.nil_append, List.append_nil, List.length_cons, List.length_nil, List.length_map, if_true, if_false, Bool.not_true, Bool.not_false, Bool.false_eq_true, decide_true, decide_false, decide_eq_true_eq, and_true, true_and, and_self, reduceIte, Nat.reduceAdd, Nat.reduceSub, Nat.reduceLeDiff, Nat.reduceLT, Nat.reduceEqDiff, Int.reduceLT, Int.reduceLE, Option.isSome_some, Option.isSome_none, Bool.not_eq_true', Bool.if_true_left]
    refine Go.mk ⟨rg2_ok (by omega) (by omega) (by omega) (by omega), ?_⟩
    refine @wpf_x { z : List Int × O × SV // (∀ x ∈ z.1, 1 ≤ x ∧ x ≤ 3) ∧ z.1.length = (5 + v3).toNat ∧ PuO z.2.1 } _ _ _ _ (fun _ => .nx) (fun z => ⟨[SV.d (.ref sa), SV.d (.o 0), SV.d (DI p), SV.d (.int m), SV.d (.int (numN p m)), SV.d (opn ad), SV.d (.int (numN p m)), x7, x8, SV.own (z.1.1.map D.int), z.1.2.2, SV.un], z.1.2.1 :: rest3⟩) ?_ ?_
    · refine wp_for (fun i w => ∃ (N : List Int) (y : O) (x10 : SV), (∀ x ∈ N, 1 ≤ x ∧ x ≤ 3) ∧ N.length = i ∧ PuO y ∧ w = ⟨[SV.d (.ref sa), SV.d (.o 0), SV.d (DI p), SV.d (.int m), SV.d (.int (numN p m)), SV.d (opn ad), SV.d (.int (numN p m)), x7, x8, SV.own (N.map D.int), x10, SV.un], y :: rest3⟩) ?_ ?_ ?_
      · exact ⟨[], y3, SV.un, (fun x h => by cases h), rfl, hy3, rfl⟩
      · rintro i d w hd ⟨N, y, x10, hN, hl, hy, rfl⟩
        obtain ⟨k, hk, rfl, k1, k2⟩ := rgD_at hd
        have hi := (List.getElem?_eq_some_iff.mp hk).1
        rw [rng_length] at hi
        simp only [↓wp_bnd, ↓wp_pure, ↓wp_mVar, ↓wp_oVar, ↓wp_oE, ↓wp_mFrz, ↓wp_mRV, ↓wp_m1, ↓wp_m2, ↓wp_mB, ↓wp_mChain, ↓wp_mAnd, ↓wp_mOr, ↓wp_mNot, ↓wp_mTru, ↓wp_mIf, ↓wp_mAndV, ↓wp_mOrV, ↓wp_mNotV, ↓wp_aNil, ↓wp_aCons, ↓wp_qNil, ↓wp_qCons, ↓wp_mA, ↓wp_mTup, ↓wp_mLst, ↓wp_mIsi, ↓wp_mPart, ↓wp_mSlice, ↓wp_mRg1, ↓wp_mRg2, ↓wp_mRgL, ↓wp_iRg, ↓wp_iLst, ↓wp_mApp, ↓wp_mSeq, ↓wp_mExpr, ↓wp_mRet, ↓wp_mSet, ↓wp_mAsg, ↓wp_mgName, ↓wp_mgNil, ↓wp_mgCons, ↓wp_mgTup, ↓wp_mgSub, ↓wp_mAug, ↓wp_mAugS, ↓wx_mFor, ↓wx_mLc, ↓wx_mCall, ↓wp_mFn, ↓wx_mCallL, tab1_self, ↓wp_mAlloc, ↓wp_mNew, ↓wp_mDGet, ↓wp_mDIn, ↓wp_mDPut, ↓wp_mListK, ↓wp_mPopAt, ↓wp_mScIx, ↓wp_mScLen, ↓wp_mScSlice, Op.get, rs, RV.toD, stV, setW, gets, f1, fII, fAdd, fSub, fMul, fDiv, fMod, fLt, fLe, fGt, fGe, fNeg, asB, truD, isN, fIsN, fNotN, lenD, absD, PD.intD, max2_eq, min2_eq, min3D, listD, tupleD, ixD, isiD, PD.listAt, putAtL, Option.map_some, List.getElem?_cons_zero, List.getElem?_cons_succ, List.set_cons_zero, List.set_cons_succ, List.map_cons, List.map_nil, List.replicate_succ, List.replicate_zero, List.cons_append, List.nil_append, List.append_nil, List.length_cons, List.length_nil, List.length_map, if_true, if_false, Bool.not_true, Bool.not_false, Bool.false_eq_true, decide_true, decide_false, decide_eq_true_eq, and_true, true_and, and_self, reduceIte, Nat.reduceAdd, Nat.reduceSub, Nat.reduceLeDiff, Nat.reduceLT, Nat.reduceEqDiff, Int.reduceLT, Int.reduceLE, Option.isSome_some, Option.isSome_none, Bool.not_eq_true', Bool.if_true_left]
        refine @wpc_x _ { i : Int × O // PuO i.2 ∧ 0 ≤ i.1 ∧ i.1 < 3 } _ _ _ (fun z => .int z.1.1) (fun z => ⟨[], z.1.2 :: rest3⟩) (draw0 hy (by omega) (by omega)) ?_
        rintro ⟨⟨v4, y4⟩, hy4, w0, w1⟩
        have w0' : 0 ≤ v4 := w0
        have w1' : v4 < 3 := w1
        simp only [↓wp_bnd, ↓wp_pure, ↓wp_mVar, ↓wp_oVar, ↓wp_oE, ↓wp_mFrz, ↓wp_mRV, ↓wp_m1, ↓wp_m2, ↓wp_mB, ↓wp_mChain, ↓wp_mAnd, ↓wp_mOr, ↓wp_mNot, ↓wp_mTru, ↓wp_mIf, ↓wp_mAndV, ↓wp_mOrV, ↓wp_mNotV, ↓wp_aNil, ↓wp_aCons, ↓wp_qNil, ↓wp_qCons, ↓wp_mA, ↓wp_mTup, ↓wp_mLst, ↓wp_mIsi, ↓wp_mPart, ↓wp_mSlice, ↓wp_mRg1, ↓wp_mRg2, ↓wp_mRgL, ↓wp_iRg, ↓wp_iLst, ↓wp_mApp, ↓wp_mSeq, ↓wp_mExpr, ↓wp_mRet, ↓wp_mSet, ↓wp_mAsg, ↓wp_mgName, ↓wp_mgNil, ↓wp_mgCons, ↓wp_mgTup, ↓wp_mgSub, ↓wp_mAug, ↓wp_mAugS, ↓wx_mFor, ↓wx_mLc, ↓wx_mCall, ↓wp_mFn, ↓wx_mCallL, tab1_self, ↓wp_mAlloc, ↓wp_mNew, ↓wp_mDGet, ↓wp_mDIn, ↓wp_mDPut, ↓wp_mListK, ↓wp_mPopAt, ↓wp_mScIx, ↓wp_mScLen, ↓wp_mScSlice, Op.get, rs, RV.toD, stV, setW, gets, f1, fII, fAdd, fSub, fMul, fDiv, fMod, fLt, fLe, fGt, fGe, fNeg, asB, truD, isN, fIsN, fNotN, lenD, absD, PD.intD, max2_eq, min2_eq, min3D, listD, tupleD, ixD, isiD, PD.listAt, putAtL, Option.map_some, List.getElem?_cons_zero, List.getElem?_cons_succ, List.set_cons_zero, List.set_cons_succ, List.map_cons, List.map_nil, List.replicate_succ, List.replicate_zero, List.cons_append, List.nil_append, List.append_nil, List.length_cons, List.length_nil, List.length_map, if_true, if_false, Bool.not_true, Bool.not_false, Bool.false_eq_true, decide_true, decide_false, decide_eq_true_eq, and_true, true_and, and_self, reduceIte, Nat.reduceAdd, Nat.reduceSub, Nat.reduceLeDiff, Nat.reduceLT, Nat.reduceEqDiff, Int.reduceLT, Int.reduceLE, Option.isSome_some, Option.isSome_none, Bool.not_eq_true', Bool.if_true_left]
        refine Go.mk ⟨by omega, N ++ [1 + v4], y4, SV.d (.int k), fun x hx => ?_, by rw [List.length_append, hl]; rfl, hy4, ?_⟩
        · rcases List.mem_append.mp hx with h | h
          · exact hN x h
          · rw [List.mem_singleton.mp h]; omega
        · rw [List.map_append]; rfl
      · rintro w ⟨N, y, x10, hN, hl, hy, rfl⟩
        refine ⟨⟨(N, y, x10), hN, ?_, hy⟩, rfl, rfl⟩
        rw [hl, rgD_rng, List.length_map, rng_length, Int.sub_zero]
    · rintro ⟨⟨N, y4, x10⟩, hN, hl, hy4⟩
      have hN' : ∀ x ∈ N, 1 ≤ x ∧ x ≤ 3 := hN
      have hl' : N.length = (5 + v3).toNat := hl
      have nn2 : ∀ x ∈ N, 0 ≤ x := fun x hx => by have := hN' x hx; omega
      have sN : N.sum ≤ N.length * 3 := sum_le fun x hx => (hN' x hx).2
      have s2 : Sm N := ⟨nn2, by omega, by omega⟩
      have sN1 : 1 ≤ N.sum := by
        match N, hl', hN' with
        | [], hl', _ => simp at hl'; omega
        | x :: N, _, hN' =>
          rw [List.sum_cons]
          have := hN' x (List.mem_cons_self ..)
          have := sum_nn fun y hy => show 0 ≤ y by have := hN' y (List.mem_cons_of_mem _ hy); omega
          omega
      simp only [↓wp_bnd, ↓wp_pure, ↓wp_mVar, ↓wp_oVar, ↓wp_oE, ↓wp_mFrz, ↓wp_mRV, ↓wp_m1, ↓wp_m2, ↓wp_mB, ↓wp_mChain, ↓wp_mAnd, ↓wp_mOr, ↓wp_mNot, ↓wp_mTru, ↓wp_mIf, ↓wp_mAndV, ↓wp_mOrV, ↓wp_mNotV, ↓wp_aNil, ↓wp_aCons, ↓wp_qNil, ↓wp_qCons, ↓wp_mA, ↓wp_mTup, ↓wp_mLst, ↓wp_mIsi, ↓wp_mPart, ↓wp_mSlice, ↓wp_mRg1, ↓wp_mRg2, ↓wp_mRgL, ↓wp_iRg, ↓wp_iLst, ↓wp_mApp, ↓wp_mSeq, ↓wp_mExpr, ↓wp_mRet, ↓wp_mSet, ↓wp_mAsg, ↓wp_mgName, ↓wp_mgNil, ↓wp_mgCons, ↓wp_mgTup, ↓wp_mgSub, ↓wp_mAug, ↓wp_mAugS, ↓wx_mFor, ↓wx_mLc, ↓wx_mCall, ↓wp_mFn, ↓wx_mCallL, tab1_self, ↓wp_mAlloc, ↓wp_mNew, ↓wp_mDGet, ↓wp_mDIn, ↓wp_mDPut, ↓wp_mListK, ↓wp_mPopAt, ↓wp_mScIx, ↓wp_mScLen, ↓wp_mScSlice, Op.get, rs, RV.toD, stV, setW, gets, f1, fII, fAdd, fSub, fMul, fDiv, fMod, fLt, fLe, fGt, fGe, fNeg, asB, truD, isN, fIsN, fNotN, lenD, absD, PD.intD, max2_eq, min2_eq, min3D, listD, tupleD, ixD, isiD, PD.listAt, putAtL, Option.map_some, List.getElem?_cons_zero, List.getElem?_cons_succ, List.set_cons_zero, List.set_cons_succ, List.map_cons, List.map_nil, List.replicate_succ, List.replicate_zero, List.cons_append, List.nil_append, List.append_nil, List.length_cons, List.length_nil, List.length_map, if_true, if_false, Bool.not_true, Bool.not_false, Bool.false_eq_true, decide_true, decide_false, decide_eq_true_eq, and_true, true_and, and_self, reduceIte, Nat.reduceAdd, Nat.reduceSub, Nat.reduceLeDiff, Nat.reduceLT, Nat.reduceEqDiff, Int.reduceLT, Int.reduceLE, Option.isSome_some, Option.isSome_none, Bool.not_eq_true', Bool.if_true_left, sumD_map]
      refine Go.mk (@wpc_x _ { i : Int × O // PuO i.2 ∧ 0 ≤ i.1 ∧ i.1 < N.sum } _ _ _ (fun z => .int z.1.1) (fun z => ⟨[], z.1.2 :: rest3⟩) (draw0 hy4 (by omega) (by omega)) ?_)
      rintro ⟨⟨v5, y5⟩, hy5, z0, z1⟩
      have r2 : Row N (1 + v5) := ⟨nn2, by have : 0 ≤ v5 := z0; omega, by have : v5 < N.sum := z1; omega⟩
      generalize hm2 : 1 + v5 = m2 at r2
      simp only [↓wp_bnd, ↓wp_pure, ↓wp_mVar, ↓wp_oVar, ↓wp_oE, ↓wp_mFrz, ↓wp_mRV, ↓wp_m1, ↓wp_m2, ↓wp_mB, ↓wp_mChain, ↓wp_mAnd, ↓wp_mOr, ↓wp_mNot, ↓wp_mTru, ↓wp_mIf, ↓wp_mAndV, ↓wp_mOrV, ↓wp_mNotV, ↓wp_aNil, ↓wp_aCons, ↓wp_qNil, ↓wp_qCons, ↓wp_mA, ↓wp_mTup, ↓wp_mLst, ↓wp_mIsi, ↓wp_mPart, ↓wp_mSlice, ↓wp_mRg1, ↓wp_mRg2, ↓wp_mRgL, ↓wp_iRg, ↓wp_iLst, ↓wp_mApp, ↓wp_mSeq, ↓wp_mExpr, ↓wp_mRet, ↓wp_mSet, ↓wp_mAsg, ↓wp_mgName, ↓wp_mgNil, ↓wp_mgCons, ↓wp_mgTup, ↓wp_mgSub, ↓wp_mAug, ↓wp_mAugS, ↓wx_mFor, ↓wx_mLc, ↓wx_mCall, ↓wp_mFn, ↓wx_mCallL, tab1_self, ↓wp_mAlloc, ↓wp_mNew, ↓wp_mDGet, ↓wp_mDIn, ↓wp_mDPut, ↓wp_mListK, ↓wp_mPopAt, ↓wp_mScIx, ↓wp_mScLen, ↓wp_mScSlice, Op.get, rs, RV.toD, stV, setW, gets, f1, fII, fAdd, fSub, fMul, fDiv, fMod, fLt, fLe, fGt, fGe, fNeg, asB, truD, isN, fIsN, fNotN, lenD, absD, PD.intD, max2_eq, min2_eq, min3D, listD, tupleD, ixD, isiD, PD.listAt, putAtL, Option.map_some, List.getElem?_cons_zero, List.getElem?_cons_succ, List.set_cons_zero, List.set_cons_succ, List.map_cons, List.map_nil, List.replicate_succ, List.replicate_zero, List.cons_append, List.nil_append, List.append_nil, List.length_cons, List.length_nil, List.length_map, if_true, if_false, Bool.not_true, Bool.not_false, Bool.false_eq_true, decide_true, decide_false, decide_eq_true_eq, and_true, true_and, and_self, reduceIte, Nat.reduceAdd, Nat.reduceSub, Nat.reduceLeDiff, Nat.reduceLT, Nat.reduceEqDiff, Int.reduceLT, Int.reduceLE, Option.isSome_some, Option.isSome_none, Bool.not_eq_true', Bool.if_true_left, hm2]
      refine Go.mk (@wpc_x _ (List O) _ _ _ (fun _ => .int (numN N m2)) (fun rq => ⟨[], y5 :: rq⟩) (opening0 s2 r2 (by have := s2.len; omega)) ?_)
      intro rest4
      simp only [↓wp_bnd, ↓wp_pure, ↓wp_mVar, ↓wp_oVar, ↓wp_oE, ↓wp_mFrz, ↓wp_mRV, ↓wp_m1, ↓wp_m2, ↓wp_mB, ↓wp_mChain, ↓wp_mAnd, ↓wp_mOr, ↓wp_mNot, ↓wp_mTru, ↓wp_mIf, ↓wp_mAndV, ↓wp_mOrV, ↓wp_mNotV, ↓wp_aNil, ↓wp_aCons, ↓wp_qNil, ↓wp_qCons, ↓wp_mA, ↓wp_mTup, ↓wp_mLst, ↓wp_mIsi, ↓wp_mPart, ↓wp_mSlice, ↓wp_mRg1, ↓wp_mRg2, ↓wp_mRgL, ↓wp_iRg, ↓wp_iLst, ↓wp_mApp, ↓wp_mSeq, ↓wp_mExpr, ↓wp_mRet, ↓wp_mSet, ↓wp_mAsg, ↓wp_mgName, ↓wp_mgNil, ↓wp_mgCons, ↓wp_mgTup, ↓wp_mgSub, ↓wp_mAug, ↓wp_mAugS, ↓wx_mFor, ↓wx_mLc, ↓wx_mCall, ↓wp_mFn, ↓wx_mCallL, tab1_self, ↓wp_mAlloc, ↓wp_mNew, ↓wp_mDGet, ↓wp_mDIn, ↓wp_mDPut, ↓wp_mListK, ↓wp_mPopAt, ↓wp_mScIx, ↓wp_mScLen, ↓wp_mScSlice, Op.get, rs, RV.toD, stV, setW, gets, f1, fII, fAdd, fSub, fMul, fDiv, fMod, fLt, fLe, fGt, fGe, fNeg, asB, truD, isN, fIsN, fNotN, lenD, absD, PD.intD, max2_eq, min2_eq, min3D, listD, tupleD, ixD, isiD, PD.listAt, putAtL, Option.map_some, List.getElem?_cons_zero, List.getElem?_cons_succ, List.set_cons_zero, List.set_cons_succ, List.map_cons, List.map_nil, List.replicate_succ, List.replicate_zero, List.cons_append, List.nil_append, List.append_nil, List.length_cons, List.length_nil, List.length_map, if_true, if_false, Bool.not_true, Bool.not_false, Bool.false_eq_true, decide_true, decide_false, decide_eq_true_eq, and_true, true_and, and_self, reduceIte, Nat.reduceAdd, Nat.reduceSub, Nat.reduceLeDiff, Nat.reduceLT, Nat.reduceEqDiff, Int.reduceLT, Int.reduceLE, Option.isSome_some, Option.isSome_none, Bool.not_eq_true', Bool.if_true_left]
      refine Go.mk ⟨rg2_ok (by omega) (by omega) (by omega) (by omega), ?_⟩
      refine @wpf_x (SV × SV × O × List O) _ _ _ _ (fun _ => .nx) (fun z => ⟨[SV.d (.ref sa), SV.d (.o 0), SV.d (DI p), SV.d (.int m2), SV.d (.int (numN N m2)), SV.d (opn ad), SV.d (.int (numN p m)), x7, z.1, SV.d (DI N), x10, z.2.1], z.2.2.1 :: z.2.2.2⟩) ?_ ?_
      · refine wp_for (fun i w => ∃ (x8 x11 : SV) (y : O) (rq : List O), PuO y ∧ w = ⟨[SV.d (.ref sa), SV.d (.o 0), SV.d (DI p), SV.d (.int m2), SV.d (.int (numN N m2)), SV.d (opn ad), SV.d (.int (numN p m)), x7, x8, SV.d (DI N), x10, x11], y :: rq⟩) ?_ ?_ ?_
        · exact ⟨x8, SV.un, y5, rest4, hy5, rfl⟩
        · rintro i d w hd ⟨x8, x11, y, rq, hy, rfl⟩
          obtain ⟨k, hk, rfl, k1, k2⟩ := rgD_at hd
          simp only [↓wp_bnd, ↓wp_pure, ↓wp_mVar, ↓wp_oVar, ↓wp_oE, ↓wp_mFrz, ↓wp_mRV, ↓wp_m1, ↓wp_m2, ↓wp_mB, ↓wp_mChain, ↓wp_mAnd, ↓wp_mOr, ↓wp_mNot, ↓wp_mTru, ↓wp_mIf, ↓wp_mAndV, ↓wp_mOrV, ↓wp_mNotV, ↓wp_aNil, ↓wp_aCons, ↓wp_qNil, ↓wp_qCons, ↓wp_mA, ↓wp_mTup, ↓wp_mLst, ↓wp_mIsi, ↓wp_mPart, ↓wp_mSlice, ↓wp_mRg1, ↓wp_mRg2, ↓wp_mRgL, ↓wp_iRg, ↓wp_iLst, ↓wp_mApp, ↓wp_mSeq, ↓wp_mExpr, ↓wp_mRet, ↓wp_mSet, ↓wp_mAsg, ↓wp_mgName, ↓wp_mgNil, ↓wp_mgCons, ↓wp_mgTup, ↓wp_mgSub, ↓wp_mAug, ↓wp_mAugS, ↓wx_mFor, ↓wx_mLc, ↓wx_mCall, ↓wp_mFn, ↓wx_mCallL, tab1_self, ↓wp_mAlloc, ↓wp_mNew, ↓wp_mDGet, ↓wp_mDIn, ↓wp_mDPut, ↓wp_mListK, ↓wp_mPopAt, ↓wp_mScIx, ↓wp_mScLen, ↓wp_mScSlice, Op.get, rs, RV.toD, stV, setW, gets, f1, fII, fAdd, fSub, fMul, fDiv, fMod, fLt, fLe, fGt, fGe, fNeg, asB, truD, isN, fIsN, fNotN, lenD, absD, PD.intD, max2_eq, min2_eq, min3D, listD, tupleD, ixD, isiD, PD.listAt, putAtL, Option.map_some, List.getElem?_cons_zero, List.getElem?_cons_succ, List.set_cons_zero, List.set_cons_succ, List.map_cons, List.map_nil, List.replicate_succ, List.replicate_zero, List.cons_append, List.nil_append, List.append_nil, List.length_cons, List.length_nil, List.length_map, if_true, if_false, Bool.not_true, Bool.not_false, Bool.false_eq_true, decide_true, decide_false, decide_eq_true_eq, and_true, true_and, and_self, reduceIte, Nat.reduceAdd, Nat.reduceSub, Nat.reduceLeDiff, Nat.reduceLT, Nat.reduceEqDiff, Int.reduceLT, Int.reduceLE, Option.isSome_some, Option.isSome_none, Bool.not_eq_true', Bool.if_true_left]
          refine @wpc_x _ { i : List Int × O // Tk N m2 i.1 ∧ PuO i.2 } _ _ _ (fun z => DI z.1.1) (fun z => ⟨[], z.1.2 :: rq⟩) (drawn0 hy s2 r2) ?_
          rintro ⟨⟨t, y6⟩, T, hy6⟩
          have T' : Tk N m2 t := T
          have pl := play_num T' s2.nn r2
          simp only [↓wp_bnd, ↓wp_pure, ↓wp_mVar, ↓wp_oVar, ↓wp_oE, ↓wp_mFrz, ↓wp_mRV, ↓wp_m1, ↓wp_m2, ↓wp_mB, ↓wp_mChain, ↓wp_mAnd, ↓wp_mOr, ↓wp_mNot, ↓wp_mTru, ↓wp_mIf, ↓wp_mAndV, ↓wp_mOrV, ↓wp_mNotV, ↓wp_aNil, ↓wp_aCons, ↓wp_qNil, ↓wp_qCons, ↓wp_mA, ↓wp_mTup, ↓wp_mLst, ↓wp_mIsi, ↓wp_mPart, ↓wp_mSlice, ↓wp_mRg1, ↓wp_mRg2, ↓wp_mRgL, ↓wp_iRg, ↓wp_iLst, ↓wp_mApp, ↓wp_mSeq, ↓wp_mExpr, ↓wp_mRet, ↓wp_mSet, ↓wp_mAsg, ↓wp_mgName, ↓wp_mgNil, ↓wp_mgCons, ↓wp_mgTup, ↓wp_mgSub, ↓wp_mAug, ↓wp_mAugS, ↓wx_mFor, ↓wx_mLc, ↓wx_mCall, ↓wp_mFn, ↓wx_mCallL, tab1_self, ↓wp_mAlloc, ↓wp_mNew, ↓wp_mDGet, ↓wp_mDIn, ↓wp_mDPut, ↓wp_mListK, ↓wp_mPopAt, ↓wp_mScIx, ↓wp_mScLen, ↓wp_mScSlice, Op.get, rs, RV.toD, stV, setW, gets, f1, fII, fAdd, fSub, fMul, fDiv, fMod, fLt, fLe, fGt, fGe, fNeg, asB, truD, isN, fIsN, fNotN, lenD, absD, PD.intD, max2_eq, min2_eq, min3D, listD, tupleD, ixD, isiD, PD.listAt, putAtL, Option.map_some, List.getElem?_cons_zero, List.getElem?_cons_succ, List.set_cons_zero, List.set_cons_succ, List.map_cons, List.map_nil, List.replicate_succ, List.replicate_zero, List.cons_append, List.nil_append, List.append_nil, List.length_cons, List.length_nil, List.length_map, if_true, if_false, Bool.not_true, Bool.not_false, Bool.false_eq_true, decide_true, decide_false, decide_eq_true_eq, and_true, true_and, and_self, reduceIte, Nat.reduceAdd, Nat.reduceSub, Nat.reduceLeDiff, Nat.reduceLT, Nat.reduceEqDiff, Int.reduceLT, Int.reduceLE, Option.isSome_some, Option.isSome_none, Bool.not_eq_true', Bool.if_true_left]
          refine Go.mk (@wpc_x _ (List O) _ _ _ (fun _ => .int (play N m2 (pre t) (N.length + 1) [])) (fun e2 => ⟨[], y6 :: e2⟩) (records0 ad s2 T' r2.lo) ?_)
          intro e2
          simp only [↓wp_bnd, ↓wp_pure, ↓wp_mVar, ↓wp_oVar, ↓wp_oE, ↓wp_mFrz, ↓wp_mRV, ↓wp_m1, ↓wp_m2, ↓wp_mB, ↓wp_mChain, ↓wp_mAnd, ↓wp_mOr, ↓wp_mNot, ↓wp_mTru, ↓wp_mIf, ↓wp_mAndV, ↓wp_mOrV, ↓wp_mNotV, ↓wp_aNil, ↓wp_aCons, ↓wp_qNil, ↓wp_qCons, ↓wp_mA, ↓wp_mTup, ↓wp_mLst, ↓wp_mIsi, ↓wp_mPart, ↓wp_mSlice, ↓wp_mRg1, ↓wp_mRg2, ↓wp_mRgL, ↓wp_iRg, ↓wp_iLst, ↓wp_mApp, ↓wp_mSeq, ↓wp_mExpr, ↓wp_mRet, ↓wp_mSet, ↓wp_mAsg, ↓wp_mgName, ↓wp_mgNil, ↓wp_mgCons, ↓wp_mgTup, ↓wp_mgSub, ↓wp_mAug, ↓wp_mAugS, ↓wx_mFor, ↓wx_mLc, ↓wx_mCall, ↓wp_mFn, ↓wx_mCallL, tab1_self, ↓wp_mAlloc, ↓wp_mNew, ↓wp_mDGet, ↓wp_mDIn, ↓wp_mDPut, ↓wp_mListK, ↓wp_mPopAt, ↓wp_mScIx, ↓wp_mScLen, ↓wp_mScSlice, Op.get, rs, RV.toD, stV, setW, gets, f1, fII, fAdd, fSub, fMul, fDiv, fMod, fLt, fLe, fGt, fGe, fNeg, asB, truD, isN, fIsN, fNotN, lenD, absD, PD.intD, max2_eq, min2_eq, min3D, listD, tupleD, ixD, isiD, PD.listAt, putAtL, Option.map_some, List.getElem?_cons_zero, List.getElem?_cons_succ, List.set_cons_zero, List.set_cons_succ, List.map_cons, List.map_nil, List.replicate_succ, List.replicate_zero, List.cons_append, List.nil_append, List.append_nil, List.length_cons, List.length_nil, List.length_map, if_true, if_false, Bool.not_true, Bool.not_false, Bool.false_eq_true, decide_true, decide_false, decide_eq_true_eq, and_true, true_and, and_self, reduceIte, Nat.reduceAdd, Nat.reduceSub, Nat.reduceLeDiff, Nat.reduceLT, Nat.reduceEqDiff, Int.reduceLT, Int.reduceLE, Option.isSome_some, Option.isSome_none, Bool.not_eq_true', Bool.if_true_left, show ¬ (numN N m2 < play N m2 (pre t) (N.length + 1) []) by omega]
          exact ⟨⟨SV.d (.int (play N m2 (pre t) (N.length + 1) [])), SV.d (.int k), y6, e2, hy6, rfl⟩⟩
        · rintro w ⟨x8, x11, y, rq, hy, rfl⟩
          exact ⟨(x8, x11, y, rq), rfl, rfl⟩
      · rintro ⟨x8, x11, y, rq⟩
        simp only [↓wp_bnd, ↓wp_pure, ↓wp_mVar, ↓wp_oVar, ↓wp_oE, ↓wp_mFrz, ↓wp_mRV, ↓wp_m1, ↓wp_m2, ↓wp_mB, ↓wp_mChain, ↓wp_mAnd, ↓wp_mOr, ↓wp_mNot, ↓wp_mTru, ↓wp_mIf, ↓wp_mAndV, ↓wp_mOrV, ↓wp_mNotV, ↓wp_aNil, ↓wp_aCons, ↓wp_qNil, ↓wp_qCons, ↓wp_mA, ↓wp_mTup, ↓wp_mLst, ↓wp_mIsi, ↓wp_mPart, ↓wp_mSlice, ↓wp_mRg1, ↓wp_mRg2, ↓wp_mRgL, ↓wp_iRg, ↓wp_iLst, ↓wp_mApp, ↓wp_mSeq, ↓wp_mExpr, ↓wp_mRet, ↓wp_mSet, ↓wp_mAsg, ↓wp_mgName, ↓wp_mgNil, ↓wp_mgCons, ↓wp_mgTup, ↓wp_mgSub, ↓wp_mAug, ↓wp_mAugS, ↓wx_mFor, ↓wx_mLc, ↓wx_mCall, ↓wp_mFn, ↓wx_mCallL, tab1_self, ↓wp_mAlloc, ↓wp_mNew, ↓wp_mDGet, ↓wp_mDIn, ↓wp_mDPut, ↓wp_mListK, ↓wp_mPopAt, ↓wp_mScIx, ↓wp_mScLen, ↓wp_mScSlice, Op.get, rs, RV.toD, stV, setW, gets, f1, fII, fAdd, fSub, fMul, fDiv, fMod, fLt, fLe, fGt, fGe, fNeg, asB, truD, isN, fIsN, fNotN, lenD, absD, PD.intD, max2_eq, min2_eq, min3D, listD, tupleD, ixD, isiD, PD.listAt, putAtL, Option.map_some, List.getElem?_cons_zero, List.getElem?_cons_succ, List.set_cons_zero, List.set_cons_succ, List.map_cons, List.map_nil, List.replicate_succ, List.replicate_zero, List.cons_append, List.nil_append, List.append_nil, List.length_cons, List.length_nil, List.length_map, if_true, if_false, Bool.not_true, Bool.not_false, Bool.false_eq_true, decide_true, decide_false, decide_eq_true_eq, and_true, true_and, and_self, reduceIte, Nat.reduceAdd, Nat.reduceSub, Nat.reduceLeDiff, Nat.reduceLT, Nat.reduceEqDiff, Int.reduceLT, Int.reduceLE, Option.isSome_some, Option.isSome_none, Bool.not_eq_true', Bool.if_true_left]
        exact ⟨trivial⟩
theorem law_true : LawTrue := fun ad sa ns _ => by
  obtain ⟨d, w', e, rfl⟩ := wp_ok (law_wp ad sa ns)
  exact ⟨w', e⟩
end
end K73

open PySem PySem.W PySem.Calls PyProof.Rows
theorem K73.holds (hL : K73.LawTrue) : PySem.Challenge.rw_cleanhands_k73_whole_the_built_opener_na.Holds := by
  w_on; o_law
  refine HandSHeadRun.head_any (r := OpenLaw.row PySem.Challenge.rw_cleanhands_k73_whole_the_built_opener_na) (q := view (OpenLaw.row PySem.Challenge.rw_cleanhands_k73_whole_the_built_opener_na).prog [38]) (H := K73.hk) (ob := K73.ob) (M := 3000) (loose := K73.loose) (d := HandSHeadRun.topDef (OpenLaw.row PySem.Challenge.rw_cleanhands_k73_whole_the_built_opener_na).prog 38) (kwd := []) K73.ob_eq
    (by kernel_rfl) (fun s => by kernel_rfl) K73.run (by kernel_rfl) (by kernel_rfl) (by kernel_rfl) (by rfl) (by first | assumption | decide +kernel) (by decide +kernel) ⟨rfl, rfl, rfl, rfl, rfl, by decide +kernel⟩ ?hw ?hc
  case hw => w_witness2
  case hc =>
    refine L2.walk_ofE (l := PySem.Challenge.rw_cleanhands_k73_whole_the_built_opener_na) (n := 63) (k := 55) (x := "script") (CX := L2.CX0) rfl (by decide) (by kernel_rfl) ⟨rfl, by decide, by decide⟩ ?F (fun _ _ _ _ z => z)
    intro w mg fa h Y G hmg0
    obtain ⟨K, KX, c⟩ := Y
    have hmg : mg ("law" : PySem.Str) = some (.ref fa) := by
      have e : (HandSHeadRun.topDef (OpenLaw.row PySem.Challenge.rw_cleanhands_k73_whole_the_built_opener_na).prog 38).name = ("law" : PySem.Str) := by kernel_rfl
      rw [← e]
      exact hmg0
    obtain ⟨fd, hb, hF⟩ := K73.facts hL (P := (PySem.Challenge.rw_cleanhands_k73_whole_the_built_opener_na).prog) (w := w) KX G hmg c
    exact ⟨K, fd, K73.spLaw K, KX, hb, fun H a ns hl _ hS => ⟨a, ns, rfl, hS, hl, fun _ => rfl⟩, hF⟩

theorem PySem.Challenge.cw_cleanhands_k73_whole_the_built_opener_na_holds : PySem.Challenge.rw_cleanhands_k73_whole_the_built_opener_na.Holds := by
  exact K73.holds K73.law_true
