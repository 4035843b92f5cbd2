import PyProof.Rows.All
import Wide.All
import OpenK.AllK
import Wide.FinOn
import HandS.ForMost
import HandS.ForExc
import HandS.IsInst
import HandS.Wide
import HandS.Style
import HandS.Flow
import HandS.AnyAll
import HandS.GenList
import HandS.EndOwn
import HandS.TupAny
import HandS.TupMul
import HandS.Small
import HandS.SortInts
import KE.KEqDict
import PyProof.NeKinds
import HandS.Deep
import HandS.More
import HandS.SetKeys
import HandS.Text
import HandS.ExcInit
import HandS.ExcOwn
import KE.KExcSuper
import HandS.RaiseMore
import HandS.TryOnly
import HandS.ExcField
import HandS.ExcIs
import KE.KExcIs
import HandS.HotCalls
import KE.KExcRaise
import HandS.Strs
import KE.GoesEnum
import KE.GoesMore
import KE.GoesZip
import HandS.Zip
import HandS.Rev
import HandS.RevRange
import HandS.Iter
import HandS.DictComp
import PyProof.CollectWalk
import PyProof.TupleOfSeq
import PyProof.CompFree
import KE.KNestM
import KE.OsRunLaw
import PySem.Challenge.RW_codeline_k08_tokens_laid_and_cut
set_option Elab.async false
set_option linter.all false
set_option maxRecDepth 100000
set_option maxHeartbeats 4000000
set_option autoImplicit false
/-! # A small abstract interpreter over the hand layer: immutable data by value, mutable things by a number -/
namespace Cod
open PySem L2

inductive D where
  | non
  | bl (b : Bool)
  | int (i : Int)
  | str (x : Str)
  | ty (n : String)
  | fn (i : Nat)
  | cl (i : Nat)
  | loc (n : Nat)
  | tup (xs : List D)
  | kd (ks : List Str) (vs : List D)

/-- what stands at a number -/
inductive O where
  | lst (xs : List D)
  | frz (xs : List D)
  | dct (kvs : List (Key × D))
  | lck (kvs : List (Key × D))
  | ins (c : Nat) (fs : List (Str × D))
  | exn (c : Nat) (fs : List (Str × D))
  | ded

noncomputable abbrev AH := List O
noncomputable abbrev Sl := List (Option D)

inductive R (α : Type) where
  | ok (a : α) (h : AH)
  | ex (c : Nat) (fs : List (Str × D)) (h : AH)
  | no

/-- how the program lies in the written part -/
structure Lk where
  K : PySem.W.Frag
  fA : Nat → Addr
  cA : Nat → Addr
  tb : List Addr
  w : World
  /-- the exception that a suite holds: where it lies, its class, its dict -/
  xn : Option (Addr × Nat × Option Addr)
/-- a written dict with texts as keys -/
noncomputable def KD (K : PySem.W.Frag) (w : World) (a : Addr) (ks : List Str) (us : List V) : Prop := ∃ es n, K.lookup a = some ⟨.type "dict", none, .dict es n, #[]⟩ ∧ PySem.W.KeysLit w.params es.toList ∧ (a == sysModules) = false ∧ ks.length = us.length ∧
  ∀ (i : Nat) (k : Str) (v : V), ks[i]? = some k → us[i]? = some v → ∃ u, PySem.W.nsIn K a k = some (some u) ∧ RelV v u

mutual
inductive RD (L : Lk) (A : List Addr) (H : Hp) : D → V → Prop
  | non : RD L A H .non .non
  | bl (b : Bool) : RD L A H (.bl b) (.bl b)
  | int (i : Int) : RD L A H (.int i) (.int i)
  | str (x : Str) : RD L A H (.str x) (.str x)
  | ty (n : String) : RD L A H (.ty n) (.ty n)
  | fn (i : Nat) : RD L A H (.fn i) (.ref (L.fA i))
  | cl (i : Nat) : RD L A H (.cl i) (.ref (L.cA i))
  | loc {n : Nat} {a : Addr} : A[n]? = some a → RD L A H (.loc n) (.ref a)
  | tup {a : Addr} {xs : List D} {vs : List V} : SqT L.K H a vs → RDs L A H xs vs → RD L A H (.tup xs) (.ref a)
  | kd {a : Addr} {ks : List Str} {xs : List D} {vs : List V} : KD L.K L.w a ks vs → RDs L A H xs vs → RD L A H (.kd ks xs) (.ref a)
inductive RDs (L : Lk) (A : List Addr) (H : Hp) : List D → List V → Prop
  | nil : RDs L A H [] []
  | cons {d : D} {v : V} {ds : List D} {vs : List V} : RD L A H d v → RDs L A H ds vs → RDs L A H (d :: ds) (v :: vs)
end

structure Le (A : List Addr) (H : Hp) (A' : List Addr) (H' : Hp) : Prop where
  ap : ∃ B, A' = A ++ B
  tp : ∀ b xs, H b = some (.tup xs) → H' b = some (.tup xs)
  fz : ∀ b o u, H b = some (.frz o u) → H' b = some (.frz o u)
  xd : ∀ b ws, H b = some (.xd ws) → H' b = some (.xd ws)
theorem Le.refl (A : List Addr) (H : Hp) : Le A H A H := ⟨⟨[], by simp⟩, fun _ _ h => h, fun _ _ _ h => h, fun _ _ h => h⟩
theorem Le.trans {A A1 A2 : List Addr} {H H1 H2 : Hp} (a : Le A H A1 H1) (b : Le A1 H1 A2 H2) : Le A H A2 H2 := by
  obtain ⟨⟨B, rfl⟩, t, f, x⟩ := a
  obtain ⟨⟨B', rfl⟩, t', f', x'⟩ := b
  exact ⟨⟨B ++ B', by simp⟩, fun b xs h => t' _ _ (t _ _ h), fun b o u h => f' _ _ _ (f _ _ _ h), fun b ws h => x' _ _ (x _ _ h)⟩
theorem Le.sqT {K : PySem.W.Frag} {A A' : List Addr} {H H' : Hp} {a : Addr} {xs : List V} (l : Le A H A' H') (h : SqT K H a xs) : SqT K H' a xs := by
  rcases h with (h | ⟨o, h⟩) | h
  · exact .inl (.inl (l.tp _ _ h))
  · exact .inl (.inr ⟨o, l.fz _ _ _ h⟩)
  · exact .inr h
theorem Le.at {A A' : List Addr} {H H' : Hp} {n : Nat} {a : Addr} (l : Le A H A' H') (h : A[n]? = some a) : A'[n]? = some a := by
  obtain ⟨⟨B, rfl⟩, _, _, _⟩ := l
  rw [List.getElem?_append_left (List.getElem?_eq_some_iff.mp h).1]
  exact h
mutual
theorem RD.mono {L : Lk} {A A' : List Addr} {H H' : Hp} (l : Le A H A' H') : ∀ (d : D) (v : V), RD L A H d v → RD L A' H' d v
  | .non, _, h => by cases h; exact .non
  | .bl _, _, h => by cases h; exact .bl _
  | .int _, _, h => by cases h; exact .int _
  | .str _, _, h => by cases h; exact .str _
  | .ty _, _, h => by cases h; exact .ty _
  | .fn _, _, h => by cases h; exact .fn _
  | .cl _, _, h => by cases h; exact .cl _
  | .loc _, _, h => by cases h with | loc e => exact .loc (l.at e)
  | .tup xs, _, h => by cases h with | tup e q => exact .tup (l.sqT e) (RDs.mono l xs _ q)
  | .kd ks xs, _, h => by cases h with | kd e q => exact .kd e (RDs.mono l xs _ q)
theorem RDs.mono {L : Lk} {A A' : List Addr} {H H' : Hp} (l : Le A H A' H') : ∀ (ds : List D) (vs : List V), RDs L A H ds vs → RDs L A' H' ds vs
  | [], _, h => by cases h; exact .nil
  | d :: ds, _, h => by cases h with | cons p q => exact .cons (RD.mono l d _ p) (RDs.mono l ds _ q)
end
section
variable {L : Lk} {A A' : List Addr} {H H' : Hp}
theorem RDs.length : ∀ {ds : List D} {vs : List V}, RDs L A H ds vs → ds.length = vs.length
  | _, _, .nil => rfl
  | _, _, .cons _ q => by simp [RDs.length q]
theorem RDs.get : ∀ {ds : List D} {vs : List V} {i : Nat} {d : D}, RDs L A H ds vs → ds[i]? = some d → ∃ v, vs[i]? = some v ∧ RD L A H d v
  | _, _, _, _, .nil, e => by simp at e
  | _, _, 0, _, .cons p _, e => by simp at e; subst e; exact ⟨_, rfl, p⟩
  | _, _, i + 1, d, .cons _ q, e => by simpa using RDs.get (i := i) q (by simpa using e)
theorem RDs.get' : ∀ {ds : List D} {vs : List V} {i : Nat} {v : V}, RDs L A H ds vs → vs[i]? = some v → ∃ d, ds[i]? = some d ∧ RD L A H d v
  | _, _, _, _, .nil, e => by simp at e
  | _, _, 0, _, .cons p _, e => by simp at e; subst e; exact ⟨_, rfl, p⟩
  | _, _, i + 1, d, .cons _ q, e => by simpa using RDs.get' (i := i) q (by simpa using e)
theorem RDs.append : ∀ {ds es : List D} {vs ws : List V}, RDs L A H ds vs → RDs L A H es ws → RDs L A H (ds ++ es) (vs ++ ws)
  | _, _, _, _, .nil, s => s
  | _, _, _, _, .cons p q, s => .cons p (RDs.append q s)
theorem RDs.take : ∀ {ds : List D} {vs : List V} (n : Nat), RDs L A H ds vs → RDs L A H (ds.take n) (vs.take n)
  | _, _, 0, _ => .nil
  | _, _, _ + 1, .nil => .nil
  | _, _, n + 1, .cons p q => .cons p (RDs.take n q)
theorem RDs.drop : ∀ {ds : List D} {vs : List V} (n : Nat), RDs L A H ds vs → RDs L A H (ds.drop n) (vs.drop n)
  | _, _, 0, r => r
  | _, _, _ + 1, .nil => .nil
  | _, _, n + 1, .cons _ q => RDs.drop n q
theorem RDs.set {d : D} {v : V} (r : RD L A H d v) : ∀ {ds : List D} {vs : List V} (i : Nat), RDs L A H ds vs → RDs L A H (ds.set i d) (vs.set i v)
  | _, _, _, .nil => .nil
  | _, _, 0, .cons _ q => .cons r q
  | _, _, i + 1, .cons p q => .cons p (RDs.set r i q)
theorem RDs.reverse : ∀ {ds : List D} {vs : List V}, RDs L A H ds vs → RDs L A H ds.reverse vs.reverse
  | _, _, .nil => .nil
  | _, _, .cons p q => by simpa using (RDs.reverse q).append (.cons p .nil)
theorem RDs.ints : ∀ (ns : List Int), RDs L A H (ns.map D.int) (ns.map V.int)
  | [] => .nil
  | n :: r => .cons (.int n) (RDs.ints r)
theorem RDs.unints : ∀ {ns : List Int} {vs : List V}, RDs L A H (ns.map D.int) vs → vs = ns.map V.int
  | [], _, h => by cases h; rfl
  | n :: r, _, h => by cases h with | cons p q => cases p; rw [RDs.unints q]; rfl

/-- the values by key -/
inductive RKs (L : Lk) (A : List Addr) (H : Hp) {κ : Type} : List (κ × D) → List (κ × V) → Prop
  | nil : RKs L A H [] []
  | cons {k : κ} {d : D} {v : V} {ds : List (κ × D)} {vs : List (κ × V)} : RD L A H d v → RKs L A H ds vs → RKs L A H ((k, d) :: ds) ((k, v) :: vs)
theorem RKs.mono {κ : Type} (l : Le A H A' H') : ∀ {ds : List (κ × D)} {vs : List (κ × V)}, RKs L A H ds vs → RKs L A' H' ds vs
  | _, _, .nil => .nil
  | _, _, .cons p q => .cons (RD.mono l _ _ p) (RKs.mono l q)
theorem RKs.length {κ : Type} : ∀ {ds : List (κ × D)} {vs : List (κ × V)}, RKs L A H ds vs → ds.length = vs.length
  | _, _, .nil => rfl
  | _, _, .cons _ q => by simp [RKs.length q]

noncomputable def RX (L : Lk) (A : List Addr) (H : Hp) (fs : List (Str × D)) : Option Addr → Prop
  | none => fs = []
  | some a => ∃ ws, H a = some (.xd ws) ∧ RKs L A H fs ws
theorem RX.mono (l : Le A H A' H') {fs : List (Str × D)} {d : Option Addr} (h : RX L A H fs d) : RX L A' H' fs d := by
  cases d with
  | none => exact h
  | some a => obtain ⟨ws, e, r⟩ := h; exact ⟨ws, l.xd _ _ e, RKs.mono l r⟩
/-- a list of the written part | one that is locked or written: it is read alone -/
noncomputable def KLst (K : PySem.W.Frag) (a : Addr) (xs : List V) : Prop := ∃ (o : Obj) (its : Array Value) (n : Nat), K.lookup a = some o ∧ o.cls = .type "list" ∧ o.dict = none ∧ o.data = .seq its n ∧ its.size ≤ sizeLine ∧ Vals xs its.toList
noncomputable def FqL (K : PySem.W.Frag) (H : Hp) (a : Addr) (xs : List V) : Prop := (∃ ob, H a = some (.frz ob (.lst xs))) ∨ KLst K a xs
theorem FqL.sq {K : PySem.W.Frag} {H : Hp} {a : Addr} {xs : List V} (h : FqL K H a xs) : SqL K H a xs := by
  rcases h with ⟨ob, h⟩ | h
  · exact .inl (.inr ⟨ob, h⟩)
  · exact .inr h
noncomputable def RO (L : Lk) (A : List Addr) (H : Hp) (a : Addr) : O → Prop
  | .lst xs => ∃ vs, H a = some (.lst vs) ∧ RDs L A H xs vs
  | .frz xs => ∃ vs, FqL L.K H a vs ∧ RDs L A H xs vs
  | .dct kvs => ∃ ws, H a = some (.dK ws) ∧ RKs L A H kvs ws
  | .lck kvs => ∃ ws, (∃ ob, H a = some (.frz ob (.dK ws))) ∧ RKs L A H kvs ws
  | .ins c fs => ∃ dx ws, H a = some (.ins (L.cA c) dx ws) ∧ RKs L A H fs ws
  | .exn c fs => ∃ d, L.xn = some (a, c, d) ∧ RX L A H fs d
  | .ded => True
/-- what hangs on nothing that lies at its place -/
noncomputable def Kfz (L : Lk) (A : List Addr) (H : Hp) (a : Addr) (o : O) : Prop := (∃ xs vs, o = .frz xs ∧ KLst L.K a vs ∧ RDs L A H xs vs) ∨ (∃ c fs d, o = .exn c fs ∧ L.xn = some (a, c, d) ∧ RX L A H fs d) ∨ o = .ded
noncomputable def rdoO : O → Bool
  | .frz _ => true
  | .exn _ _ => true
  | .ded => true
  | _ => false
theorem Kfz.rdo {a : Addr} {o : O} (h : Kfz L A H a o) : rdoO o = true := by
  rcases h with ⟨_, _, rfl, _⟩ | ⟨_, _, _, rfl, _⟩ | rfl <;> rfl
theorem RO.some {a : Addr} {o : O} (h : RO L A H a o) : (∃ u, H a = some u) ∨ Kfz L A H a o := by
  cases o with
  | lst xs => obtain ⟨vs, e, _⟩ := h; exact .inl ⟨_, e⟩
  | frz xs =>
    obtain ⟨vs, ⟨ob, e⟩ | e, r⟩ := h
    · exact .inl ⟨_, e⟩
    · exact .inr (.inl ⟨xs, vs, rfl, e, r⟩)
  | dct xs => obtain ⟨vs, e, _⟩ := h; exact .inl ⟨_, e⟩
  | lck xs => obtain ⟨vs, ⟨ob, e⟩, _⟩ := h; exact .inl ⟨_, e⟩
  | ins c xs => obtain ⟨_, vs, e, _⟩ := h; exact .inl ⟨_, e⟩
  | exn c fs => obtain ⟨d, e, r⟩ := h; exact .inr (.inr (.inl ⟨c, fs, d, rfl, e, r⟩))
  | ded => exact .inr (.inr (.inr rfl))
theorem Kfz.mono {a : Addr} {o : O} (l : Le A H A' H') (h : Kfz L A H a o) : Kfz L A' H' a o := by
  rcases h with ⟨xs, vs, e, k, r⟩ | ⟨c, fs, d, e, k, r⟩ | e
  · exact .inl ⟨xs, vs, e, k, RDs.mono l _ _ r⟩
  · exact .inr (.inl ⟨c, fs, d, e, k, RX.mono l r⟩)
  · exact .inr (.inr e)
theorem Kfz.ro {a : Addr} {o : O} (h : Kfz L A H a o) : RO L A H a o := by
  rcases h with ⟨xs, vs, rfl, k, r⟩ | ⟨c, fs, d, rfl, k, r⟩ | rfl
  · exact ⟨vs, .inr k, r⟩
  · exact ⟨d, k, r⟩
  · trivial
theorem RO.mono {a : Addr} {o : O} (l : Le A H A' H') (e : H' a = H a) (h : RO L A H a o) : RO L A' H' a o := by
  cases o with
  | lst xs => obtain ⟨vs, q, r⟩ := h; exact ⟨vs, e.trans q, RDs.mono l _ _ r⟩
  | frz xs =>
    obtain ⟨vs, ⟨ob, q⟩ | q, r⟩ := h
    · exact ⟨vs, .inl ⟨ob, e.trans q⟩, RDs.mono l _ _ r⟩
    · exact ⟨vs, .inr q, RDs.mono l _ _ r⟩
  | dct xs => obtain ⟨vs, q, r⟩ := h; exact ⟨vs, e.trans q, RKs.mono l r⟩
  | lck xs => obtain ⟨vs, ⟨ob, q⟩, r⟩ := h; exact ⟨vs, ⟨ob, e.trans q⟩, RKs.mono l r⟩
  | ins c xs => obtain ⟨dx, vs, q, r⟩ := h; exact ⟨dx, vs, e.trans q, RKs.mono l r⟩
  | exn c fs => obtain ⟨d, q, r⟩ := h; exact ⟨d, q, RX.mono l r⟩
  | ded => trivial

/-- a code object at c, its table at P -/
noncomputable def CodeG (c P : Addr) : HO := .ext fun h => PySem.W.CodeHd h c P
/-- a table of code objects, each with a table of its own -/
noncomputable def TabD (H : Hp) (P : Addr) : Prop := ∃ ps : Array Value, H P = some (.tbl ps) ∧ TriplesOk ps.toList ∧ ∀ pos cv, codeAmong pos ps.toList = some cv → ∃ (c P' : Addr) (ps' : Array Value), cv = .ref c ∧ H c = some (CodeG c P') ∧ H P' = some (.tbl ps') ∧ TriplesOk ps'.toList
theorem TabD.kept {H H' : Hp} {P : Addr} (t : TabD H P) (k : ∀ b u, H b = some u → ((∃ ps, u = .tbl ps) ∨ ∃ c Q, u = CodeG c Q) → H' b = some u) : TabD H' P := by
  obtain ⟨ps, e, q, r⟩ := t
  refine ⟨ps, k _ _ e (.inl ⟨_, rfl⟩), q, fun pos cv h => ?_⟩
  obtain ⟨c, P', ps', e1, e2, e3, e4⟩ := r pos cv h
  exact ⟨c, P', ps', e1, k _ _ e2 (.inr ⟨_, _, rfl⟩), k _ _ e3 (.inl ⟨_, rfl⟩), e4⟩
structure RH (L : Lk) (A : List Addr) (h : AH) (H : Hp) : Prop where
  len : A.length = h.length
  ap : ∀ (m n : Nat) (a : Addr) (o u : O), A[m]? = some a → A[n]? = some a → h[m]? = some o → h[n]? = some u → m = n ∨ Kfz L A H a o ∨ Kfz L A H a u
  get : ∀ (n : Nat) (a : Addr) (o : O), A[n]? = some a → h[n]? = some o → RO L A H a o
  tab : ∀ P ∈ L.tb, TabD H P
theorem tab_new {p P : Addr} {o : HO} (np : H p = none) (t : TabD H P) : TabD (upd H p o) P := t.kept fun b u e _ => by rw [upd_ne (ne_of_none e np)]; exact e
theorem RH.addr {h : AH} {n : Nat} {o : O} (r : RH L A h H) (e : h[n]? = some o) : ∃ a, A[n]? = some a ∧ RO L A H a o := by
  have hl : n < A.length := by rw [r.len]; exact (List.getElem?_eq_some_iff.mp e).1
  exact ⟨A[n], List.getElem?_eq_getElem hl, r.get n _ o (List.getElem?_eq_getElem hl) e⟩
theorem RH.obj {h : AH} {n : Nat} {a : Addr} (r : RH L A h H) (e : A[n]? = some a) : ∃ o, h[n]? = some o ∧ RO L A H a o := by
  have hl : n < h.length := by rw [← r.len]; exact (List.getElem?_eq_some_iff.mp e).1
  exact ⟨h[n], List.getElem?_eq_getElem hl, r.get n _ _ e (List.getElem?_eq_getElem hl)⟩
theorem Le.new {p : Addr} {o : HO} (np : H p = none) : Le A H A (upd H p o) :=
  ⟨⟨[], by simp⟩, fun b xs e => by rw [upd_ne (ne_of_none e np)]; exact e, fun b o u e => by rw [upd_ne (ne_of_none e np)]; exact e, fun b ws e => by rw [upd_ne (ne_of_none e np)]; exact e⟩
theorem Le.newA {p : Addr} {o : HO} (np : H p = none) : Le A H (A ++ [p]) (upd H p o) :=
  ⟨⟨[p], rfl⟩, (Le.new (A := A) np).tp, (Le.new (A := A) np).fz, (Le.new (A := A) np).xd⟩
theorem RO.new {a p : Addr} {o : O} {u : HO} (np : H p = none) (l : Le A H A' (upd H p u)) (h : RO L A H a o) : RO L A' (upd H p u) a o := by
  by_cases e : a = p
  · subst e
    rcases h.some with ⟨w, z⟩ | z
    · rw [np] at z; cases z
    · exact (z.mono l).ro
  · exact h.mono l (upd_ne e)
/-- a new immutable thing -/
theorem RH.newI {h : AH} {p : Addr} {o : HO} (r : RH L A h H) (np : H p = none) : RH L A h (upd H p o) :=
  ⟨r.len, fun m n a o u e1 e2 e3 e4 => (r.ap m n a o u e1 e2 e3 e4).imp id (Or.imp (·.mono (Le.new np)) (·.mono (Le.new np))), fun n a u e e' => (r.get n a u e e').new np (Le.new np), fun P hP => tab_new np (r.tab P hP)⟩
/-- a new mutable thing -/
theorem RH.newO {h : AH} {p : Addr} {u : HO} {o : O} (r : RH L A h H) (np : H p = none) (ro : RO L (A ++ [p]) (upd H p u) p o) : RH L (A ++ [p]) (h ++ [o]) (upd H p u) := by
  have old : ∀ {n : Nat} {a : Addr} {w : O}, (A ++ [p])[n]? = some a → (h ++ [o])[n]? = some w → (n < A.length ∧ A[n]? = some a ∧ h[n]? = some w) ∨ (n = A.length ∧ a = p ∧ w = o) := fun {n a w} e e' => by
    by_cases hn : n < A.length
    · rw [List.getElem?_append_left hn] at e
      rw [List.getElem?_append_left (by rw [← r.len]; exact hn)] at e'
      exact .inl ⟨hn, e, e'⟩
    · have hn' : n = A.length := by
        have := (List.getElem?_eq_some_iff.mp e).1
        simp at this; omega
      subst hn'
      simp at e
      rw [r.len] at e'
      simp at e'
      exact .inr ⟨rfl, e.symm, e'.symm⟩
  have kf : ∀ {n : Nat} {w : O}, A[n]? = some p → h[n]? = some w → Kfz L (A ++ [p]) (upd H p u) p w := fun {n w} e e' => by
    rcases (r.get n p w e e').some with ⟨z, q⟩ | q
    · rw [np] at q; cases q
    · exact q.mono (Le.newA np)
  refine ⟨by simp [r.len], fun m n a w v e1 e2 e3 e4 => ?_, fun n a w e e' => ?_, fun P hP => tab_new np (r.tab P hP)⟩
  · rcases old e1 e3 with ⟨_, f1, f3⟩ | ⟨f1, f2, f3⟩
    · rcases old e2 e4 with ⟨_, g1, g3⟩ | ⟨g1, g2, g3⟩
      · exact (r.ap m n a w v f1 g1 f3 g3).imp id (Or.imp (·.mono (Le.newA np)) (·.mono (Le.newA np)))
      · subst g2; exact .inr (.inl (kf f1 f3))
    · rcases old e2 e4 with ⟨_, g1, g3⟩ | ⟨g1, g2, g3⟩
      · subst f2; exact .inr (.inr (kf g1 g3))
      · exact .inl (f1.trans g1.symm)
  · rcases old e e' with ⟨_, f1, f3⟩ | ⟨f1, f2, f3⟩
    · exact (r.get n a w f1 f3).new np (Le.newA np)
    · subst f2 f3; exact ro
/-- what may be written over: neither a tuple nor locked -/
noncomputable def mutH : Option HO → Prop
  | some (.lst _) => True
  | some (.dK _) => True
  | some (.ins _ _ _) => True
  | _ => False
theorem Le.put {a : Addr} {u : HO} (m : mutH (H a)) : Le A H A (upd H a u) :=
  ⟨⟨[], by simp⟩, fun b xs e => by
    rw [upd_ne fun z => by rw [z] at e; rw [e] at m; exact m]; exact e, fun b o w e => by
    rw [upd_ne fun z => by rw [z] at e; rw [e] at m; exact m]; exact e, fun b ws e => by
    rw [upd_ne fun z => by rw [z] at e; rw [e] at m; exact m]; exact e⟩
theorem RH.put {h : AH} {n : Nat} {a : Addr} {u : HO} {o o0 : O} (r : RH L A h H) (e : A[n]? = some a) (e0 : h[n]? = some o0) (nf : rdoO o0 = false) (m : mutH (H a)) (ro : RO L A (upd H a u) a o) : RH L A (h.set n o) (upd H a u) := by
  have hn : n < h.length := (List.getElem?_eq_some_iff.mp e0).1
  have kf : ∀ {k : Nat} {w : O}, k ≠ n → A[k]? = some a → h[k]? = some w → Kfz L A (upd H a u) a w := fun {k w} hk e1 e2 => by
    rcases r.ap k n a w o0 e1 e e2 e0 with z | z | z
    · exact absurd z hk
    · exact z.mono (Le.put m)
    · have := z.rdo; rw [nf] at this; cases this
  refine ⟨by simp [r.len], fun k l b w v e1 e2 e3 e4 => ?_, fun k b w e1 e2 => ?_, fun P hP => ?_⟩
  · by_cases hk : k = n
    · by_cases hl : l = n
      · exact .inl (hk.trans hl.symm)
      · subst hk
        rw [e] at e1; cases e1
        rw [List.getElem?_set_ne (Ne.symm hl)] at e4
        exact .inr (.inr (kf hl e2 e4))
    · rw [List.getElem?_set_ne (Ne.symm hk)] at e3
      by_cases hl : l = n
      · subst hl
        rw [e] at e2; cases e2
        exact .inr (.inl (kf hk e1 e3))
      · rw [List.getElem?_set_ne (Ne.symm hl)] at e4
        exact (r.ap k l b w v e1 e2 e3 e4).imp id (Or.imp (·.mono (Le.put m)) (·.mono (Le.put m)))
  · by_cases hk : k = n
    · subst hk
      rw [e] at e1; cases e1
      rw [List.getElem?_set_self hn] at e2
      cases e2
      exact ro
    · rw [List.getElem?_set_ne (Ne.symm hk)] at e2
      by_cases hb : b = a
      · subst hb; exact (kf hk e1 e2).ro
      · exact (r.get k b w e1 e2).mono (Le.put m) (upd_ne hb)
  · refine (r.tab P hP).kept fun b u z hu => ?_
    rw [upd_ne fun y => by
      rw [← y, z] at m
      rcases hu with ⟨ps, rfl⟩ | ⟨c, Q, rfl⟩
      · exact m
      · exact m]
    exact z
end

/-! ### the slots -/
structure RS (L : Lk) (A : List Addr) (H : Hp) (δ : Sl) (σ : L2.St) : Prop where
  len : σ.length = δ.length
  get : ∀ (i : Nat) (d : D), δ[i]? = some (some d) → ∃ v, σ[i]? = some (some v) ∧ RD L A H d v
theorem RS.mono {L : Lk} {A A' : List Addr} {H H' : Hp} {δ : Sl} {σ : L2.St} (l : Le A H A' H') (r : RS L A H δ σ) : RS L A' H' δ σ :=
  ⟨r.len, fun i d e => let ⟨v, e1, q⟩ := r.get i d e; ⟨v, e1, RD.mono l _ _ q⟩⟩
theorem RS.set {L : Lk} {A : List Addr} {H : Hp} {δ : Sl} {σ : L2.St} {i : Nat} {d : D} {v : V} (r : RS L A H δ σ) (q : RD L A H d v) : RS L A H (δ.set i (some d)) (σ.set i (some v)) := by
  refine ⟨by simp [r.len], fun j e h => ?_⟩
  by_cases hj : i = j
  · subst hj
    have hl : i < δ.length := by have := (List.getElem?_eq_some_iff.mp h).1; simpa using this
    rw [List.getElem?_set_self hl] at h
    cases h
    exact ⟨v, List.getElem?_set_self (by rw [r.len]; exact hl), q⟩
  · rw [List.getElem?_set_ne hj] at h
    obtain ⟨w, e1, e2⟩ := r.get j e h
    exact ⟨w, by rw [List.getElem?_set_ne hj]; exact e1, e2⟩
theorem RS.unset {L : Lk} {A : List Addr} {H : Hp} {δ : Sl} {σ : L2.St} {i : Nat} (r : RS L A H δ σ) : RS L A H (δ.set i none) (σ.set i none) := by
  refine ⟨by simp [r.len], fun j e h => ?_⟩
  by_cases hj : i = j
  · subst hj
    have hl : i < δ.length := by have := (List.getElem?_eq_some_iff.mp h).1; simpa using this
    rw [List.getElem?_set_self hl] at h
    cases h
  · rw [List.getElem?_set_ne hj] at h
    obtain ⟨w, e1, e2⟩ := r.get j e h
    exact ⟨w, by rw [List.getElem?_set_ne hj]; exact e1, e2⟩
noncomputable def dwipe (δ : Sl) : List Nat → Sl
  | [] => δ
  | v :: vs => (dwipe δ vs).set v none
theorem RS.wipe {L : Lk} {A : List Addr} {H : Hp} {δ : Sl} {σ : L2.St} (r : RS L A H δ σ) : ∀ vs : List Nat, RS L A H (dwipe δ vs) (L2.wipe σ vs)
  | [] => r
  | v :: vs => (RS.wipe r vs).unset

/-! ### what is wanted behind a run -/
/-- an exception's dict is new to H -/
noncomputable def NwX (H : Hp) (dd : Option Addr) : Prop := ∀ a, dd = some a → ∀ ws, H a ≠ some (.xd ws)
theorem NwX.le {A A1 : List Addr} {H H1 : Hp} {dd : Option Addr} (l : Le A H A1 H1) (n : NwX H1 dd) : NwX H dd := fun a e ws z => n a e ws (l.xd _ _ z)
theorem NwX.none {H : Hp} : NwX H none := fun _ e => nomatch e
noncomputable def Po (L : Lk) (W : WX) (σ : L2.St) (A : List Addr) (H : Hp) {α β : Type} (rel : List Addr → Hp → α → β → Prop) (r : R α) (Q : β → Hp → Prop) : Prop :=
  match r with
  | .ok a h' => ∀ A' b H', Le A H A' H' → RH L A' h' H' → rel A' H' a b → Q b H'
  | .ex c fs h' => ∀ A' dd H', Le A H A' H' → RH L A' h' H' → RX L A' H' fs dd ∧ NwX H dd → W (.ref (L.cA c)) dd σ H'
  | .no => False

noncomputable abbrev ED := Sl → AH → R D
noncomputable abbrev BD := Sl → AH → R Bool
noncomputable abbrev AD := Sl → AH → R (List D)
noncomputable def R.bind {α β : Type} (r : R α) (f : α → AH → R β) : R β :=
  match r with
  | .ok a h => f a h
  | .ex c fs h => .ex c fs h
  | .no => .no
noncomputable def tE (L : Lk) (W : WX) (m : ED) : TE := fun σ H Q => ∃ A δ h, RS L A H δ σ ∧ RH L A h H ∧ Po L W σ A H (RD L) (m δ h) Q
noncomputable def tBo (L : Lk) (W : WX) (m : BD) : TT := fun σ H Q => ∃ A δ h, RS L A H δ σ ∧ RH L A h H ∧ Po L W σ A H (fun _ _ (a b : Bool) => a = b) (m δ h) Q
noncomputable def tAr (L : Lk) (W : WX) (m : AD) : TA := fun σ H Q => ∃ A δ h, RS L A H δ σ ∧ RH L A h H ∧ Po L W σ A H (RDs L) (m δ h) Q

section
variable {L : Lk} {W : WX} {σ : L2.St} {A A1 : List Addr} {H H1 : Hp}
theorem Po.le {α β : Type} {rel : List Addr → Hp → α → β → Prop} {r : R α} {Q : β → Hp → Prop} (l : Le A H A1 H1) (p : Po L W σ A H rel r Q) : Po L W σ A1 H1 rel r Q := by
  cases r with
  | ok a h => exact fun A' b H' l' => p A' b H' (l.trans l')
  | ex c fs h => exact fun A' dd H' l' rh rx => p A' dd H' (l.trans l') rh ⟨rx.1, rx.2.le l⟩
  | no => exact p
theorem Po.imp {α β : Type} {rel : List Addr → Hp → α → β → Prop} {r : R α} {Q Q' : β → Hp → Prop} (p : Po L W σ A H rel r Q) (h : ∀ b H', Q b H' → Q' b H') : Po L W σ A H rel r Q' := by
  cases r with
  | ok a h' => exact fun A' b H' l r q => h _ _ (p A' b H' l r q)
  | ex c fs h' => exact p
  | no => exact p
/-- behind a first part the second is run -/
theorem Po.bind {α β γ ε : Type} {rel : List Addr → Hp → α → β → Prop} {rel' : List Addr → Hp → γ → ε → Prop} {r : R α} {f : α → AH → R γ} {Q : ε → Hp → Prop} (p : Po L W σ A H rel' (r.bind f) Q) :
    Po L W σ A H rel r (fun b H1 => ∃ A1 a h1, Le A H A1 H1 ∧ RH L A1 h1 H1 ∧ rel A1 H1 a b ∧ Po L W σ A1 H1 rel' (f a h1) Q) := by
  cases r with
  | ok a h' => exact fun A' b H' l r q => ⟨A', a, h', l, r, q, Po.le l p⟩
  | ex c fs h' => exact p
  | no => exact p
theorem Po.ok {α β : Type} {rel : List Addr → Hp → α → β → Prop} {a : α} {b : β} {h : AH} {Q : β → Hp → Prop} (p : Po L W σ A H rel (.ok a h) Q) (r : RH L A h H) (q : rel A H a b) : Q b H := p A b H (Le.refl _ _) r q
end
theorem PE.weak {X : Cx} {e : Expr} {t t' : TE} (h : PE X e t) (w : ∀ σ H Q, t' σ H Q → t σ H Q) : PE X e t' := ⟨fun pins s σ H Q I q => h.run pins s σ H Q I (w σ H Q q)⟩
theorem PT.weak {X : Cx} {e : Expr} {t t' : TT} (h : PT X e t) (w : ∀ σ H Q, t' σ H Q → t σ H Q) : PT X e t' := ⟨fun pins s σ H Q I q => h.run pins s σ H Q I (w σ H Q q)⟩
theorem PW.weak {X : Cx} {e : Expr} {t t' : TT} (h : PW X e t) (w : ∀ σ H Q, t' σ H Q → t σ H Q) : PW X e t' := ⟨fun wh pins s σ H Q I q => h.run wh pins s σ H Q I (w σ H Q q)⟩
theorem PA.weak {X : Cx} {e : List Expr} {t t' : TA} (h : PA X e t) (w : ∀ σ H Q, t' σ H Q → t σ H Q) : PA X e t' := ⟨fun pos pins s σ H Q I q => h.run pos pins s σ H Q I (w σ H Q q)⟩
theorem PS.weak {X : Cx} {e : Stmt} {t t' : TS} (h : PS X e t) (w : ∀ D σ H, t' D σ H → t D σ H) : PS X e t' := ⟨fun pins s σ H D I q => h.run pins s σ H D I (w D σ H q)⟩
theorem PSs.weak {X : Cx} {e : List Stmt} {t t' : TS} (h : PSs X e t) (w : ∀ D σ H, t' D σ H → t D σ H) : PSs X e t' := ⟨fun pins s σ H D I q => h.run pins s σ H D I (w D σ H q)⟩
theorem PE.none {X : Cx} {L : Lk} {W : WX} {e : Expr} : PE X e (tE L W fun _ _ => .no) := ⟨fun _ _ _ _ _ _ ⟨_, _, _, _, _, z⟩ => False.elim z⟩
theorem PT.none {X : Cx} {L : Lk} {W : WX} {e : Expr} : PT X e (tBo L W fun _ _ => .no) := ⟨fun _ _ _ _ _ _ ⟨_, _, _, _, _, z⟩ => False.elim z⟩
end Cod

namespace Cod
open PySem L2 PySem.Spec PyProof.Rows

/-! ### expressions: combinators and their rules -/
noncomputable def eC (d : D) : ED := fun _ h => .ok d h
noncomputable def eVar (i : Nat) : ED := fun δ h => match δ[i]? with
  | some (some d) => .ok d h
  | _ => .no
noncomputable def e2 (g : D → D → AH → R D) (a b : ED) : ED := fun δ h => (a δ h).bind fun x h1 => (b δ h1).bind fun y h2 => g x y h2
noncomputable def e1 (g : D → AH → R D) (a : ED) : ED := fun δ h => (a δ h).bind fun x h1 => g x h1
noncomputable def aNil : AD := fun _ h => .ok [] h
noncomputable def aCons (a : ED) (r : AD) : AD := fun δ h => (a δ h).bind fun x h1 => (r δ h1).bind fun xs h2 => .ok (x :: xs) h2
noncomputable def eA (g : List D → AH → R D) (a : AD) : ED := fun δ h => (a δ h).bind fun xs h1 => g xs h1

/-- a value that does not hang on the heap -/
noncomputable def RG (L : Lk) (d : D) (v : V) : Prop := ∀ A H, RD L A H d v

noncomputable def OpS (X : Cx) (L : Lk) (W : WX) (f : Value → Value → Sem Value) (g : D → D → AH → R D) : Prop := ∃ r : R2, OpR X f r ∧
  ∀ (σ : L2.St) (A : List Addr) (h : AH) (H : Hp) (x y : V) (d e : D) (Q : VK), RH L A h H → RD L A H d x → RD L A H e y → Po L W σ A H (RD L) (g d e h) Q → r x y H Q
noncomputable def UnS (X : Cx) (L : Lk) (W : WX) (f : Value → Sem Value) (g : D → AH → R D) : Prop := ∃ r : V → Hp → VK → Prop, UnR X f r ∧
  ∀ (σ : L2.St) (A : List Addr) (h : AH) (H : Hp) (x : V) (d : D) (Q : VK), RH L A h H → RD L A H d x → Po L W σ A H (RD L) (g d h) Q → r x H Q
noncomputable def CaS (X : Cx) (L : Lk) (W : WX) (f : Value) (g : List D → AH → R D) : Prop := ∃ r : List V → Hp → VK → Prop, CallR X f r ∧
  ∀ (σ : L2.St) (A : List Addr) (h : AH) (H : Hp) (xs : List V) (ds : List D) (Q : VK), RH L A h H → RDs L A H ds xs → Po L W σ A H (RD L) (g ds h) Q → r xs H Q

section
variable {X : Cx} {L : Lk} {W : WX} {pos : Pos} {a b c : Expr} {ma mb mc : ED}

theorem e_const {v : V} {d : D} {e : Expr} (h : PE X e (tC v)) (r : RG L d v) : PE X e (tE L W (eC d)) :=
  PE.weak h fun σ H Q ⟨A, δ, h, rs, rh, p⟩ => Po.ok p rh (r A H)
theorem e_int {i : Int} {j : Nat} : PE X (.Constant (.int i) j pos) (tE L W (eC (.int i))) := e_const pe_int fun _ _ => .int i
theorem e_bl {i : Bool} {j : Nat} : PE X (.Constant (.bool i) j pos) (tE L W (eC (.bl i))) := e_const pe_bl fun _ _ => .bl i
theorem e_str {i : Str} {j : Nat} : PE X (.Constant (.str i) j pos) (tE L W (eC (.str i))) := e_const pe_str fun _ _ => .str i
theorem e_non {j : Nat} : PE X (.Constant .none j pos) (tE L W (eC .non)) := e_const pe_non fun _ _ => .non
theorem e_var {i : Nat} {x : Str} (hN : X.N[i]? = some x) (hv : Vis X.env.scope x) (hd : (x == ("__debug__" : Str)) = false) (hcd : (x == ("__classdict__" : Str)) = false) : PE X (.Name x pos) (tE L W (eVar i)) := by
  refine PE.weak (pe_var hN hv hd hcd) fun σ H Q ⟨A, δ, h, rs, rh, p⟩ => ?_
  unfold eVar at p
  split at p
  · rename_i d e
    obtain ⟨v, e1, q⟩ := rs.get i d e
    exact ⟨v, e1, Po.ok p rh q⟩
  · exact p.elim
theorem e_glob {x : Str} {v : V} {u : Value} {d : D} (hg : Gl X x) (hm : X.mg x = some u) (r : RelV v u) (rd : RG L d v) (hd : (x == ("__debug__" : Str)) = false) : PE X (.Name x pos) (tE L W (eC d)) := e_const (pe_glob hg hm r hd) rd
theorem e_op {op : Operator} {g : D → D → AH → R D} (o : OpS X L W (binaryOp op) g) (ha : PE X a (tE L W ma)) (hb : PE X b (tE L W mb)) : PE X (.BinOp a op b pos) (tE L W (e2 g ma mb)) := by
  obtain ⟨r, ho, hr⟩ := o
  refine PE.weak (pe_op ho ha hb) fun σ H Q ⟨A, δ, h, rs, rh, p⟩ => ?_
  exact ⟨A, δ, h, rs, rh, (Po.bind p).imp fun x H1 ⟨A1, d, h1, l, rh1, q, p1⟩ => ⟨A1, δ, h1, rs.mono l, rh1, (Po.bind p1).imp fun y H2 ⟨A2, e, h2, l2, rh2, q2, p2⟩ => hr σ A2 h2 H2 x y d e Q rh2 (RD.mono l2 _ _ q) q2 p2⟩⟩
theorem e_cmp {op : CmpOp} {g : D → D → AH → R D} (o : OpS X L W (compareOp op) g) (ha : PE X a (tE L W ma)) (hb : PE X b (tE L W mb)) (hm : behindInMarks op b = false) : PE X (.Compare a [op] [b] pos) (tE L W (e2 g ma mb)) := by
  obtain ⟨r, ho, hr⟩ := o
  refine PE.weak (pe_cmpR ho ha hb hm) fun σ H Q ⟨A, δ, h, rs, rh, p⟩ => ?_
  exact ⟨A, δ, h, rs, rh, (Po.bind p).imp fun x H1 ⟨A1, d, h1, l, rh1, q, p1⟩ => ⟨A1, δ, h1, rs.mono l, rh1, (Po.bind p1).imp fun y H2 ⟨A2, e, h2, l2, rh2, q2, p2⟩ => hr σ A2 h2 H2 x y d e Q rh2 (RD.mono l2 _ _ q) q2 p2⟩⟩
theorem e_ix {g : D → D → AH → R D} (o : ∃ r : R2, IxR X r ∧ ∀ (σ : L2.St) (A : List Addr) (h : AH) (H : Hp) (x y : V) (d e : D) (Q : VK), RH L A h H → RD L A H d x → RD L A H e y → Po L W σ A H (RD L) (g d e h) Q → r x y H Q)
    (ha : PE X a (tE L W ma)) (hb : PE X b (tE L W mb)) (hs : PlainIx b) : PE X (.Subscript a b pos) (tE L W (e2 g ma mb)) := by
  obtain ⟨r, ho, hr⟩ := o
  refine PE.weak (pe_ix ho ha hb hs) fun σ H Q ⟨A, δ, h, rs, rh, p⟩ => ?_
  exact ⟨A, δ, h, rs, rh, (Po.bind p).imp fun x H1 ⟨A1, d, h1, l, rh1, q, p1⟩ => ⟨A1, δ, h1, rs.mono l, rh1, (Po.bind p1).imp fun y H2 ⟨A2, e, h2, l2, rh2, q2, p2⟩ => hr σ A2 h2 H2 x y d e Q rh2 (RD.mono l2 _ _ q) q2 p2⟩⟩
theorem e_un {op : UnaryOp} {g : D → AH → R D} (o : UnS X L W (unaryOp op) g) (ha : PE X a (tE L W ma)) : PE X (.UnaryOp op a pos) (tE L W (e1 g ma)) := by
  obtain ⟨r, ho, hr⟩ := o
  refine PE.weak (pe_un ho ha) fun σ H Q ⟨A, δ, h, rs, rh, p⟩ => ?_
  exact ⟨A, δ, h, rs, rh, (Po.bind p).imp fun x H1 ⟨A1, d, h1, l, rh1, q, p1⟩ => hr σ A1 h1 H1 x d Q rh1 q p1⟩

/-! ### arguments, displays -/
theorem starOk {e : Expr} {es : List Expr} (h : (match e with | .Starred _ _ => false | _ => true) = true) : starEach (e :: es) X.env = (false, eval e X.env) :: starEach es X.env := by
  cases e <;> first | rfl | cases h
theorem a_nil : PA X [] (tAr L W aNil) := PA.weak pa_nil fun σ H Q ⟨A, δ, h, rs, rh, p⟩ => Po.ok p rh .nil
theorem a_cons {e : Expr} {es : List Expr} {r : AD} (ha : PE X e (tE L W ma)) (hr : PA X es (tAr L W r)) (hs : starEach (e :: es) X.env = (false, eval e X.env) :: starEach es X.env) : PA X (e :: es) (tAr L W (aCons ma r)) := by
  refine PA.weak (pa_cons ha hr hs) fun σ H Q ⟨A, δ, h, rs, rh, p⟩ => ?_
  exact ⟨A, δ, h, rs, rh, (Po.bind p).imp fun x H1 ⟨A1, d, h1, l, rh1, q, p1⟩ => ⟨A1, δ, h1, rs.mono l, rh1, (Po.bind p1).imp fun xs H2 ⟨A2, ds, h2, l2, rh2, q2, p2⟩ => Po.ok p2 rh2 (.cons (RD.mono l2 _ _ q) q2)⟩⟩
/-- lists of up to this many items are made -/
noncomputable def lim : Nat := 1000000
theorem lim_ok {n : Nat} (h : n ≤ lim) : n ≤ sizeLine := Nat.le_trans h (by rw [sizeLine_eq]; decide)
theorem lim_lt {n : Nat} (h : n < lim) : n < sizeLine := Nat.lt_of_lt_of_le h (by rw [sizeLine_eq]; decide)
noncomputable def mkTup (xs : List D) (h : AH) : R D := if xs.length ≤ lim then .ok (.tup xs) h else .no
noncomputable def mkLst (xs : List D) (h : AH) : R D := if xs.length ≤ lim then .ok (.loc h.length) (h ++ [.lst xs]) else .no
theorem Po.newTup {σ : L2.St} {A : List Addr} {h : AH} {H : Hp} {xs : List D} {vs : List V} {Q : VK} {p : Addr} (po : Po L W σ A H (RD L) (.ok (.tup xs) h) Q) (rh : RH L A h H) (q : RDs L A H xs vs) (np : H p = none) : Q (.ref p) (upd H p (.tup vs)) :=
  po A _ _ (Le.new np) (rh.newI np) (.tup (SqT.of upd_same) (RDs.mono (Le.new np) _ _ q))
theorem Po.newLst {σ : L2.St} {A : List Addr} {h : AH} {H : Hp} {xs : List D} {vs : List V} {Q : VK} {p : Addr} (po : Po L W σ A H (RD L) (.ok (.loc h.length) (h ++ [.lst xs])) Q) (rh : RH L A h H) (q : RDs L A H xs vs) (np : H p = none) : Q (.ref p) (upd H p (.lst vs)) :=
  po (A ++ [p]) _ _ (Le.newA np) (rh.newO np ⟨vs, upd_same, RDs.mono (Le.newA np) _ _ q⟩) (.loc (by rw [← rh.len]; simp))
theorem e_tup {es : List Expr} {r : AD} {x1 : Nat} (h : PA X es (tAr L W r)) : PE X (.Tuple es x1 pos) (tE L W (eA mkTup r)) := by
  refine PE.weak (pe_tup h) fun σ H Q ⟨A, δ, h, rs, rh, p⟩ => ?_
  refine ⟨A, δ, h, rs, rh, (Po.bind p).imp fun xs H1 ⟨A1, ds, h1, l, rh1, q, p1⟩ => ?_⟩
  unfold mkTup at p1
  split at p1
  · rename_i hz
    exact ⟨by rw [← q.length]; exact lim_ok hz, fun p np => Po.newTup p1 rh1 q np⟩
  · exact p1.elim
theorem e_lst {es : List Expr} {r : AD} (h : PA X es (tAr L W r)) : PE X (.List es pos) (tE L W (eA mkLst r)) := by
  refine PE.weak (pe_lst h) fun σ H Q ⟨A, δ, h, rs, rh, p⟩ => ?_
  refine ⟨A, δ, h, rs, rh, (Po.bind p).imp fun xs H1 ⟨A1, ds, h1, l, rh1, q, p1⟩ => ?_⟩
  unfold mkLst at p1
  split at p1
  · rename_i hz
    exact ⟨by rw [← q.length]; exact lim_ok hz, fun p np => Po.newLst p1 rh1 q np⟩
  · exact p1.elim

/-! ### tests -/
noncomputable def bNot (m : BD) : BD := fun δ h => (m δ h).bind fun b h1 => .ok (!b) h1
noncomputable def bAnd (m n : BD) : BD := fun δ h => (m δ h).bind fun b h1 => if b = true then n δ h1 else .ok false h1
noncomputable def bOr (m n : BD) : BD := fun δ h => (m δ h).bind fun b h1 => if b = true then .ok true h1 else n δ h1
noncomputable def truD (d : D) (h : AH) : R Bool := match d with
  | .non => .ok false h
  | .bl b => .ok b h
  | .int i => .ok (i != 0) h
  | .str x => if x.length ≤ lim then .ok ((x.length : Int) != 0) h else .no
  | .tup xs => .ok (!xs.isEmpty) h
  | .loc n => match h[n]? with
    | some (.lst xs) => .ok (!xs.isEmpty) h
    | some (.frz xs) => .ok (!xs.isEmpty) h
    | some (.dct xs) => .ok (!xs.isEmpty) h
    | _ => .no
  | _ => .no
noncomputable def bTru (m : ED) : BD := fun δ h => (m δ h).bind truD
noncomputable def asB (d : D) (h : AH) : R Bool := match d with
  | .bl b => .ok b h
  | _ => .no
noncomputable def bOf (m : ED) : BD := fun δ h => (m δ h).bind asB
noncomputable def eIf (c : BD) (a b : ED) : ED := fun δ h => (c δ h).bind fun k h1 => if k = true then a δ h1 else b δ h1
variable {c1 c2 : BD} {rest : List Expr}
theorem b_of_cmp {op : CmpOp} {g : D → D → AH → R D} (o : OpS X L W (compareOp op) g) (ha : PE X a (tE L W ma)) (hb : PE X b (tE L W mb)) (hm : behindInMarks op b = false) : PT X (.Compare a [op] [b] pos) (tBo L W (bOf (e2 g ma mb))) := by
  obtain ⟨r, ho, hr⟩ := o
  refine PT.weak (pt_cmpR ho ha hb hm) fun σ H Q ⟨A, δ, h, rs, rh, p⟩ => ?_
  have p' : Po L W σ A H (RD L) (e2 g ma mb δ h) (fun v H1 => ∃ k, v = .bl k ∧ Q k H1) := (Po.bind p).imp fun v H1 ⟨A1, d, h1, l, rh1, q, p1⟩ => by
    unfold asB at p1
    split at p1
    · cases q; exact ⟨_, rfl, Po.ok p1 rh1 rfl⟩
    · exact p1.elim
  exact ⟨A, δ, h, rs, rh, (Po.bind p').imp fun x H1 ⟨A1, d, h1, l, rh1, q, p1⟩ => ⟨A1, δ, h1, rs.mono l, rh1, (Po.bind p1).imp fun y H2 ⟨A2, e, h2, l2, rh2, q2, p2⟩ => hr σ A2 h2 H2 x y d e _ rh2 (RD.mono l2 _ _ q) q2 p2⟩⟩
theorem b_tru (hK : X.K = L.K) (ha : PE X a (tE L W ma)) (he : ∀ whole, isTrue a X.env whole = (do let v ← whole; standAt a.pos; holding [v] (truthy v))) : PT X a (tBo L W (bTru ma)) := by
  refine PT.weak (pt_truth ha he) fun σ H Q ⟨A, δ, h, rs, rh, p⟩ => ⟨A, δ, h, rs, rh, (Po.bind p).imp fun v H1 ⟨A1, d, h1, l, rh1, q, p1⟩ => ?_⟩
  rw [hK]
  cases d with
  | non => cases q; exact ⟨_, rfl, Po.ok p1 rh1 rfl⟩
  | bl b => cases q; exact ⟨_, rfl, Po.ok p1 rh1 rfl⟩
  | int i => cases q; exact ⟨_, rfl, Po.ok p1 rh1 rfl⟩
  | str x =>
    cases q
    unfold truD at p1
    simp only at p1
    split at p1
    · exact ⟨_, ⟨lim_ok (by assumption), rfl⟩, Po.ok p1 rh1 rfl⟩
    · exact p1.elim
  | ty n => exact p1.elim
  | fn n => exact p1.elim
  | cl n => exact p1.elim
  | kd ks vs => exact p1.elim
  | tup xs =>
    cases q with
    | @tup _ _ vs hs hr =>
      refine ⟨_, Or.inr (Or.inl ⟨_, hs, rfl⟩), ?_⟩
      have e : (!xs.isEmpty) = !vs.isEmpty := by
        cases hr <;> rfl
      rw [← e]
      exact Po.ok p1 rh1 rfl
  | loc n =>
    cases q with
    | loc e =>
      obtain ⟨o, eo, ro⟩ := rh1.obj e
      unfold truD at p1
      simp only [eo] at p1
      cases o with
      | lst xs =>
        obtain ⟨vs, e1, r1⟩ := ro
        refine ⟨_, Or.inl ⟨_, SqL.of e1, rfl⟩, ?_⟩
        have e : (!xs.isEmpty) = !vs.isEmpty := by cases r1 <;> rfl
        rw [← e]
        exact Po.ok p1 rh1 rfl
      | frz xs =>
        obtain ⟨vs, e1, r1⟩ := ro
        refine ⟨_, Or.inl ⟨_, e1.sq, rfl⟩, ?_⟩
        have e : (!xs.isEmpty) = !vs.isEmpty := by cases r1 <;> rfl
        rw [← e]
        exact Po.ok p1 rh1 rfl
      | dct xs =>
        obtain ⟨vs, e1, r1⟩ := ro
        refine ⟨_, Or.inr (Or.inr ⟨_, e1, rfl⟩), ?_⟩
        have e : (!xs.isEmpty) = !vs.isEmpty := by cases r1 <;> rfl
        rw [← e]
        exact Po.ok p1 rh1 rfl
      | lck xs => exact p1.elim
      | ins c fs => exact p1.elim
      | exn c fs => exact p1.elim
      | ded => exact p1.elim
theorem b_not (ha : PT X a (tBo L W c1)) : PT X (.UnaryOp .Not a pos) (tBo L W (bNot c1)) := by
  refine PT.weak (pt_not ha) fun σ H Q ⟨A, δ, h, rs, rh, p⟩ => ⟨A, δ, h, rs, rh, (Po.bind p).imp fun v H1 ⟨A1, d, h1, l, rh1, q, p1⟩ => ?_⟩
  cases q
  exact Po.ok p1 rh1 rfl
theorem w_and1 (ha : PT X a (tBo L W c1)) : PW X (.BoolOp .And [a] pos) (tBo L W c1) := pw_and1 ha
theorem w_or1 (ha : PT X a (tBo L W c1)) : PW X (.BoolOp .Or [a] pos) (tBo L W c1) := pw_or1 ha
theorem w_and (ha : PT X a (tBo L W c1)) (hb : PW X (.BoolOp .And (b :: rest) pos) (tBo L W c2)) : PW X (.BoolOp .And (a :: b :: rest) pos) (tBo L W (bAnd c1 c2)) := by
  refine PW.weak (pw_and ha hb) fun σ H Q ⟨A, δ, h, rs, rh, p⟩ => ⟨A, δ, h, rs, rh, (Po.bind p).imp fun v H1 ⟨A1, d, h1, l, rh1, q, p1⟩ => ?_⟩
  cases q
  cases v with
  | true => exact ⟨A1, δ, h1, rs.mono l, rh1, p1⟩
  | false => exact Po.ok p1 rh1 rfl
theorem w_or (ha : PT X a (tBo L W c1)) (hb : PW X (.BoolOp .Or (b :: rest) pos) (tBo L W c2)) : PW X (.BoolOp .Or (a :: b :: rest) pos) (tBo L W (bOr c1 c2)) := by
  refine PW.weak (pw_or ha hb) fun σ H Q ⟨A, δ, h, rs, rh, p⟩ => ⟨A, δ, h, rs, rh, (Po.bind p).imp fun v H1 ⟨A1, d, h1, l, rh1, q, p1⟩ => ?_⟩
  cases q
  cases v with
  | true => exact Po.ok p1 rh1 rfl
  | false => exact ⟨A1, δ, h1, rs.mono l, rh1, p1⟩
theorem e_if (hc : PT X c (tBo L W c1)) (ha : PE X a (tE L W ma)) (hb : PE X b (tE L W mb)) : PE X (.IfExp c a b pos) (tE L W (eIf c1 ma mb)) := by
  refine PE.weak (pe_ifExp hc ha hb) fun σ H Q ⟨A, δ, h, rs, rh, p⟩ => ⟨A, δ, h, rs, rh, (Po.bind p).imp fun v H1 ⟨A1, d, h1, l, rh1, q, p1⟩ => ?_⟩
  cases q
  cases v with
  | true => exact ⟨A1, δ, h1, rs.mono l, rh1, p1⟩
  | false => exact ⟨A1, δ, h1, rs.mono l, rh1, p1⟩
/-- and, or, not of truths, as values -/
noncomputable def eAnd (a b : ED) : ED := fun δ h => (a δ h).bind fun x h1 => match x with
  | .bl true => b δ h1
  | .bl false => .ok (.bl false) h1
  | _ => .no
noncomputable def eOr (a b : ED) : ED := fun δ h => (a δ h).bind fun x h1 => match x with
  | .bl true => .ok (.bl true) h1
  | .bl false => b δ h1
  | _ => .no
noncomputable def notD (d : D) (h : AH) : R D := match d with
  | .bl b => .ok (.bl (!b)) h
  | _ => .no
theorem e_one {op : BoolOp} (h : PE X a (tE L W ma)) : PE X (.BoolOp op [a] pos) (tE L W ma) := pe_one h
theorem e_and (ha : PE X a (tE L W ma)) (hb : PE X (.BoolOp .And (b :: rest) pos) (tE L W mb)) : PE X (.BoolOp .And (a :: b :: rest) pos) (tE L W (eAnd ma mb)) := by
  refine PE.weak (pe_and ha hb) fun σ H Q ⟨A, δ, h, rs, rh, p⟩ => ⟨A, δ, h, rs, rh, (Po.bind p).imp fun v H1 ⟨A1, d, h1, l, rh1, q, p1⟩ => ?_⟩
  split at p1
  · cases q; exact ⟨true, rfl, A1, δ, h1, rs.mono l, rh1, p1⟩
  · cases q; exact ⟨false, rfl, Po.ok p1 rh1 (.bl false)⟩
  · exact p1.elim
theorem e_or (ha : PE X a (tE L W ma)) (hb : PE X (.BoolOp .Or (b :: rest) pos) (tE L W mb)) : PE X (.BoolOp .Or (a :: b :: rest) pos) (tE L W (eOr ma mb)) := by
  refine PE.weak (pe_or ha hb) fun σ H Q ⟨A, δ, h, rs, rh, p⟩ => ⟨A, δ, h, rs, rh, (Po.bind p).imp fun v H1 ⟨A1, d, h1, l, rh1, q, p1⟩ => ?_⟩
  split at p1
  · cases q; exact ⟨true, rfl, Po.ok p1 rh1 (.bl true)⟩
  · cases q; exact ⟨false, rfl, A1, δ, h1, rs.mono l, rh1, p1⟩
  · exact p1.elim
theorem e_not (ha : PE X a (tE L W ma)) : PE X (.UnaryOp .Not a pos) (tE L W (e1 notD ma)) := by
  refine PE.weak (pe_not ha) fun σ H Q ⟨A, δ, h, rs, rh, p⟩ => ⟨A, δ, h, rs, rh, (Po.bind p).imp fun v H1 ⟨A1, d, h1, l, rh1, q, p1⟩ => ?_⟩
  unfold notD at p1
  split at p1
  · cases q; exact ⟨_, rfl, Po.ok p1 rh1 (.bl _)⟩
  · exact p1.elim
/-- a < b < c -/
noncomputable def eCh (g g' : D → D → AH → R D) (a b c : ED) : ED := fun δ h => (a δ h).bind fun x h1 => (b δ h1).bind fun y h2 => (g x y h2).bind fun z h3 => match z with
  | .bl true => (c δ h3).bind fun w h4 => g' y w h4
  | .bl false => .ok (.bl false) h3
  | _ => .no
theorem ch_of {op op' : CmpOp} {g g' : D → D → AH → R D} {r r' : R2}
    (hr : ∀ (σ : L2.St) (A : List Addr) (h : AH) (H : Hp) (x y : V) (d e : D) (Q : VK), RH L A h H → RD L A H d x → RD L A H e y → Po L W σ A H (RD L) (g d e h) Q → r x y H Q)
    (hr' : ∀ (σ : L2.St) (A : List Addr) (h : AH) (H : Hp) (x y : V) (d e : D) (Q : VK), RH L A h H → RD L A H d x → RD L A H e y → Po L W σ A H (RD L) (g' d e h) Q → r' x y H Q)
    (σ : L2.St) (H : Hp) (Q : VK) : tE L W (eCh g g' ma mb mc) σ H Q → tChain r r' (tE L W ma) (tE L W mb) (tE L W mc) σ H Q := by
  rintro ⟨A, δ, h, rs, rh, p⟩
  refine ⟨A, δ, h, rs, rh, (Po.bind p).imp fun x H1 ⟨A1, d, h1, l, rh1, q, p1⟩ => ⟨A1, δ, h1, rs.mono l, rh1, (Po.bind p1).imp fun y H2 ⟨A2, e, h2, l2, rh2, q2, p2⟩ => ?_⟩⟩
  refine hr σ A2 h2 H2 x y d e _ rh2 (RD.mono l2 _ _ q) q2 ((Po.bind p2).imp fun z H3 ⟨A3, f, h3, l3, rh3, q3, p3⟩ => ?_)
  split at p3
  · cases q3
    refine ⟨true, rfl, ?_⟩
    rw [if_pos rfl]
    exact ⟨A3, δ, h3, rs.mono (l.trans (l2.trans l3)), rh3, (Po.bind p3).imp fun w H4 ⟨A4, u, h4, l4, rh4, q4, p4⟩ => hr' σ A4 h4 H4 y w e u Q rh4 (RD.mono (l3.trans l4) _ _ q2) q4 p4⟩
  · cases q3
    refine ⟨false, rfl, ?_⟩
    rw [if_neg Bool.false_ne_true]
    exact Po.ok p3 rh3 (.bl false)
  · exact p3.elim
theorem e_ch {op op' : CmpOp} {g g' : D → D → AH → R D} (o : OpS X L W (compareOp op) g) (o' : OpS X L W (compareOp op') g') (ha : PE X a (tE L W ma)) (hb : PE X b (tE L W mb)) (hc : PE X c (tE L W mc))
    (hm : lastMarks [op, op'] [b, c] = false) : PE X (.Compare a [op, op'] [b, c] pos) (tE L W (eCh g g' ma mb mc)) := by
  obtain ⟨r, ho, hr⟩ := o
  obtain ⟨r', ho', hr'⟩ := o'
  exact PE.weak (pe_chain ho ho' ha hb hc hm) (ch_of (op := op) (op' := op') hr hr')
theorem b_ch {op op' : CmpOp} {g g' : D → D → AH → R D} (o : OpS X L W (compareOp op) g) (o' : OpS X L W (compareOp op') g') (ha : PE X a (tE L W ma)) (hb : PE X b (tE L W mb)) (hc : PE X c (tE L W mc))
    (hm : lastMarks [op, op'] [b, c] = false) : PT X (.Compare a [op, op'] [b, c] pos) (tBo L W (bOf (eCh g g' ma mb mc))) := by
  obtain ⟨r, ho, hr⟩ := o
  obtain ⟨r', ho', hr'⟩ := o'
  refine PT.weak (pt_chain ho ho' ha hb hc hm) fun σ H Q ⟨A, δ, h, rs, rh, p⟩ => ?_
  refine ch_of (op := op) (op' := op') hr hr' σ H _ ⟨A, δ, h, rs, rh, (Po.bind p).imp fun v H1 ⟨A1, d, h1, l, rh1, q, p1⟩ => ?_⟩
  unfold asB at p1
  split at p1
  · cases q; exact ⟨_, rfl, Po.ok p1 rh1 rfl⟩
  · exact p1.elim
/-- a < b < c < d -/
noncomputable def eCh3 (g g' g2 : D → D → AH → R D) (a b c d : ED) : ED := fun δ h => (a δ h).bind fun x h1 => (b δ h1).bind fun y h2 => (g x y h2).bind fun z h3 => match z with
  | .bl true => (c δ h3).bind fun w h4 => (g' y w h4).bind fun z' h5 => match z' with
    | .bl true => (d δ h5).bind fun v h6 => g2 w v h6
    | .bl false => .ok (.bl false) h5
    | _ => .no
  | .bl false => .ok (.bl false) h3
  | _ => .no
noncomputable def tChain3 (r r' r2 : R2) (ta tb tc td : TE) : TE := fun σ H Q => ta σ H fun x H1 => tb σ H1 fun y H2 => r x y H2 fun z H3 => ∃ k, z = .bl k ∧
  (if k = true then tc σ H3 fun w H4 => r' y w H4 fun z' H5 => ∃ k', z' = .bl k' ∧ (if k' = true then td σ H5 fun v H6 => r2 w v H6 Q else Q (.bl false) H5) else Q (.bl false) H3)
theorem pe_chain3 {d : Expr} {ta tb tc td : TE} {op op' op2 : CmpOp} {r r' r2 : R2} (ho : OpR X (compareOp op) r) (ho' : OpR X (compareOp op') r') (ho2 : OpR X (compareOp op2) r2) (ha : PE X a ta) (hb : PE X b tb) (hc : PE X c tc) (hd : PE X d td)
    (hm : lastMarks [op, op', op2] [b, c, d] = false) : PE X (.Compare a [op, op', op2] [b, c, d] pos) (tChain3 r r' r2 ta tb tc td) := by
  refine ⟨fun pins s σ H Q I h => ?_⟩
  refine Compare_chain (thn (ha.run pins s σ H _ I h) fun v s1 ⟨x, H1, I1, r1, q1⟩ => chain_link (thn (hb.run pins s1 σ H1 _ I1 q1) fun u s2 ⟨y, H2, I2, r2', q2⟩ =>
    thn (ho pins s2 σ H2 x y v u _ I2 r1 r2' q2) fun d s3 ⟨z, H3, I3, r3, k, e, q3⟩ => ?_)) hm
  subst e
  cases r3
  refine wpAny_truthy_bool ?_
  cases k with
  | false => exact ite_ff ⟨.bl false, H3, I3, rfl, q3⟩
  | true =>
    refine ite_tt (chain_link (thn (hc.run pins s3 σ H3 _ I3 q3) fun w' s4 ⟨z', H4, I4, r4, q4⟩ => thn (ho' pins s4 σ H4 y z' u w' _ I4 r2' r4 q4) fun d' s5 ⟨z5, H5, I5, r5, k5, e5, q5⟩ => ?_))
    subst e5
    cases r5
    refine wpAny_truthy_bool ?_
    cases k5 with
    | false => exact ite_ff ⟨.bl false, H5, I5, rfl, q5⟩
    | true => exact ite_tt (chain_last (thn (hd.run pins s5 σ H5 _ I5 q5) fun w6 s6 ⟨z6, H6, I6, r6, q6⟩ => ho2 pins s6 σ H6 z' z6 w' w6 Q I6 r4 r6 q6))
theorem pt_chain3 {d : Expr} {ta tb tc td : TE} {op op' op2 : CmpOp} {r r' r2 : R2} (ho : OpR X (compareOp op) r) (ho' : OpR X (compareOp op') r') (ho2 : OpR X (compareOp op2) r2) (ha : PE X a ta) (hb : PE X b tb) (hc : PE X c tc) (hd : PE X d td)
    (hm : lastMarks [op, op', op2] [b, c, d] = false) : PT X (.Compare a [op, op', op2] [b, c, d] pos) (tTest (tChain3 r r' r2 ta tb tc td)) := by
  refine ⟨fun pins s σ H Q I h => ?_⟩
  refine isTrue_chain (thn (ha.run pins s σ H _ I h) fun v s1 ⟨x, H1, I1, r1, q1⟩ => test_link (thn (hb.run pins s1 σ H1 _ I1 q1) fun u s2 ⟨y, H2, I2, r2', q2⟩ =>
    thn (ho pins s2 σ H2 x y v u _ I2 r1 r2' q2) fun d s3 ⟨z, H3, I3, r3, k, e, q3⟩ => ?_)) hm
  subst e
  cases r3
  refine wpAny_truthy_bool ?_
  cases k with
  | false =>
    obtain ⟨k', e', q'⟩ := q3
    cases e'
    exact ite_ff ⟨H3, I3, q'⟩
  | true =>
    refine ite_tt (test_link (thn (hc.run pins s3 σ H3 _ I3 q3) fun w' s4 ⟨z', H4, I4, r4, q4⟩ => thn (ho' pins s4 σ H4 y z' u w' _ I4 r2' r4 q4) fun d' s5 ⟨z5, H5, I5, r5, k5, e5, q5⟩ => ?_))
    subst e5
    cases r5
    refine wpAny_truthy_bool ?_
    cases k5 with
    | false =>
      obtain ⟨k', e', q'⟩ := q5
      cases e'
      exact ite_ff ⟨H5, I5, q'⟩
    | true =>
      refine ite_tt (test_last (thn (hd.run pins s5 σ H5 _ I5 q5) fun w6 s6 ⟨z6, H6, I6, r6, q6⟩ => thn (ho2 pins s6 σ H6 z' z6 w' w6 _ I6 r4 r6 q6) fun d7 s7 ⟨z7, H7, I7, r7, k7, e7, q7⟩ => ?_))
      subst e7
      cases r7
      exact wpAny_truthy_bool ⟨H7, I7, q7⟩
section
variable {md : ED}
theorem ch3_of {g g' g2 : D → D → AH → R D} {r r' r2 : R2}
    (hr : ∀ (σ : L2.St) (A : List Addr) (h : AH) (H : Hp) (x y : V) (d e : D) (Q : VK), RH L A h H → RD L A H d x → RD L A H e y → Po L W σ A H (RD L) (g d e h) Q → r x y H Q)
    (hr' : ∀ (σ : L2.St) (A : List Addr) (h : AH) (H : Hp) (x y : V) (d e : D) (Q : VK), RH L A h H → RD L A H d x → RD L A H e y → Po L W σ A H (RD L) (g' d e h) Q → r' x y H Q)
    (hr2 : ∀ (σ : L2.St) (A : List Addr) (h : AH) (H : Hp) (x y : V) (d e : D) (Q : VK), RH L A h H → RD L A H d x → RD L A H e y → Po L W σ A H (RD L) (g2 d e h) Q → r2 x y H Q)
    (σ : L2.St) (H : Hp) (Q : VK) : tE L W (eCh3 g g' g2 ma mb mc md) σ H Q → tChain3 r r' r2 (tE L W ma) (tE L W mb) (tE L W mc) (tE L W md) σ H Q := by
  rintro ⟨A, δ, h, rs, rh, p⟩
  refine ⟨A, δ, h, rs, rh, (Po.bind p).imp fun x H1 ⟨A1, d, h1, l, rh1, q, p1⟩ => ⟨A1, δ, h1, rs.mono l, rh1, (Po.bind p1).imp fun y H2 ⟨A2, e, h2, l2, rh2, q2, p2⟩ => ?_⟩⟩
  refine hr σ A2 h2 H2 x y d e _ rh2 (RD.mono l2 _ _ q) q2 ((Po.bind p2).imp fun z H3 ⟨A3, f, h3, l3, rh3, q3, p3⟩ => ?_)
  split at p3
  · cases q3
    refine ⟨true, rfl, ?_⟩
    rw [if_pos rfl]
    refine ⟨A3, δ, h3, rs.mono (l.trans (l2.trans l3)), rh3, (Po.bind p3).imp fun w H4 ⟨A4, u, h4, l4, rh4, q4, p4⟩ => ?_⟩
    refine hr' σ A4 h4 H4 y w e u _ rh4 (RD.mono (l3.trans l4) _ _ q2) q4 ((Po.bind p4).imp fun z' H5 ⟨A5, f', h5, l5, rh5, q5, p5⟩ => ?_)
    split at p5
    · cases q5
      refine ⟨true, rfl, ?_⟩
      rw [if_pos rfl]
      exact ⟨A5, δ, h5, rs.mono (l.trans (l2.trans (l3.trans (l4.trans l5)))), rh5, (Po.bind p5).imp fun v H6 ⟨A6, t, h6, l6, rh6, q6, p6⟩ => hr2 σ A6 h6 H6 w v u t Q rh6 (RD.mono (l5.trans l6) _ _ q4) q6 p6⟩
    · cases q5
      refine ⟨false, rfl, ?_⟩
      rw [if_neg Bool.false_ne_true]
      exact Po.ok p5 rh5 (.bl false)
    · exact p5.elim
  · cases q3
    refine ⟨false, rfl, ?_⟩
    rw [if_neg Bool.false_ne_true]
    exact Po.ok p3 rh3 (.bl false)
  · exact p3.elim
theorem e_ch3 {d : Expr} {op op' op2 : CmpOp} {g g' g2 : D → D → AH → R D} (o : OpS X L W (compareOp op) g) (o' : OpS X L W (compareOp op') g') (o2 : OpS X L W (compareOp op2) g2) (ha : PE X a (tE L W ma)) (hb : PE X b (tE L W mb)) (hc : PE X c (tE L W mc)) (hd : PE X d (tE L W md))
    (hm : lastMarks [op, op', op2] [b, c, d] = false) : PE X (.Compare a [op, op', op2] [b, c, d] pos) (tE L W (eCh3 g g' g2 ma mb mc md)) := by
  obtain ⟨r, ho, hr⟩ := o
  obtain ⟨r', ho', hr'⟩ := o'
  obtain ⟨r2, ho2, hr2⟩ := o2
  exact PE.weak (pe_chain3 ho ho' ho2 ha hb hc hd hm) (ch3_of hr hr' hr2)
theorem b_ch3 {d : Expr} {op op' op2 : CmpOp} {g g' g2 : D → D → AH → R D} (o : OpS X L W (compareOp op) g) (o' : OpS X L W (compareOp op') g') (o2 : OpS X L W (compareOp op2) g2) (ha : PE X a (tE L W ma)) (hb : PE X b (tE L W mb)) (hc : PE X c (tE L W mc)) (hd : PE X d (tE L W md))
    (hm : lastMarks [op, op', op2] [b, c, d] = false) : PT X (.Compare a [op, op', op2] [b, c, d] pos) (tBo L W (bOf (eCh3 g g' g2 ma mb mc md))) := by
  obtain ⟨r, ho, hr⟩ := o
  obtain ⟨r', ho', hr'⟩ := o'
  obtain ⟨r2, ho2, hr2⟩ := o2
  refine PT.weak (pt_chain3 ho ho' ho2 ha hb hc hd hm) fun σ H Q ⟨A, δ, h, rs, rh, p⟩ => ?_
  refine ch3_of hr hr' hr2 σ H _ ⟨A, δ, h, rs, rh, (Po.bind p).imp fun v H1 ⟨A1, d, h1, l, rh1, q, p1⟩ => ?_⟩
  unfold asB at p1
  split at p1
  · cases q; exact ⟨_, rfl, Po.ok p1 rh1 rfl⟩
  · exact p1.elim
end
end
end Cod

/-! # a tuple times 0, 1, n -/
namespace Cod
open PySem L2 PySem.Spec PyProof.Rows
theorem tuple_mulN (l : Addr) (items : Array Value) (n : Nat) (dd : Option Addr) (sl : Array (Option Value)) (x : Int) (u : Tok) (c0 : (decide (x < -(2 ^ 63)) || decide (x ≥ 2 ^ 63)) = false) (c1 : (items.isEmpty || x == 1) = false) (c2 : (decide (x ≤ 0) || items.isEmpty) = true) :
    Meets (Builtin.«tuple.__mul__» ⟨[.ref l, .int x u], []⟩) (fun _ R s => s.heap.get? l = some { cls := .type "tuple", dict := dd, data := .seq items n, slots := sl } ∧
      R (.ok (.ret (Value.ref s.heap.objs.size))) { s with heap := s.heap.push { cls := Value.type "tuple", data := Data.seq #[] }, toks := s.toks }) :=
  .of_wp fun prog w A R s h => by
    obtain ⟨hp, g, d, tk, os⟩ := s
    obtain ⟨hl, h⟩ := h
    have f1 := AutoSeq1.idx_int
    wp_walk using wpAny_loadPart' hl
    repeat (first
      | (refine wpAny_ite_false (decide_eq_false (by rw [c0]; exact Bool.false_ne_true)) ?_; wp_walk using wpAny_loadPart' hl)
      | (refine wpAny_ite_false (decide_eq_false (by rw [c1]; exact Bool.false_ne_true)) ?_; wp_walk using wpAny_loadPart' hl)
      | (refine wpAny_ite_true (decide_eq_true c2) ?_; wp_walk using wpAny_loadPart' hl))
    exact ⟨_, rfl, h⟩
theorem tuple_mulO (l : Addr) (items : Array Value) (n : Nat) (dd : Option Addr) (sl : Array (Option Value)) (x : Int) (u : Tok) (c0 : (decide (x < -(2 ^ 63)) || decide (x ≥ 2 ^ 63)) = false) (c1 : (items.isEmpty || x == 1) = true) :
    Meets (Builtin.«tuple.__mul__» ⟨[.ref l, .int x u], []⟩) (fun _ R s => s.heap.get? l = some { cls := .type "tuple", dict := dd, data := .seq items n, slots := sl } ∧
      R (.ok (.ret (Value.ref l))) s) :=
  .of_wp fun prog w A R s h => by
    obtain ⟨hp, g, d, tk, os⟩ := s
    obtain ⟨hl, h⟩ := h
    have f1 := AutoSeq1.idx_int
    wp_walk using wpAny_loadPart' hl
    repeat (first
      | (refine wpAny_ite_false (decide_eq_false (by rw [c0]; exact Bool.false_ne_true)) ?_; wp_walk using wpAny_loadPart' hl)
      | (refine wpAny_ite_true (decide_eq_true c1) ?_; wp_walk using wpAny_loadPart' hl))
    exact ⟨_, rfl, h⟩
section
variable {X : Cx} {L : Lk} {W : WX}
noncomputable def rRep0 (K : PySem.W.Frag) : R2 := fun x y H Q => ∃ l k xs, x = .ref l ∧ y = .int k ∧ SqT K H l xs ∧ xs ≠ [] ∧ k ≤ 0 ∧ -1000 ≤ k ∧ ∀ p, H p = none → Q (.ref p) (upd H p (.tup []))
noncomputable def rRep1 (K : PySem.W.Frag) : R2 := fun x y H Q => ∃ l xs, x = .ref l ∧ y = .int 1 ∧ SqT K H l xs ∧ Q (.ref l) H
theorem op_rep1 : OpR X (binaryOp .Mult) (rRep1 X.K) := by
  intro pins s σ H x y v u Q I rx ry ⟨l, xs, ex, ey, hT, q⟩
  subst ex ey
  cases rx
  obtain ⟨t, rfl⟩ := ry
  obtain ⟨its, r, ⟨⟨cls, dd, data, sl⟩, ho, hc, n, hd⟩, hs⟩ := I.tuple hT
  cases (show cls = _ from hc)
  cases (show data = _ from hd)
  have m := tuple_mulO l its.toArray n dd sl 1 t (by decide) (by simp)
  refine wpAny_binaryOp_repeat_ref (T := "tuple") (U := "int") (by decide) ⟨_, ho, rfl⟩ (fun s' => typeIs_int s' 1 t) noFill_tuple_mul F.fills_int_mul F.slot_int_rmul repeat_tuple F.slot_int_index.lookup
    (call_meets F.slot_int_rmul (typeIs_int s 1 t) F.entry_int_rmul (F.args_int_rmul_2 _ _) (int_rmul_tuple 1 t l its.toArray n dd sl) ⟨ho, rfl, ⟨_, ho, rfl⟩, call_meets F.slot_tuple_mul ⟨_, ho, rfl⟩ F.entry_tuple_mul (F.args_tuple_mul_2 _ _) m ⟨ho, ?_⟩⟩)
  exact ⟨.ref l, H, I, rfl, q⟩
theorem op_rep0 : OpR X (binaryOp .Mult) (rRep0 X.K) := by
  intro pins s σ H x y v u Q I rx ry ⟨l, k, xs, ex, ey, hT, hne, h0, h1, q⟩
  subst ex ey
  cases rx
  obtain ⟨t, rfl⟩ := ry
  obtain ⟨its, r, ⟨⟨cls, dd, data, sl⟩, ho, hc, n, hd⟩, hs⟩ := I.tuple hT
  cases (show cls = _ from hc)
  cases (show data = _ from hd)
  have hi : its.toArray.isEmpty = false := by
    cases its with
    | nil => exact absurd (List.eq_nil_of_length_eq_zero r.length) hne
    | cons a b => rfl
  have m := tuple_mulN l its.toArray n dd sl k t (by rw [decide_eq_false (by omega), decide_eq_false (by omega)]; rfl) (by rw [hi, Bool.false_or]; exact beq_eq_false_iff_ne.mpr (by omega)) (by rw [decide_eq_true h0]; rfl)
  refine wpAny_binaryOp_repeat_ref (T := "tuple") (U := "int") (by decide) ⟨_, ho, rfl⟩ (fun s' => typeIs_int s' k t) noFill_tuple_mul F.fills_int_mul F.slot_int_rmul repeat_tuple F.slot_int_index.lookup
    (call_meets F.slot_int_rmul (typeIs_int s k t) F.entry_int_rmul (F.args_int_rmul_2 _ _) (int_rmul_tuple k t l its.toArray n dd sl) ⟨ho, rfl, ⟨_, ho, rfl⟩, call_meets F.slot_tuple_mul ⟨_, ho, rfl⟩ F.entry_tuple_mul (F.args_tuple_mul_2 _ _) m ⟨ho, ?_⟩⟩)
  exact ⟨.ref s.heap.objs.size, _, I.laid (t' := s.toks) (o := .tup []) (fun b ob q => Heap.get?_push_of_some _ q) (Nat.le_refl _) ⟨Nat.zero_le _, _, .nil, IsTup.new _ _⟩, rfl, q _ (I.hok.fresh (Nat.le_refl _))⟩
end
end Cod

/-! # dicts: keys are ints and texts -/
namespace Cod
open PySem L2 PyProof.Rows

noncomputable def keyOf : D → Option Key
  | .int i => some (.inl i)
  | .str x => some (.inr x)
  | _ => none
noncomputable def keyD : Key → D
  | .inl i => .int i
  | .inr x => .str x
noncomputable def valD {κ : Type} [DecidableEq κ] (kvs : List (κ × D)) (k : κ) : Option D := (kvs.find? fun kv => decide (kv.1 = k)).map (·.2)
noncomputable def putD {κ : Type} [DecidableEq κ] (kvs : List (κ × D)) (k : κ) (v : D) : List (κ × D) :=
  if (kvs.any fun kv => decide (kv.1 = k)) = true then kvs.map (fun kv => if kv.1 = k then (kv.1, v) else kv) else kvs ++ [(k, v)]
noncomputable def dropD {κ : Type} [DecidableEq κ] (kvs : List (κ × D)) (k : κ) : List (κ × D) := kvs.filter fun kv => decide (kv.1 ≠ k)
section
variable {L : Lk} {A : List Addr} {H : Hp} {κ : Type} [DecidableEq κ]
theorem keyOf_ok {d : D} {v : V} {k : Key} (r : RD L A H d v) (e : keyOf d = some k) : v = kV k := by
  cases r <;> cases e <;> rfl
theorem keyD_rd (k : Key) : RD L A H (keyD k) (kV k) := by
  cases k with
  | inl i => exact .int i
  | inr x => exact .str x
theorem RKs.any {k : κ} : ∀ {ds : List (κ × D)} {vs : List (κ × V)}, RKs L A H ds vs → (ds.any fun kv => decide (kv.1 = k)) = vs.any fun kv => decide (kv.1 = k)
  | _, _, .nil => rfl
  | _, _, .cons p q => by rw [List.any_cons, List.any_cons, RKs.any q]
theorem RKs.val {k : κ} : ∀ {ds : List (κ × D)} {vs : List (κ × V)}, RKs L A H ds vs → (∀ d, valD ds k = some d → ∃ v, valV vs k = some v ∧ RD L A H d v) ∧ (valD ds k = none → valV vs k = none)
  | _, _, .nil => And.intro (fun _ e => nomatch e) (fun _ => rfl)
  | _, _, @RKs.cons _ _ _ _ k' d v ds vs p q => by
    have ih := RKs.val (k := k) q
    by_cases e : k' = k
    · subst e
      simp only [valD, valV, List.find?_cons, decide_true] at ih ⊢
      exact ⟨fun d' e => by cases e; exact ⟨v, rfl, p⟩, fun e => nomatch e⟩
    · simp only [valD, valV, List.find?_cons, decide_eq_false e] at ih ⊢
      exact ih
theorem RKs.append : ∀ {ds es : List (κ × D)} {vs ws : List (κ × V)}, RKs L A H ds vs → RKs L A H es ws → RKs L A H (ds ++ es) (vs ++ ws)
  | _, _, _, _, .nil, s => s
  | _, _, _, _, .cons p q, s => .cons p (RKs.append q s)
theorem RKs.map {k : κ} {d : D} {v : V} (r : RD L A H d v) : ∀ {ds : List (κ × D)} {vs : List (κ × V)}, RKs L A H ds vs → RKs L A H (ds.map fun kv => if kv.1 = k then (kv.1, d) else kv) (vs.map fun kv => if kv.1 = k then (kv.1, v) else kv)
  | _, _, .nil => .nil
  | _, _, @RKs.cons _ _ _ _ k' d' v' ds vs p q => by
    rw [List.map_cons, List.map_cons]
    by_cases e : k' = k
    · simp only [e, if_true]; exact .cons r (RKs.map r q)
    · simp only [e, if_false]; exact .cons p (RKs.map r q)
theorem RKs.put {ds : List (κ × D)} {vs : List (κ × V)} {k : κ} {d : D} {v : V} (h : RKs L A H ds vs) (r : RD L A H d v) : RKs L A H (putD ds k d) (putK vs k v) := by
  unfold putD putK
  rw [h.any]
  split
  · exact h.map r
  · exact h.append (.cons r .nil)
theorem RKs.drop {k : κ} : ∀ {ds : List (κ × D)} {vs : List (κ × V)}, RKs L A H ds vs → RKs L A H (dropD ds k) (dropK vs k)
  | _, _, .nil => .nil
  | _, _, @RKs.cons _ _ _ _ k' d v ds vs p q => by
    have ih := RKs.drop (k := k) q
    unfold dropD dropK at ih ⊢
    by_cases e : k' = k
    · simp only [List.filter_cons, e, ne_eq, not_true, decide_false, if_false, Bool.false_eq_true]; exact ih
    · simp only [List.filter_cons, e, ne_eq, not_false_eq_true, decide_true, if_true]; exact .cons p ih
theorem RKs.keys : ∀ {ds : List (κ × D)} {vs : List (κ × V)}, RKs L A H ds vs → ds.map (·.1) = vs.map (·.1)
  | _, _, .nil => rfl
  | _, _, .cons p q => by simp [RKs.keys q]
theorem keys_rds : ∀ (ks : List Key), RDs L A H (ks.map keyD) (ks.map kV)
  | [] => .nil
  | k :: r => .cons (keyD_rd k) (keys_rds r)
end
noncomputable def dctAt (h : AH) : D → Option (Nat × List (Key × D))
  | .loc n => match h[n]? with
    | some (.dct kvs) => some (n, kvs)
    | _ => none
  | _ => none
theorem dctAt_ok {L : Lk} {A : List Addr} {H : Hp} {h : AH} {d : D} {v : V} {n : Nat} {kvs : List (Key × D)} (rh : RH L A h H) (r : RD L A H d v) (e : dctAt h d = some (n, kvs)) : ∃ a ws, d = .loc n ∧ h[n]? = some (.dct kvs) ∧ A[n]? = some a ∧ v = .ref a ∧ H a = some (.dK ws) ∧ RKs L A H kvs ws := by
  unfold dctAt at e
  split at e
  · rename_i m
    cases r with
    | @loc _ a ea =>
      split at e
      · rename_i e0
        cases e
        obtain ⟨ws, g, r1⟩ := rh.get _ a _ ea e0
        exact ⟨a, ws, rfl, e0, ea, rfl, g, r1⟩
      · cases e
  · cases e
section
variable {X : Cx} {L : Lk} {W : WX}
theorem ix_dK (hu : X.A.units + 1 < cLine) : IxR X (fun x y H Q => ∃ a v, x = .ref a ∧ DGet H a y (some v) ∧ Q v H) := by
  intro value slice pins s σ H x y v u Q I rx ry h hs
  obtain ⟨a, r, rfl, g, q⟩ := h
  obtain rfl : v = Value.ref a := rx
  exact tail_any (dict_typeIs I g) PySem.F.slot_dict_getitem.lookup (d_getItem hu I g ry fun w' s3 I3 rw' => ⟨r, H, I3, rw', q⟩) hs
theorem op_inK (hu : X.A.units + 1 < cLine) : OpR X (compareOp .In) (fun x y H Q => ∃ a o, y = .ref a ∧ DGet H a x o ∧ Q (.bl (xor false o.isSome)) H) := by
  intro pins s σ H x y v u Q I rx ry h
  obtain ⟨a, o, rfl, g, q⟩ := h
  obtain rfl : u = Value.ref a := ry
  rw [Bool.false_xor] at q
  exact d_in hu I g rx fun s3 I3 => ⟨.bl o.isSome, H, I3, rfl, q⟩
theorem op_notInK (hu : X.A.units + 1 < cLine) : OpR X (compareOp .NotIn) (fun x y H Q => ∃ a o, y = .ref a ∧ DGet H a x o ∧ Q (.bl (xor true o.isSome)) H) := by
  intro pins s σ H x y v u Q I rx ry h
  obtain ⟨a, o, rfl, g, q⟩ := h
  obtain rfl : u = Value.ref a := ry
  rw [Bool.true_xor] at q
  exact d_notIn hu I g rx fun s3 I3 => ⟨.bl (!o.isSome), H, I3, rfl, q⟩
/-- {} -/
noncomputable def eDict0 : ED := fun _ h => .ok (.loc h.length) (h ++ [.dct []])
theorem Po.newDct {σ : L2.St} {A : List Addr} {h : AH} {H : Hp} {kvs : List (Key × D)} {ws : List (Key × V)} {Q : VK} {p : Addr} (po : Po L W σ A H (RD L) (.ok (.loc h.length) (h ++ [.dct kvs])) Q) (rh : RH L A h H) (q : RKs L A H kvs ws) (np : H p = none) : Q (.ref p) (upd H p (.dK ws)) :=
  po (A ++ [p]) _ _ (Le.newA np) (rh.newO np ⟨ws, upd_same, RKs.mono (Le.newA np) q⟩) (.loc (by rw [← rh.len]; simp))
theorem e_dict0 {pos : Pos} : PE X (.Dict [] [] pos) (tE L W eDict0) :=
  PE.weak pe_dnewK fun σ H Q ⟨A, δ, h, rs, rh, p⟩ => fun q nq => Po.newDct p rh .nil nq
/-! ### methods -/
theorem mt_dget1 (hu : X.A.units + 1 < cLine) : MtR X "dict.get" (fun x xs H Q => ∃ a y o, x = .ref a ∧ xs = [y] ∧ DGet H a y o ∧ Q (o.getD .non) H) := by
  intro pins s σ H x xs v us Q I rx rs h
  obtain ⟨a, y, o, rfl, rfl, g, q⟩ := h
  obtain rfl : v = Value.ref a := rx
  obtain ⟨u, rfl, ru⟩ := rs.one
  exact d_get1 hu I g ru fun w' s' I' r' => ⟨_, H, I', r', q⟩
theorem mt_dget2 (hu : X.A.units + 1 < cLine) : MtR X "dict.get" (fun x xs H Q => ∃ a y z o, x = .ref a ∧ xs = [y, z] ∧ DGet H a y o ∧ Q (o.getD z) H) := by
  intro pins s σ H x xs v us Q I rx rs h
  obtain ⟨a, y, z, o, rfl, rfl, g, q⟩ := h
  obtain rfl : v = Value.ref a := rx
  cases rs with
  | cons r1 r2 =>
    cases r2 with
    | cons ru2 r3 =>
    cases r3
    exact d_get2 hu I g r1 ru2 fun w' s' I' r' => ⟨_, H, I', r', q⟩
theorem mt_dpop1 : MtR X "dict.pop" (fun x xs H Q => ∃ a kvs k v, x = .ref a ∧ xs = [kV k] ∧ H a = some (.dK kvs) ∧ valV kvs k = some v ∧ Q v (upd H a (.dK (dropK kvs k)))) := by
  intro pins s σ H x xs v us Q I rx rs h
  obtain ⟨a, kvs, k, y, rfl, rfl, g, e, q⟩ := h
  obtain rfl : v = Value.ref a := rx
  obtain ⟨u, rfl, ru⟩ := rs.one
  exact d_pop (more := []) I g ru e (.inl rfl) fun w' s' I' r' => ⟨_, _, I', r', q⟩
end
end Cod

/-! # == and != of data: scalars, tuples, lists at any depth; dicts of such -/
namespace Cod
open PySem L2 PyProof.Rows

noncomputable def flatD : D → Bool
  | .non => true
  | .bl _ => true
  | .int _ => true
  | .str _ => true
  | _ => false
noncomputable def eqF : D → D → Bool
  | .non, .non => true
  | .bl a, .bl b => a == b
  | .bl a, .int b => (if a then 1 else 0) == b
  | .int a, .bl b => a == (if b then 1 else 0)
  | .int a, .int b => a == b
  | .str a, .str b => a == b
  | _, _ => false
/-- a tuple (true) or a list (false) and its items -/
noncomputable def sqOf (h : AH) : D → Option (Bool × List D)
  | .tup xs => some (true, xs)
  | .loc n => match h[n]? with
    | some (.lst xs) => some (false, xs)
    | some (.frz xs) => some (false, xs)
    | _ => none
  | _ => none
noncomputable def eqL (f : D → D → Option Bool) : List D → List D → Option Bool
  | [], [] => some true
  | x :: xs, y :: ys => match f x y, eqL f xs ys with
    | some a, some b => some (a && b)
    | _, _ => none
  | _, _ => some false
noncomputable def eqX : Nat → AH → D → D → Option Bool
  | 0, _, _, _ => none
  | k + 1, h, d, e => match flatD d, flatD e with
    | true, true => some (eqF d e)
    | true, false => match sqOf h e with
      | some _ => some false
      | none => none
    | false, true => match sqOf h d with
      | some _ => some false
      | none => none
    | false, false => match sqOf h d, sqOf h e with
      | some (t, xs), some (t', ys) => if t = t' then eqL (eqX k h) xs ys else some false
      | _, _ => none
noncomputable def eqK (f : D → D → Option Bool) (ls : List (Key × D)) : List (Key × D) → Option Bool
  | [] => some true
  | (k, v) :: r => match valD ls k with
    | none => some false
    | some w => match f v w, eqK f ls r with
      | some a, some b => some (a && b)
      | _, _ => none
/-- == of data; none where nothing is said -/
noncomputable def eqB (h : AH) (d e : D) : Option Bool := match dctAt h d, dctAt h e with
  | some (_, ks), some (_, ls) => if ks.length = ls.length then eqK (eqX 59 h) ls ks else some false
  | _, _ => eqX 60 h d e
section
variable {L : Lk} {A : List Addr} {H : Hp} {h : AH}
theorem flat_of {d : D} {v : V} (r : RD L A H d v) (h : flatD d = true) : flatV v = true := by
  cases r <;> first | rfl | cases h
theorem eqF_of {d e : D} {v w : V} (r : RD L A H d v) (s : RD L A H e w) (h1 : flatD d = true) (h2 : flatD e = true) : eqV v w = eqF d e := by
  cases r <;> first | (cases h1; done) | (cases s <;> first | rfl | (cases h2; done))
theorem eqF_same {d e : D} {v : V} (r : RD L A H d v) (s : RD L A H e v) (h1 : flatD d = true) (h2 : flatD e = true) : eqF d e = true := by
  cases r with
  | non => cases s; rfl
  | bl b => cases s; simp [eqF]
  | int i => cases s; simp [eqF]
  | str x => cases s; simp [eqF]
  | _ => cases h1
variable {X : Cx} {pins : List (Addr × Obj)} {σ : L2.St} {s : Shared}
/-- where a sequence lies -/
theorem sqOf_ok (I : Inv X pins σ H s) (hK : X.K = L.K) (rh : RH L A h H) {d : D} {v : V} {t : Bool} {xs : List D} (r : RD L A H d v) (e : sqOf h d = some (t, xs)) :
    ∃ a vs its, v = .ref a ∧ RDs L A H xs vs ∧ Vals vs its ∧ (if t = true then s.heap.IsTuple a its.toArray ∧ SqT X.K H a vs else s.heap.IsList a its.toArray ∧ SqL X.K H a vs) := by
  unfold sqOf at e
  split at e
  · cases e
    cases r with
    | @tup a _ vs hs hr =>
      rw [← hK] at hs
      obtain ⟨its, rv, p, _⟩ := I.tuple hs
      exact ⟨a, vs, its, rfl, hr, rv, by simpa using ⟨p, hs⟩⟩
  · rename_i n
    cases r with
    | @loc _ a ea =>
      split at e
      · rename_i ys e0
        cases e
        obtain ⟨vs, g1, r1⟩ := rh.get _ a _ ea e0
        have hs : SqL X.K H a vs := SqL.of g1
        obtain ⟨its, rv, p, _⟩ := I.list hs
        exact ⟨a, vs, its, rfl, r1, rv, by simpa using ⟨p.isList, hs⟩⟩
      · rename_i ys e0
        cases e
        obtain ⟨vs, g1, r1⟩ := rh.get _ a _ ea e0
        have hs : SqL X.K H a vs := by rw [hK]; exact g1.sq
        obtain ⟨its, rv, p, _⟩ := I.list hs
        exact ⟨a, vs, its, rfl, r1, rv, by simpa using ⟨p.isList, hs⟩⟩
      · cases e
  · cases e
theorem eqL_same {f : D → D → Option Bool} (hf : ∀ d e v b, RD L A H d v → RD L A H e v → f d e = some b → b = true) : ∀ (xs ys : List D) (vs : List V) (b : Bool), RDs L A H xs vs → RDs L A H ys vs → eqL f xs ys = some b → b = true
  | [], [], _, _, _, _, e => by cases e; rfl
  | [], _ :: _, _, _, r1, r2, _ => by cases r1; cases r2
  | _ :: _, [], _, _, r1, r2, _ => by cases r2; cases r1
  | x :: xs, y :: ys, _, b, r1, r2, e => by
    cases r1 with
    | cons a1 b1 =>
      cases r2 with
      | cons a2 b2 =>
        unfold eqL at e
        split at e
        · rename_i p q e1 e2
          cases e
          rw [hf x y _ p a1 a2 e1, eqL_same hf xs ys _ q b1 b2 e2]; rfl
        · cases e
theorem eqX_same (I : Inv X pins σ H s) (hK : X.K = L.K) (rh : RH L A h H) : ∀ (n : Nat) (d e : D) (v : V) (b : Bool), RD L A H d v → RD L A H e v → eqX n h d e = some b → b = true
  | 0, _, _, _, _, _, _, e => by cases e
  | n + 1, d, e, v, b, r1, r2, eb => by
    unfold eqX at eb
    split at eb
    · rename_i f1 f2
      cases eb
      exact eqF_same r1 r2 f1 f2
    · rename_i f1 f2
      have fv := flat_of r1 f1
      split at eb
      · rename_i p ep
        obtain ⟨t, xs⟩ := p
        obtain ⟨a, _, _, rfl, _⟩ := sqOf_ok I hK rh r2 ep
        cases fv
      · cases eb
    · rename_i f1 f2
      have fv := flat_of r2 f2
      split at eb
      · rename_i p ep
        obtain ⟨t, xs⟩ := p
        obtain ⟨a, _, _, rfl, _⟩ := sqOf_ok I hK rh r1 ep
        cases fv
      · cases eb
    · split at eb
      · rename_i t xs t' ys e1 e2
        obtain ⟨a, vs, its, rfl, q1, w1, z1⟩ := sqOf_ok I hK rh r1 e1
        obtain ⟨a', vs', its', ea, q2, w2, z2⟩ := sqOf_ok I hK rh r2 e2
        cases ea
        cases t <;> cases t'
        · simp only [if_true, Bool.false_eq_true, if_false] at z1 z2 eb
          have := I.list_inj z1.2 z2.2
          subst this
          exact eqL_same (eqX_same I hK rh n) xs ys vs b q1 q2 eb
        · simp only [if_true, Bool.false_eq_true, if_false] at z1 z2 eb
          exact absurd rfl (SeqAt.ne_of_list_tuple z1.1 z2.1)
        · simp only [if_true, Bool.false_eq_true, if_false] at z1 z2 eb
          exact absurd rfl (SeqAt.ne_of_list_tuple z2.1 z1.1)
        · simp only [if_true, Bool.false_eq_true, if_false] at z1 z2 eb
          have := I.tuple_inj z1.2 z2.2
          subst this
          exact eqL_same (eqX_same I hK rh n) xs ys vs b q1 q2 eb
      · cases eb
/-- a scalar and a sequence -/
theorem at_fs {A' : Around} {d : D} {x : V} {v : Value} {a : Addr} {its : Array Value} {t : Bool} (r : RD L A H d x) (f : flatD d = true) (rv : RelV x v) (hu : A'.units < cLine) (z : if t = true then s.heap.IsTuple a its else s.heap.IsList a its) :
    SeqAt.EqAt A' s v (.ref a) false ∧ SeqAt.RcAt A' s v (.ref a) false ∧ SeqAt.RcNeAt A' s v (.ref a) true ∧ SeqAt.EqAt A' s (.ref a) v false ∧ SeqAt.RcAt A' s (.ref a) v false ∧ SeqAt.RcNeAt A' s (.ref a) v true := by
  cases t <;> simp only [if_true, Bool.false_eq_true, if_false] at z
  · cases r with
    | non => cases rv; exact ⟨.none_list z hu, .none_list z hu, .none_list z hu, .list_none z hu, .list_none z hu, .list_none z hu⟩
    | bl b => cases rv; exact ⟨.bool_list b z hu, .bool_list b z hu, .bool_list b z hu, .list_bool b z hu, .list_bool b z hu, .list_bool b z hu⟩
    | int i => obtain ⟨t, rfl⟩ := rv; exact ⟨.int_list i t z hu, .int_list i t z hu, .int_list i t z hu, .list_int i t z hu, .list_int i t z hu, .list_int i t z hu⟩
    | str i => obtain ⟨t, rfl⟩ := rv; exact ⟨.str_list i t z hu, .str_list i t z hu, .str_list i t z hu, .list_str i t z hu, .list_str i t z hu, .list_str i t z hu⟩
    | _ => cases f
  · cases r with
    | non => cases rv; exact ⟨.none_tuple z hu, .none_tuple z hu, .none_tuple z hu, .tuple_none z hu, .tuple_none z hu, .tuple_none z hu⟩
    | bl b => cases rv; exact ⟨.bool_tuple b z hu, .bool_tuple b z hu, .bool_tuple b z hu, .tuple_bool b z hu, .tuple_bool b z hu, .tuple_bool b z hu⟩
    | int i => obtain ⟨t, rfl⟩ := rv; exact ⟨.int_tuple i t z hu, .int_tuple i t z hu, .int_tuple i t z hu, .tuple_int i t z hu, .tuple_int i t z hu, .tuple_int i t z hu⟩
    | str i => obtain ⟨t, rfl⟩ := rv; exact ⟨.str_tuple i t z hu, .str_tuple i t z hu, .str_tuple i t z hu, .tuple_str i t z hu, .tuple_str i t z hu, .tuple_str i t z hu⟩
    | _ => cases f
/-- two scalars -/
theorem rc_ff {A' : Around} {d e : D} {x y : V} {v u : Value} (r1 : RD L A H d x) (r2 : RD L A H e y) (f1 : flatD d = true) (f2 : flatD e = true) (rv : RelV x v) (ru : RelV y u) : SeqAt.RcAt A' s v u (eqF d e) ∧ SeqAt.RcNeAt A' s v u (!eqF d e) := by
  cases r1 with
  | non =>
    cases rv
    cases r2 with
    | non => cases ru; exact ⟨.none_none, .none_none⟩
    | bl b => cases ru; exact ⟨.none_bool b, .none_bool b⟩
    | int j => obtain ⟨t, rfl⟩ := ru; exact ⟨.none_int j t, .none_int j t⟩
    | str j => obtain ⟨t, rfl⟩ := ru; exact ⟨.none_str j t, .none_str j t⟩
    | _ => cases f2
  | bl a =>
    cases rv
    cases r2 with
    | non => cases ru; exact ⟨.bool_none a, .bool_none a⟩
    | bl b => cases ru; exact ⟨.bool_bool a b, .bool_bool a b⟩
    | int j => obtain ⟨t, rfl⟩ := ru; exact ⟨.bool_int a j t, .bool_int a j t⟩
    | str j => obtain ⟨t, rfl⟩ := ru; exact ⟨.bool_str a j t, .bool_str a j t⟩
    | _ => cases f2
  | int i =>
    obtain ⟨q, rfl⟩ := rv
    cases r2 with
    | non => cases ru; exact ⟨.int_none i q, .int_none i q⟩
    | bl b => cases ru; exact ⟨.int_bool i q b, .int_bool i q b⟩
    | int j => obtain ⟨t, rfl⟩ := ru; exact ⟨.int_int i q j t, .int_int i q j t⟩
    | str j => obtain ⟨t, rfl⟩ := ru; exact ⟨.int_str i q j t, .int_str i q j t⟩
    | _ => cases f2
  | str i =>
    obtain ⟨q, rfl⟩ := rv
    cases r2 with
    | non => cases ru; exact ⟨.str_none i q, .str_none i q⟩
    | bl b => cases ru; exact ⟨.str_bool i q b, .str_bool i q b⟩
    | int j => obtain ⟨t, rfl⟩ := ru; exact ⟨.str_int i q j t, .str_int i q j t⟩
    | str j => obtain ⟨t, rfl⟩ := ru; exact ⟨.str_str i q j t, .str_str i q j t⟩
    | _ => cases f2
  | _ => cases f1
/-- two rows of items: the pairs' answers -/
theorem eqL_at {A' : Around} {f : D → D → Option Bool} (hf : ∀ d e x y v u b, RD L A H d x → RD L A H e y → RelV x v → RelV y u → f d e = some b → SeqAt.EqAt A' s v u b) : ∀ (xs ys : List D) (vs ws : List V) (us zs : List Value) (b : Bool), RDs L A H xs vs → RDs L A H ys ws → Vals vs us → Vals ws zs → eqL f xs ys = some b →
    ∃ g : Nat → Bool, (∀ j (h1 : j < us.length) (h2 : j < zs.length), SeqAt.EqAt A' s us[j] zs[j] (g j)) ∧ b = ((List.range (min us.length zs.length)).all g && us.length == zs.length)
  | [], [], _, _, _, _, _, r1, r2, v1, v2, e => by
    cases r1; cases r2; cases v1; cases v2; cases e
    exact ⟨fun _ => true, fun j h1 => by simp at h1, rfl⟩
  | [], _ :: _, _, _, _, _, _, r1, r2, v1, v2, e => by
    cases r1; cases r2; cases v1; cases v2; cases e
    exact ⟨fun _ => true, fun j h1 => by simp at h1, by simp⟩
  | _ :: _, [], _, _, _, _, _, r1, r2, v1, v2, e => by
    cases r1; cases r2; cases v1; cases v2; cases e
    exact ⟨fun _ => true, fun j h1 h2 => by simp at h2, by simp⟩
  | x :: xs, y :: ys, _, _, _, _, b, r1, r2, v1, v2, e => by
    cases r1 with
    | cons a1 b1 =>
    cases r2 with
    | cons a2 b2 =>
    cases v1 with
    | @cons _ u _ us c1 d1 =>
    cases v2 with
    | @cons _ z _ zs c2 d2 =>
    unfold eqL at e
    split at e
    · rename_i p q e1 e2
      cases e
      obtain ⟨g, hg, hb⟩ := eqL_at hf xs ys _ _ us zs q b1 b2 d1 d2 e2
      refine ⟨fun j => match j with | 0 => p | j + 1 => g j, fun j h1 h2 => ?_, ?_⟩
      · cases j with
        | zero => exact hf x y _ _ _ _ p a1 a2 c1 c2 e1
        | succ j => exact hg j (by simpa using h1) (by simpa using h2)
      · rw [hb]
        have e3 : min (u :: us).length (z :: zs).length = min us.length zs.length + 1 := by simp only [List.length_cons]; omega
        rw [e3, List.range_succ_eq_map, List.all_cons, List.all_map]
        have e4 : ((u :: us).length == (z :: zs).length) = (us.length == zs.length) := by simp
        rw [e4, Bool.and_assoc]
        rfl
    · cases e
theorem eqX_at (I : Inv X pins σ H s) (hK : X.K = L.K) (rh : RH L A h H) : ∀ (n : Nat) (A' : Around), A'.units + n < cLine → ∀ (d e : D) (x y : V) (v u : Value) (b : Bool), RD L A H d x → RD L A H e y → RelV x v → RelV y u → eqX n h d e = some b → SeqAt.EqAt A' s v u b ∧ SeqAt.RcAt A' s v u b ∧ SeqAt.RcNeAt A' s v u (!b)
  | 0, _, _, _, _, _, _, _, _, _, _, _, _, _, e => by cases e
  | n + 1, A', hu, d, e, x, y, v, u, b, r1, r2, rv, ru, eb => by
    have hu0 : A'.units < cLine := by omega
    have ih := eqX_at I hK rh n A'.in1 (by show A'.units + 1 + n < cLine; omega)
    have eb0 := eb
    unfold eqX at eb
    split at eb
    · rename_i f1 f2
      cases eb
      have h1 := eqAt_V (A := A') (s := s) rv ru (flat_of r1 f1) (flat_of r2 f2)
      rw [eqF_of r1 r2 f1 f2] at h1
      exact ⟨h1, rc_ff r1 r2 f1 f2 rv ru⟩
    · rename_i f1 f2
      split at eb
      · rename_i p ep
        cases eb
        obtain ⟨t, xs⟩ := p
        obtain ⟨a, vs, its, rfl, q2, w2, z2⟩ := sqOf_ok I hK rh r2 ep
        obtain rfl : u = Value.ref a := ru
        have z : if t = true then s.heap.IsTuple a its.toArray else s.heap.IsList a its.toArray := by
          cases t <;> simp only [if_true, Bool.false_eq_true, if_false] at z2 ⊢ <;> exact z2.1
        have k := at_fs r1 f1 rv hu0 z
        exact ⟨k.1, k.2.1, k.2.2.1⟩
      · cases eb
    · rename_i f1 f2
      split at eb
      · rename_i p ep
        cases eb
        obtain ⟨t, xs⟩ := p
        obtain ⟨a, vs, its, rfl, q2, w2, z2⟩ := sqOf_ok I hK rh r1 ep
        obtain rfl : v = Value.ref a := rv
        have z : if t = true then s.heap.IsTuple a its.toArray else s.heap.IsList a its.toArray := by
          cases t <;> simp only [if_true, Bool.false_eq_true, if_false] at z2 ⊢ <;> exact z2.1
        have k := at_fs r2 f2 ru hu0 z
        exact ⟨k.2.2.2.1, k.2.2.2.2.1, k.2.2.2.2.2⟩
      · cases eb
    · split at eb
      · rename_i t xs t' ys e1 e2
        obtain ⟨a, vs, its, rfl, q1, w1, z1⟩ := sqOf_ok I hK rh r1 e1
        obtain ⟨c, ws, its2, rfl, q2, w2, z2⟩ := sqOf_ok I hK rh r2 e2
        obtain rfl : v = Value.ref a := rv
        obtain rfl : u = Value.ref c := ru
        have same : a = c → b = true := fun z => by
          subst z
          exact eqX_same I hK rh (n + 1) d e _ b r1 r2 eb0
        have fin : SeqAt.RcAt A' s (.ref a) (.ref c) b → SeqAt.RcNeAt A' s (.ref a) (.ref c) (!b) → SeqAt.EqAt A' s (.ref a) (.ref c) b ∧ SeqAt.RcAt A' s (.ref a) (.ref c) b ∧ SeqAt.RcNeAt A' s (.ref a) (.ref c) (!b) := fun p q => by
          refine ⟨?_, p, q⟩
          by_cases z : a = c
          · have := same z
            subst z this
            exact SeqAt.EqAt.same _
          · exact SeqAt.EqAt.of_refs z p
        cases t <;> cases t'
        · simp only [if_true, Bool.false_eq_true, if_false] at z1 z2 eb
          obtain ⟨g, hg, hb⟩ := eqL_at (fun d e x y v u b a1 a2 a3 a4 a5 => (ih d e x y v u b a1 a2 a3 a4 a5).1) xs ys vs ws its its2 b q1 q2 w1 w2 eb
          by_cases hsz : its.toArray.size = its2.toArray.size
          · have hl : its.length = its2.length := by simpa using hsz
            have eb2 : b = (List.range its.toArray.size).all g := by rw [hb, ← hl]; simp
            have k1 := SeqAt.RcAt.lists z1.1 z2.1 hsz hu0 (e := g) fun j h1 h2 => by simpa using hg j (by simpa using h1) (by simpa using h2)
            have k2 := SeqAt.RcNeAt.lists z1.1 z2.1 hsz hu0 (e := g) fun j h1 h2 => by simpa using hg j (by simpa using h1) (by simpa using h2)
            rw [← eb2] at k1 k2
            exact fin k1 k2
          · have hl : its.length ≠ its2.length := by simpa using hsz
            have eb2 : b = false := by rw [hb]; simp [hl]
            subst eb2
            exact fin (SeqAt.RcAt.lists_lengths z1.1 z2.1 (by simpa using hsz) hu0) (SeqAt.RcNeAt.lists_lengths z1.1 z2.1 (by simpa using hsz) hu0)
        · simp only [if_true, Bool.false_eq_true, if_false, reduceCtorEq] at z1 z2 eb
          cases eb
          exact fin (SeqAt.RcAt.list_tuple z1.1 z2.1 hu0) (SeqAt.RcNeAt.list_tuple z1.1 z2.1 hu0)
        · simp only [if_true, Bool.false_eq_true, if_false, reduceCtorEq] at z1 z2 eb
          cases eb
          exact fin (SeqAt.RcAt.tuple_list z1.1 z2.1 hu0) (SeqAt.RcNeAt.tuple_list z1.1 z2.1 hu0)
        · simp only [if_true, Bool.false_eq_true, if_false] at z1 z2 eb
          obtain ⟨g, hg, hb⟩ := eqL_at (fun d e x y v u b a1 a2 a3 a4 a5 => (ih d e x y v u b a1 a2 a3 a4 a5).1) xs ys vs ws its its2 b q1 q2 w1 w2 eb
          have k1 := SeqAt.RcAt.tuples z1.1 z2.1 hu0 (e := g) fun j h1 h2 => by simpa using hg j (by simpa using h1) (by simpa using h2)
          have k2 := SeqAt.RcNeAt.tuples z1.1 z2.1 hu0 (e := g) fun j h1 h2 => by simpa using hg j (by simpa using h1) (by simpa using h2)
          have eb2 : b = ((List.range (min its.toArray.size its2.toArray.size)).all g && its.toArray.size == its2.toArray.size) := by rw [hb]; simp
          rw [← eb2] at k1 k2
          exact fin k1 k2
      · cases eb
theorem eqK_at {A' : Around} {f : D → D → Option Bool} (hf : ∀ d e x y v u b, RD L A H d x → RD L A H e y → RelV x v → RelV y u → f d e = some b → SeqAt.EqAt A' s v u b) {ls : List (Key × D)} {wl : List (Key × V)} {vb : List (Key × Value)} (rl : RKs L A H ls wl) (rb : KV wl vb) :
    ∀ (ks : List (Key × D)) (wk : List (Key × V)) (va : List (Key × Value)) (b : Bool), RKs L A H ks wk → KV wk va → eqK f ls ks = some b → PySem.W.KeqHits A' s vb va b
  | [], _, _, _, r1, kv, e => by
    cases r1
    unfold KV at kv
    cases kv
    cases e
    exact .nil
  | (k, d) :: ks, _, _, b, r1, kv, e => by
    cases r1 with
    | @cons _ _ w _ wk p q =>
    unfold KV at kv
    cases kv with
    | @cons _ z _ zs h t =>
    obtain ⟨h1, h2⟩ := h
    obtain ⟨key, v⟩ := z
    obtain rfl : k = key := h1
    have rr : RelO (valV wl k) (valueAt vb k) := rb.val k
    unfold eqK at e
    split at e
    · rename_i en
      cases e
      rw [rl.val.2 en] at rr
      have : valueAt vb k = none := by
        cases ez : valueAt vb k with
        | none => rfl
        | some z => rw [ez] at rr; exact rr.elim
      exact .miss this
    · rename_i d' ed
      obtain ⟨w', ew, rw'⟩ := rl.val.1 d' ed
      rw [ew] at rr
      obtain ⟨y, hy, ry⟩ := rr.some_of
      split at e
      · rename_i a1 b1 e1 e2
        cases e
        exact .hit hy (hf _ _ _ _ _ _ a1 p rw' h2 ry e1) (eqK_at hf rl rb ks wk zs b1 q t e2)
      · cases e
end
noncomputable def eqD (d e : D) (h : AH) : R D := match eqB h d e with
  | some b => .ok (.bl b) h
  | none => .no
noncomputable def neD (d e : D) (h : AH) : R D := match eqB h d e with
  | some b => .ok (.bl (!b)) h
  | none => .no
section
variable {X : Cx} {L : Lk} {W : WX}
theorem op_eqX (hK : X.K = L.K) (hu : X.A.units + 64 < cLine) : OpR X (compareOp .Eq) (fun x y H Q => ∃ A h d e b, RH L A h H ∧ RD L A H d x ∧ RD L A H e y ∧ eqB h d e = some b ∧ Q (.bl b) H) := by
  intro pins s σ H x y v u Q I rx ry hh
  obtain ⟨A, h, d, e, b, rh, rd, re, eb, q⟩ := hh
  unfold eqB at eb
  split at eb
  · rename_i m ks n ls e1 e2
    obtain ⟨a, wk, _, _, _, rfl, g1, r1⟩ := dctAt_ok rh rd e1
    obtain ⟨c, wl, _, _, _, rfl, g2, r2⟩ := dctAt_ok rh re e2
    obtain rfl : v = Value.ref a := rx
    obtain rfl : u = Value.ref c := ry
    obtain ⟨_, ya, va, ra, da⟩ := (show ObjOk X.prog X.w H s.heap a (.dK wk) from I.hok a _ g1)
    obtain ⟨_, yb, vb, rb, db⟩ := (show ObjOk X.prog X.w H s.heap c (.dK wl) from I.hok c _ g2)
    have l1 : ks.length = va.length := by rw [r1.length, ra.length]
    have l2 : ls.length = vb.length := by rw [r2.length, rb.length]
    split at eb
    · rename_i hl
      refine PySem.W.keq_eq (knd := mixKind X.prog X.w) (r := b) ya yb da db (by omega) (fun _ => eqK_at (fun d e x y v u b a1 a2 a3 a4 a5 => (eqX_at I hK rh 59 X.A.in1 (by show X.A.units + 1 + 59 < cLine; omega) d e x y v u b a1 a2 a3 a4 a5).1) r2 rb ks wk va b r1 ra eb) ⟨.bl b, H, I, ?_, q⟩
      have : va.length = vb.length := by omega
      rw [this]
      simp [L2.RelV]
    · rename_i hl
      cases eb
      refine PySem.W.keq_eq (knd := mixKind X.prog X.w) (r := false) ya yb da db (by omega) (fun z => absurd z (by omega)) ⟨.bl false, H, I, ?_, q⟩
      simp [L2.RelV]
  · exact (eqX_at I hK rh 60 X.A (by omega) d e x y v u b rd re rx ry eb).2.1 X.prog X.w _ _ ⟨.bl b, H, I, rfl, q⟩
theorem op_neX (hK : X.K = L.K) (hu : X.A.units + 64 < cLine) : OpR X (compareOp .NotEq) (fun x y H Q => ∃ A h d e b, RH L A h H ∧ RD L A H d x ∧ RD L A H e y ∧ eqB h d e = some b ∧ Q (.bl (!b)) H) := by
  intro pins s σ H x y v u Q I rx ry hh
  obtain ⟨A, h, d, e, b, rh, rd, re, eb, q⟩ := hh
  unfold eqB at eb
  split at eb
  · rename_i m ks n ls e1 e2
    obtain ⟨a, wk, _, _, _, rfl, g1, r1⟩ := dctAt_ok rh rd e1
    obtain ⟨c, wl, _, _, _, rfl, g2, r2⟩ := dctAt_ok rh re e2
    obtain rfl : v = Value.ref a := rx
    obtain rfl : u = Value.ref c := ry
    obtain ⟨_, ya, va, ra, da⟩ := (show ObjOk X.prog X.w H s.heap a (.dK wk) from I.hok a _ g1)
    obtain ⟨_, yb, vb, rb, db⟩ := (show ObjOk X.prog X.w H s.heap c (.dK wl) from I.hok c _ g2)
    have l1 : ks.length = va.length := by rw [r1.length, ra.length]
    have l2 : ls.length = vb.length := by rw [r2.length, rb.length]
    split at eb
    · rename_i hl
      refine PySem.W.keq_ne (knd := mixKind X.prog X.w) (r := b) ya yb da db (by omega) (fun _ => eqK_at (fun d e x y v u b a1 a2 a3 a4 a5 => (eqX_at I hK rh 59 X.A.in1 (by show X.A.units + 1 + 59 < cLine; omega) d e x y v u b a1 a2 a3 a4 a5).1) r2 rb ks wk va b r1 ra eb) ⟨.bl (!b), H, I, ?_, q⟩
      have : va.length = vb.length := by omega
      rw [this]
      simp [L2.RelV]
    · rename_i hl
      cases eb
      refine PySem.W.keq_ne (knd := mixKind X.prog X.w) (r := false) ya yb da db (by omega) (fun z => absurd z (by omega)) ⟨.bl (!false), H, I, ?_, q⟩
      simp [L2.RelV]
  · exact (eqX_at I hK rh 60 X.A (by omega) d e x y v u b rd re rx ry eb).2.2 X.prog X.w _ _ ⟨.bl (!b), H, I, rfl, q⟩
theorem op_eqS (hK : X.K = L.K) (hu : X.A.units + 64 < cLine) : OpS X L W (compareOp .Eq) eqD := by
  refine ⟨_, op_eqX hK hu, fun σ A h H x y d e Q rh rd re p => ?_⟩
  unfold eqD at p
  split at p
  · rename_i b eb
    exact ⟨A, h, d, e, b, rh, rd, re, eb, Po.ok p rh (.bl _)⟩
  · exact p.elim
theorem op_neS (hK : X.K = L.K) (hu : X.A.units + 64 < cLine) : OpS X L W (compareOp .NotEq) neD := by
  refine ⟨_, op_neX hK hu, fun σ A h H x y d e Q rh rd re p => ?_⟩
  unfold neD at p
  split at p
  · rename_i b eb
    exact ⟨A, h, d, e, b, rh, rd, re, eb, Po.ok p rh (.bl _)⟩
  · exact p.elim
end
end Cod

namespace Cod
open PySem L2

/-! ### data -/
/-! ### operators -/
noncomputable def addD (d e : D) (h : AH) : R D := match d, e with
  | .int i, .int j => .ok (.int (i + j)) h
  | .str x, .str y => if x.length + y.length ≤ lim then .ok (.str (x ++ y)) h else .no
  | .tup xs, .tup ys => if xs.length + ys.length ≤ lim then .ok (.tup (xs ++ ys)) h else .no
  | .loc m, .loc n => match h[m]?, h[n]? with
    | some (.lst xs), some (.lst ys) => mkLst (xs ++ ys) h
    | _, _ => .no
  | _, _ => .no
noncomputable def subD (d e : D) (h : AH) : R D := match d, e with
  | .int i, .int j => .ok (.int (i - j)) h
  | _, _ => .no
noncomputable def small (i : Int) : Bool := decide (-18446744073709551616 < i) && decide (i < 18446744073709551616)
noncomputable def mulD (d e : D) (h : AH) : R D := match d, e with
  | .int i, .int j => if (small i || small j) = true then .ok (.int (i * j)) h else .no
  | .loc m, .int k => match h[m]? with
    | some (.lst xs) => if (decide (-1000000 ≤ k) && decide (k ≤ 1000000) && decide (xs.length * k.toNat ≤ lim)) = true then mkLst (List.replicate k.toNat xs).flatten h else .no
    | _ => .no
  | .tup xs, .int k => if (!xs.isEmpty && decide (-1000 ≤ k) && decide (k ≤ 1000) && decide (xs.length ≤ 1000)) = true then .ok (.tup (List.replicate k.toNat xs).flatten) h else .no
  | _, _ => .no
noncomputable def fdivD (d e : D) (h : AH) : R D := match d, e with
  | .int i, .int j => if (decide (0 < j) && small j) = true then .ok (.int (i / j)) h else .no
  | _, _ => .no
noncomputable def modD (d e : D) (h : AH) : R D := match d, e with
  | .int i, .int j => if 0 < j then .ok (.int (i % j)) h else .no
  | _, _ => .no
noncomputable def powD (d e : D) (h : AH) : R D := match d, e with
  | .int i, .int j => if (decide (0 ≤ j) && decide (j ≤ 1000) && small i) = true then .ok (.int (i ^ j.toNat)) h else .no
  | _, _ => .no
noncomputable def cmpI (p : Int → Int → Bool) (d e : D) (h : AH) : R D := match d, e with
  | .int i, .int j => .ok (.bl (p i j)) h
  | _, _ => .no
noncomputable def isNon : D → Bool
  | .non => true
  | _ => false
noncomputable def isD (neg : Bool) (d e : D) (h : AH) : R D := match e with
  | .non => .ok (.bl (xor neg (isNon d))) h
  | .bl b => match d with
    | .bl a => .ok (.bl (xor neg (decide (a = b)))) h
    | _ => .no
  | _ => .no
noncomputable def memF (d : D) (xs : List D) : Bool := xs.any fun y => eqF y d
noncomputable def inD (neg : Bool) (d e : D) (h : AH) : R D := match e with
  | .tup xs => if flatD d = true ∧ xs.all flatD = true then .ok (.bl (xor neg (memF d xs))) h else .no
  | .loc n => match h[n]? with
    | some (.lst xs) => if flatD d = true ∧ xs.all flatD = true then .ok (.bl (xor neg (memF d xs))) h else .no
    | some (.frz xs) => if flatD d = true ∧ xs.all flatD = true then .ok (.bl (xor neg (memF d xs))) h else .no
    | some (.dct kvs) => match keyOf d with
      | some k => .ok (.bl (xor neg (valD kvs k).isSome)) h
      | none => .no
    | some (.lck kvs) => match keyOf d with
      | some k => .ok (.bl (xor neg (valD kvs k).isSome)) h
      | none => .no
    | _ => .no
  | .str z => match d with
    | .str x => match x.cps.toList with
      | [c] => .ok (.bl (xor neg (decide (c ∈ z.cps.toList)))) h
      | _ => .no
    | _ => .no
  | _ => .no
noncomputable def negD (d : D) (h : AH) : R D := match d with
  | .int i => .ok (.int (-i)) h
  | _ => .no
section
variable {X : Cx} {L : Lk} {W : WX}
theorem op_addS (hK : X.K = L.K) : OpS X L W (binaryOp .Add) addD := by
  refine ⟨_, (op_add).or ((op_add_str).or ((op_catA).or op_cat)), fun σ A h H x y d e Q rh rd re p => ?_⟩
  unfold addD at p
  split at p
  · cases rd; cases re
    exact .inl ⟨_, _, rfl, rfl, Po.ok p rh (.int _)⟩
  · cases rd; cases re
    split at p
    · exact .inr (.inl ⟨_, _, rfl, rfl, lim_ok (by assumption), Po.ok p rh (.str _)⟩)
    · exact p.elim
  · rename_i xs ys
    cases rd with
    | @tup a _ vs hs hr =>
      cases re with
      | @tup b _ ws hs' hr' =>
        split at p
        · rename_i hz
          refine .inr (.inr (.inl ⟨a, b, vs, ws, rfl, rfl, by rw [hK]; exact hs, by rw [hK]; exact hs', by rw [← hr.length, ← hr'.length]; exact lim_ok hz, fun e0 => ?_, fun n0 e0 => ?_, fun n0 n1 q nq => ?_⟩))
          · subst e0; cases hr; exact Po.ok p rh (.tup hs' hr')
          · subst e0; cases hr'; rw [List.append_nil] at p; exact Po.ok p rh (.tup hs hr)
          · exact Po.newTup p rh (hr.append hr') nq
        · exact p.elim
  · rename_i m n
    cases rd with
    | @loc _ a ea =>
      cases re with
      | @loc _ b eb =>
        split at p
        · rename_i xs ys e1 e2
          have q1 := rh.get m a _ ea e1
          have q2 := rh.get n b _ eb e2
          obtain ⟨vs, h1, r1⟩ := q1
          obtain ⟨ws, h2, r2⟩ := q2
          unfold mkLst at p
          split at p
          · rename_i hz
            rw [List.length_append] at hz
            exact .inr (.inr (.inr ⟨a, b, vs, ws, rfl, rfl, h1, h2, by rw [← r1.length, ← r2.length]; exact lim_ok hz, fun q nq => Po.newLst p rh (r1.append r2) nq⟩))
          · exact p.elim
        · exact p.elim
  · exact p.elim
theorem op_subS : OpS X L W (binaryOp .Sub) subD := by
  refine ⟨_, op_sub, fun σ A h H x y d e Q rh rd re p => ?_⟩
  unfold subD at p
  split at p
  · cases rd; cases re
    exact ⟨_, _, rfl, rfl, Po.ok p rh (.int _)⟩
  · exact p.elim
theorem small_ok {i : Int} (h : small i = true) : -(2 ^ 64) < i ∧ i < 2 ^ 64 := by
  unfold small at h
  simp only [Bool.and_eq_true, decide_eq_true_eq] at h
  have e : (2 : Int) ^ 64 = 18446744073709551616 := by decide
  rw [e]
  exact h
theorem op_mulS (hK : X.K = L.K) : OpS X L W (binaryOp .Mult) mulD := by
  refine ⟨_, (op_mul).or ((op_rep).or ((op_rep0).or ((op_rep1).or op_repT))), fun σ A h H x y d e Q rh rd re p => ?_⟩
  unfold mulD at p
  split at p
  · cases rd; cases re
    split at p
    · rename_i hs
      rw [Bool.or_eq_true] at hs
      exact .inl ⟨_, _, rfl, rfl, hs.imp small_ok small_ok, Po.ok p rh (.int _)⟩
    · exact p.elim
  · rename_i m k
    cases rd with
    | @loc _ a ea =>
      cases re
      split at p
      · rename_i xs e1
        split at p
        · rename_i hs
          simp only [Bool.and_eq_true, decide_eq_true_eq] at hs
          obtain ⟨vs, h1, r1⟩ := rh.get m a _ ea e1
          unfold mkLst at p
          split at p
          · rename_i hz
            have rr : ∀ n : Nat, RDs L A H (List.replicate n xs).flatten (List.replicate n vs).flatten := fun n => by
              induction n with
              | zero => exact .nil
              | succ n ih => rw [List.replicate_succ, List.replicate_succ, List.flatten_cons, List.flatten_cons]; exact r1.append ih
            exact .inr (.inl ⟨a, k, vs, rfl, rfl, h1, by omega, by omega, by rw [← r1.length]; exact lim_ok hs.2, fun q nq => Po.newLst p rh (rr _) nq⟩)
          · exact p.elim
        · exact p.elim
      · exact p.elim
  · rename_i xs k
    cases re
    cases rd with
    | @tup a _ vs hs hr =>
      split at p
      · rename_i hc
        simp only [Bool.and_eq_true, decide_eq_true_eq, Bool.not_eq_true'] at hc
        have hne : vs ≠ [] := fun z => by
          have := hr.length
          rw [z] at this
          cases xs with
          | nil => cases hc.1.1.1
          | cons _ _ => cases this
        have rr : ∀ n : Nat, RDs L A H (List.replicate n xs).flatten (List.replicate n vs).flatten := fun n => by
          induction n with
          | zero => exact .nil
          | succ n ih => rw [List.replicate_succ, List.replicate_succ, List.flatten_cons, List.flatten_cons]; exact hr.append ih
        by_cases h0 : k ≤ 0
        · refine .inr (.inr (.inl ⟨a, k, vs, rfl, rfl, by rw [hK]; exact hs, hne, h0, by omega, fun q nq => ?_⟩))
          rw [show k.toNat = 0 by omega] at p
          exact Po.newTup p rh .nil nq
        · by_cases h1 : k = 1
          · subst h1
            refine .inr (.inr (.inr (.inl ⟨a, vs, rfl, rfl, by rw [hK]; exact hs, ?_⟩)))
            have e : (List.replicate (1 : Int).toNat xs).flatten = xs := by show (List.replicate 1 xs).flatten = xs; simp
            rw [e] at p
            exact Po.ok p rh (.tup hs hr)
          · exact .inr (.inr (.inr (.inr ⟨a, k, vs, rfl, rfl, by rw [hK]; exact hs, hne, by omega, by omega, by rw [← hr.length]; omega, fun q nq => Po.newTup p rh (rr _) nq⟩)))
      · exact p.elim
  · exact p.elim
theorem op_fdivS : OpS X L W (binaryOp .FloorDiv) fdivD := by
  refine ⟨_, op_fdivW, fun σ A h H x y d e Q rh rd re p => ?_⟩
  unfold fdivD at p
  split at p
  · rename_i i j
    cases rd; cases re
    split at p
    · rename_i hs
      rw [Bool.and_eq_true, decide_eq_true_eq] at hs
      have hk := small_ok hs.2
      have e : (2 : Int) ^ 64 = 18446744073709551616 := by decide
      rw [e] at hk
      have hn : j.natAbs < 2 ^ 64 := by
        have e' : (2 : Nat) ^ 64 = 18446744073709551616 := by decide
        rw [e']; omega
      have hl : j.natAbs.log2 < 9000 := by
        have h0 : j.natAbs ≠ 0 := by omega
        have := (Nat.log2_lt h0).mpr hn
        omega
      exact ⟨_, _, rfl, rfl, ⟨hs.1, hl⟩, Po.ok p rh (.int _)⟩
    · exact p.elim
  · exact p.elim
theorem op_modS : OpS X L W (binaryOp .Mod) modD := by
  refine ⟨_, op_mod, fun σ A h H x y d e Q rh rd re p => ?_⟩
  unfold modD at p
  split at p
  · cases rd; cases re
    split at p
    · exact ⟨_, _, rfl, rfl, by assumption, Po.ok p rh (.int _)⟩
    · exact p.elim
  · exact p.elim
theorem op_powS : OpS X L W (binaryOp .Pow) powD := by
  refine ⟨_, op_pow, fun σ A h H x y d e Q rh rd re p => ?_⟩
  unfold powD at p
  split at p
  · rename_i i j
    cases rd; cases re
    split at p
    · rename_i hs
      simp only [Bool.and_eq_true, decide_eq_true_eq] at hs
      have hk := small_ok hs.2
      have e : (2 : Int) ^ 64 = 18446744073709551616 := by decide
      rw [e] at hk
      have e' : (2 : Nat) ^ 64 = 18446744073709551616 := by decide
      exact ⟨_, _, rfl, rfl, ⟨hs.1.1, by omega, by rw [e']; omega⟩, Po.ok p rh (.int _)⟩
    · exact p.elim
  · exact p.elim
theorem op_cmpI {op : CmpOp} {q : Int → Int → Bool} (ho : OpR X (compareOp op) (rI0 fun i j => .bl (q i j))) : OpS X L W (compareOp op) (cmpI q) := by
  refine ⟨_, ho, fun σ A h H x y d e Q rh rd re p => ?_⟩
  unfold cmpI at p
  split at p
  · cases rd; cases re
    exact ⟨_, _, rfl, rfl, Po.ok p rh (.bl _)⟩
  · exact p.elim
theorem isN_of {A : List Addr} {H : Hp} {d : D} {v : V} (r : RD L A H d v) : decide (v = V.non) = isNon d := by
  cases r <;> rfl
theorem op_isS : OpS X L W (compareOp .Is) (isD false) := by
  refine ⟨_, (op_isN).or op_isBl, fun σ A h H x y d e Q rh rd re p => ?_⟩
  unfold isD at p
  split at p
  · cases re
    refine .inl ⟨rfl, ?_⟩
    rw [isN_of rd]
    have := Po.ok p rh (.bl _)
    simpa using this
  · cases re
    split at p
    · cases rd
      refine .inr ⟨_, _, rfl, rfl, ?_⟩
      have := Po.ok p rh (.bl _)
      simpa using this
    · exact p.elim
  · exact p.elim
theorem op_isnotS : OpS X L W (compareOp .IsNot) (isD true) := by
  refine ⟨_, (op_notN).or op_notBl, fun σ A h H x y d e Q rh rd re p => ?_⟩
  unfold isD at p
  split at p
  · cases re
    refine .inl ⟨rfl, ?_⟩
    rw [isN_of rd]
    have := Po.ok p rh (.bl _)
    simpa using this
  · cases re
    split at p
    · cases rd
      refine .inr ⟨_, _, rfl, rfl, ?_⟩
      have := Po.ok p rh (.bl _)
      simpa using this
    · exact p.elim
  · exact p.elim
theorem flat_all {A : List Addr} {H : Hp} : ∀ {ds : List D} {vs : List V}, RDs L A H ds vs → ds.all flatD = true → vs.all flatV = true
  | _, _, .nil, _ => rfl
  | _, _, .cons p q, h => by
    rw [List.all_cons, Bool.and_eq_true] at h
    rw [List.all_cons, flat_of p h.1, flat_all q h.2]; rfl
theorem mem_of {A : List Addr} {H : Hp} {d : D} {v : V} (r : RD L A H d v) (h : flatD d = true) : ∀ {ds : List D} {vs : List V}, RDs L A H ds vs → ds.all flatD = true → inV v vs = memF d ds
  | _, _, .nil, _ => rfl
  | _, _, .cons p q, hs => by
    rw [List.all_cons, Bool.and_eq_true] at hs
    have ih := mem_of r h q hs.2
    unfold inV memF at ih ⊢
    rw [List.any_cons, List.any_cons, ih, eqF_of p r hs.1 h]
noncomputable def rInS (neg : Bool) : R2 := fun x y H Q => ∃ (c : Nat) (z : Str), x = .str ⟨#[c]⟩ ∧ y = .str z ∧ Q (.bl (xor neg (decide (c ∈ z.cps.toList)))) H
noncomputable def rInK (neg : Bool) : R2 := fun x y H Q => ∃ a o, y = .ref a ∧ DGet H a x o ∧ Q (.bl (xor neg o.isSome)) H
theorem op_inSf : OpR X (compareOp .In) (rInS false) := fun pins s σ H x y v u Q I rx ry ⟨c, z, e1, e2, q⟩ => op_in_sign pins s σ H x y v u Q I rx ry ⟨c, z, e1, e2, by simpa using q⟩
theorem op_inSt : OpR X (compareOp .NotIn) (rInS true) := fun pins s σ H x y v u Q I rx ry ⟨c, z, e1, e2, q⟩ => op_notIn_sign pins s σ H x y v u Q I rx ry ⟨c, z, e1, e2, by simpa using q⟩
theorem op_inX {op : CmpOp} {neg : Bool} (hK : X.K = L.K) (ho : OpR X (compareOp op) (rIn X.K neg)) (hd : OpR X (compareOp op) (rInK neg)) (ht : OpR X (compareOp op) (rInS neg)) : OpS X L W (compareOp op) (inD neg) := by
  refine ⟨_, (ho).or ((hd).or ht), fun σ A h H x y d e Q rh rd re p => ?_⟩
  rw [hK]
  have key : ∀ {q : Addr} {xs : List D} {vs : List V}, (SqL L.K H q vs ∨ SqT L.K H q vs) → RDs L A H xs vs → flatD d = true ∧ xs.all flatD = true → Q (.bl (xor neg (memF d xs))) H → rIn L.K neg x (.ref q) H Q := fun hs hr hf hq => by
    refine ⟨_, _, rfl, hs, flat_of rd hf.1, flat_all hr hf.2, ?_⟩
    rw [mem_of rd hf.1 hr hf.2]
    cases neg
    · simpa using hq
    · simpa using hq
  unfold inD at p
  split at p
  · cases re with
    | tup hs hr =>
      split at p
      · exact .inl (key (.inr hs) hr (by assumption) (Po.ok p rh (.bl _)))
      · exact p.elim
  · rename_i n
    cases re with
    | @loc _ a ea =>
      split at p
      · rename_i xs e1
        obtain ⟨vs, h1, r1⟩ := rh.get n a _ ea e1
        split at p
        · exact .inl (key (.inl (SqL.of h1)) r1 (by assumption) (Po.ok p rh (.bl _)))
        · exact p.elim
      · rename_i xs e1
        obtain ⟨vs, h1, r1⟩ := rh.get n a _ ea e1
        split at p
        · exact .inl (key (.inl h1.sq) r1 (by assumption) (Po.ok p rh (.bl _)))
        · exact p.elim
      · rename_i kvs e1
        obtain ⟨ws, h1, r1⟩ := rh.get n a _ ea e1
        split at p
        · rename_i k ek
          have ex := keyOf_ok rd ek
          subst ex
          have hv := r1.val (k := k)
          have e2 : (valD kvs k).isSome = (valV ws k).isSome := by
            cases ev : valD kvs k with
            | none => rw [hv.2 ev]; rfl
            | some d' => obtain ⟨v', e3, _⟩ := hv.1 d' ev; rw [e3]; rfl
          refine .inr (.inl ⟨a, _, rfl, DGet.k h1, ?_⟩)
          rw [← e2]
          exact Po.ok p rh (.bl _)
        · exact p.elim
      · rename_i kvs e1
        obtain ⟨ws, ⟨ob, h1⟩, r1⟩ := rh.get n a _ ea e1
        split at p
        · rename_i k ek
          have ex := keyOf_ok rd ek
          subst ex
          have hv := r1.val (k := k)
          have e2 : (valD kvs k).isSome = (valV ws k).isSome := by
            cases ev : valD kvs k with
            | none => rw [hv.2 ev]; rfl
            | some d' => obtain ⟨v', e3, _⟩ := hv.1 d' ev; rw [e3]; rfl
          refine .inr (.inl ⟨a, _, rfl, .inl ⟨ws, k, .inr ⟨ob, h1⟩, rfl, rfl⟩, ?_⟩)
          rw [← e2]
          exact Po.ok p rh (.bl _)
        · exact p.elim
      · exact p.elim
  · rename_i z
    cases re
    split at p
    · rename_i x0
      cases rd
      split at p
      · rename_i c ec
        refine .inr (.inr ⟨c, z, ?_, rfl, Po.ok p rh (.bl _)⟩)
        have : x0 = ⟨#[c]⟩ := by
          cases x0 with
          | mk cps => congr 1; exact Array.toList_inj.mp ec
        rw [this]
      · exact p.elim
    · exact p.elim
  · exact p.elim
theorem un_negS : UnS X L W (unaryOp .USub) negD := by
  refine ⟨_, un_neg, fun σ A h H x d Q rh rd p => ?_⟩
  unfold negD at p
  split at p
  · cases rd
    exact ⟨_, rfl, Po.ok p rh (.int _)⟩
  · exact p.elim
end
end Cod

namespace Cod
open PySem L2

/-! ### items and slices -/
noncomputable def okO {α : Type} (o : Option α) (h : AH) : R α := match o with
  | some a => .ok a h
  | none => .no
noncomputable def ixD (d e : D) (h : AH) : R D := match d with
  | .tup xs => match e with
    | .int i => okO (atI xs i) h
    | _ => .no
  | .loc n => match h[n]? with
    | some (.lst xs) => match e with
      | .int i => okO (atI xs i) h
      | _ => .no
    | some (.frz xs) => match e with
      | .int i => okO (atI xs i) h
      | _ => .no
    | some (.dct kvs) => match keyOf e with
      | some k => okO (valD kvs k) h
      | none => .no
    | some (.lck kvs) => match keyOf e with
      | some k => okO (valD kvs k) h
      | none => .no
    | _ => .no
  | .str z => match e with
    | .int i => if z.length ≤ lim then okO ((atI z.cps.toList i).map fun c => .str ⟨#[c]⟩) h else .no
    | _ => .no
  | .kd ks vs => match e with
    | .str z => match ks.findIdx? (fun k => decide (k = z)) with
      | some i => okO vs[i]? h
      | none => .no
    | _ => .no
  | _ => .no
theorem okO_ok {L : Lk} {W : WX} {σ : L2.St} {A : List Addr} {H : Hp} {β : Type} {rel : List Addr → Hp → D → β → Prop} {o : Option D} {h : AH} {Q : β → Hp → Prop} (p : Po L W σ A H rel (okO o h) Q) : ∃ a, o = some a ∧ Po L W σ A H rel (.ok a h) Q := by
  cases o with
  | none => exact p.elim
  | some a => exact ⟨a, rfl, p⟩
section
variable {X : Cx} {L : Lk} {W : WX} {A : List Addr} {H : Hp}
theorem RDs.atI {ds : List D} {vs : List V} {i : Int} {d : D} (r : RDs L A H ds vs) (h : L2.atI ds i = some d) : ∃ v, L2.atI vs i = some v ∧ RD L A H d v := by
  unfold L2.atI at h ⊢
  rw [← r.length]
  cases e : ixN ds.length i with
  | none => rw [e] at h; cases h
  | some j => rw [e] at h; exact r.get h
theorem ix_S (hK : X.K = L.K) (hw : X.w = L.w) (hu : X.A.units + 1 < cLine) : ∃ r : R2, IxR X r ∧ ∀ (σ : L2.St) (A : List Addr) (h : AH) (H : Hp) (x y : V) (d e : D) (Q : VK), RH L A h H → RD L A H d x → RD L A H e y → Po L W σ A H (RD L) (ixD d e h) Q → r x y H Q := by
  refine ⟨_, (ix_seq).or ((ix_dK hu).or ix_kdict), fun σ A h H x y d e Q rh rd re p => ?_⟩
  unfold rIx
  rw [hK, hw]
  unfold ixD at p
  split at p
  · split at p
    · cases rd with
      | @tup a _ vs hs hr =>
        cases re
        obtain ⟨a', e1, p⟩ := okO_ok p
        obtain ⟨v, e2, q⟩ := hr.atI e1
        exact .inl (.inr (.inl ⟨a, vs, _, v, rfl, rfl, hs, e2, Po.ok p rh q⟩))
    · exact p.elim
  · rename_i n
    cases rd with
    | @loc _ a ea =>
      split at p
      · rename_i xs e0
        split at p
        · cases re
          obtain ⟨vs, h1, r1⟩ := rh.get _ a _ ea e0
          obtain ⟨a', e1, p⟩ := okO_ok p
          obtain ⟨v, e2, q⟩ := r1.atI e1
          exact .inl (.inl ⟨a, vs, _, v, rfl, rfl, SqL.of h1, e2, Po.ok p rh q⟩)
        · exact p.elim
      · rename_i xs e0
        split at p
        · cases re
          obtain ⟨vs, h1, r1⟩ := rh.get _ a _ ea e0
          obtain ⟨a', e1, p⟩ := okO_ok p
          obtain ⟨v, e2, q⟩ := r1.atI e1
          exact .inl (.inl ⟨a, vs, _, v, rfl, rfl, h1.sq, e2, Po.ok p rh q⟩)
        · exact p.elim
      · rename_i kvs e0
        obtain ⟨ws, h1, r1⟩ := rh.get n a _ ea e0
        split at p
        · rename_i k ek
          have ex := keyOf_ok re ek
          subst ex
          obtain ⟨a', e1, p⟩ := okO_ok p
          obtain ⟨v, e2, q⟩ := r1.val.1 _ e1
          refine .inr (.inl ⟨a, v, rfl, ?_, Po.ok p rh q⟩)
          rw [← e2]
          exact DGet.k h1
        · exact p.elim
      · rename_i kvs e0
        obtain ⟨ws, ⟨ob, h1⟩, r1⟩ := rh.get n a _ ea e0
        split at p
        · rename_i k ek
          have ex := keyOf_ok re ek
          subst ex
          obtain ⟨a', e1, p⟩ := okO_ok p
          obtain ⟨v, e2, q⟩ := r1.val.1 _ e1
          refine .inr (.inl ⟨a, v, rfl, ?_, Po.ok p rh q⟩)
          rw [← e2]
          exact .inl ⟨ws, k, .inr ⟨ob, h1⟩, rfl, rfl⟩
        · exact p.elim
      · exact p.elim
  · split at p
    · cases rd; cases re
      split at p
      · rename_i hz
        obtain ⟨a', e1, p⟩ := okO_ok p
        simp only [Option.map_eq_some_iff] at e1
        obtain ⟨c, e2, rfl⟩ := e1
        exact .inl (.inr (.inr ⟨_, _, c, rfl, rfl, lim_ok hz, e2, Po.ok p rh (.str _)⟩))
      · exact p.elim
    · exact p.elim
  · split at p
    · rename_i z
      cases re
      split at p
      · rename_i i ei
        obtain ⟨a', e1, p⟩ := okO_ok p
        cases rd with
        | @kd a ks xs vs hk hr =>
          obtain ⟨es, n, g1, g2, g3, g4, g5⟩ := hk
          obtain ⟨v, ev, rv⟩ := hr.get e1
          obtain ⟨hi, hp, _⟩ := List.findIdx?_eq_some_iff_getElem.mp ei
          have hz : _ = z := of_decide_eq_true hp
          obtain ⟨u, eu, ru⟩ := g5 i z v (by rw [List.getElem?_eq_getElem hi, hz]) ev
          exact .inr (.inr ⟨a, z, v, rfl, rfl, ⟨es, n, u, g1, g2, eu, ru⟩, Po.ok p rh rv⟩)
      · exact p.elim
    · exact p.elim
  · exact p.elim
/-- an optional part of a slice -/
noncomputable abbrev OD := Sl → AH → R (Option Int)
noncomputable def tOp' (L : Lk) (W : WX) (m : OD) : TO := fun σ H Q => ∃ A δ h, RS L A H δ σ ∧ RH L A h H ∧ Po L W σ A H (fun _ _ (a b : Option Int) => a = b) (m δ h) Q
noncomputable def oNone : OD := fun _ h => .ok none h
noncomputable def oSome (m : ED) : OD := fun δ h => (m δ h).bind fun d h1 => match d with
  | .int i => .ok (some i) h1
  | _ => .no
theorem PO.weak {X : Cx} {e : Option Expr} {t t' : TO} (h : PO X e t) (w : ∀ σ H Q, t' σ H Q → t σ H Q) : PO X e t' := ⟨fun pins s σ H Q I q => h.run pins s σ H Q I (w σ H Q q)⟩
theorem o_none : PO X none (tOp' L W oNone) := PO.weak po_none fun σ H Q ⟨A, δ, h, rs, rh, p⟩ => Po.ok p rh rfl
theorem o_some {e : Expr} {m : ED} (h : PE X e (tE L W m)) : PO X (some e) (tOp' L W (oSome m)) := by
  refine PO.weak (po_some h) fun σ H Q ⟨A, δ, h, rs, rh, p⟩ => ⟨A, δ, h, rs, rh, (Po.bind p).imp fun v H1 ⟨A1, d, h1, l, rh1, q, p1⟩ => ?_⟩
  split at p1
  · cases q; exact ⟨_, rfl, Po.ok p1 rh1 rfl⟩
  · exact p1.elim
noncomputable def cutD {α : Type} (xs : List α) (lo hi : Option Int) : List α := (xs.drop (HT.sIx xs.length 0 lo)).take (HT.sIx xs.length xs.length hi - HT.sIx xs.length 0 lo)
noncomputable def slD (d : D) (lo hi : Option Int) (h : AH) : R D := match d with
  | .tup xs => .ok (.tup (cutD xs lo hi)) h
  | .loc n => match h[n]? with
    | some (.lst xs) => .ok (.loc h.length) (h ++ [.lst (cutD xs lo hi)])
    | some (.frz xs) => .ok (.loc h.length) (h ++ [.lst (cutD xs lo hi)])
    | _ => .no
  | .str z => if z.length ≤ lim then .ok (.str (cutS z lo hi)) h else .no
  | _ => .no
noncomputable def eSl (m : ED) (lo hi : OD) : ED := fun δ h => (m δ h).bind fun d h1 => (lo δ h1).bind fun l h2 => (hi δ h2).bind fun u h3 => slD d l u h3
theorem RDs.cut {ds : List D} {vs : List V} (r : RDs L A H ds vs) (lo hi : Option Int) : RDs L A H (cutD ds lo hi) (cutV vs lo hi) := by
  unfold cutD cutV
  rw [← r.length]
  exact (r.drop _).take _
theorem cut_all {α : Type} {xs : List α} {lo hi : Option Int} (h : HT.sIx xs.length 0 lo = 0 ∧ HT.sIx xs.length xs.length hi = xs.length) : cutD xs lo hi = xs := by
  unfold cutD
  rw [h.1, h.2]
  simp
theorem e_sl {e : Expr} {lo hi : Option Expr} {m : ED} {ml mh : OD} {p2 pos : Pos} (hK : X.K = L.K) (he : PE X e (tE L W m)) (hl : PO X lo (tOp' L W ml)) (hu : PO X hi (tOp' L W mh)) : PE X (.Subscript e (.Slice lo hi none p2) pos) (tE L W (eSl m ml mh)) := by
  refine PE.weak (pe_slice ((sl_list).or ((sl_tupA).or sl_str)) he hl hu) fun σ H Q ⟨A, δ, h, rs, rh, p⟩ => ?_
  refine ⟨A, δ, h, rs, rh, (Po.bind p).imp fun x H1 ⟨A1, d, h1, l1, rh1, q, p1⟩ => ⟨A1, δ, h1, rs.mono l1, rh1, (Po.bind p1).imp fun lo H2 ⟨A2, lo', h2, l2, rh2, q2, p2⟩ => ⟨A2, δ, h2, rs.mono (l1.trans l2), rh2, (Po.bind p2).imp fun hi H3 ⟨A3, hi', h3, l3, rh3, q3, p3⟩ => ?_⟩⟩⟩
  subst q2 q3
  rw [hK]
  have q := RD.mono (l2.trans l3) _ _ q
  unfold slD at p3
  split at p3
  · cases q with
    | @tup a _ vs hs hr =>
      refine .inr (.inl ⟨a, vs, rfl, hs, fun hw => ?_, fun _ q nq => Po.newTup p3 rh3 (hr.cut _ _) nq⟩)
      have hw' := hw
      rw [← hr.length] at hw'
      rw [cut_all hw'] at p3
      exact Po.ok p3 rh3 (.tup hs hr)
  · cases q with
    | @loc n a ea =>
      split at p3
      · rename_i xs e0
        obtain ⟨vs, g1, r1⟩ := rh3.get _ a _ ea e0
        exact .inl ⟨a, vs, rfl, SqL.of g1, fun q nq => Po.newLst p3 rh3 (r1.cut _ _) nq⟩
      · rename_i xs e0
        obtain ⟨vs, g1, r1⟩ := rh3.get _ a _ ea e0
        exact .inl ⟨a, vs, rfl, g1.sq, fun q nq => Po.newLst p3 rh3 (r1.cut _ _) nq⟩
      · exact p3.elim
  · cases q
    split at p3
    · rename_i hz
      exact .inr (.inr ⟨_, rfl, lim_ok hz, Po.ok p3 rh3 (.str _)⟩)
    · exact p3.elim
  · exact p3.elim

/-! ### built-in calls -/
theorem e_callB {x : Str} {id : String} {g : List D → AH → R D} {r : AD} {e : Expr} {es : List Expr} {p pos : Pos} (o : CaS X L W (.builtin id) g) (hg : Gl X x) (hm : X.mg x = none) (hv : bootBuiltins x = some (.builtin id)) (ha : PA X (e :: es) (tAr L W r))
    (hn : x ≠ "__name__") (hdb : (x == ("__debug__" : Str)) = false) (he : starEach (e :: es) X.env = (false, eval e X.env) :: starEach es X.env) (hpl : (backTo pos (starEach es X.env)).any (·.1) = false) : PE X (.Call (.Name x p) (e :: es) [] pos) (tE L W (eA g r)) := by
  obtain ⟨rr, ho, hr⟩ := o
  refine PE.weak (pe_callB ho hg hm hv ha hn hdb he hpl) fun σ H Q ⟨A, δ, h, rs, rh, p⟩ => ?_
  exact ⟨A, δ, h, rs, rh, (Po.bind p).imp fun x H1 ⟨A1, d, h1, l, rh1, q, p1⟩ => hr σ A1 h1 H1 x d Q rh1 q p1⟩
theorem e_callTy {x : Str} {id : String} {g : List D → AH → R D} {r : AD} {e : Expr} {es : List Expr} {p pos : Pos} (o : CaS X L W (.type id) g) (hg : Gl X x) (hm : X.mg x = none) (hv : bootBuiltins x = some (.type id)) (ha : PA X (e :: es) (tAr L W r))
    (hn : x ≠ "__name__") (hdb : (x == ("__debug__" : Str)) = false) (he : starEach (e :: es) X.env = (false, eval e X.env) :: starEach es X.env) (hpl : (backTo pos (starEach es X.env)).any (·.1) = false) : PE X (.Call (.Name x p) (e :: es) [] pos) (tE L W (eA g r)) := by
  obtain ⟨rr, ho, hr⟩ := o
  refine PE.weak (pe_callTy ho hg hm hv ha hn hdb he hpl) fun σ H Q ⟨A, δ, h, rs, rh, p⟩ => ?_
  exact ⟨A, δ, h, rs, rh, (Po.bind p).imp fun x H1 ⟨A1, d, h1, l, rh1, q, p1⟩ => hr σ A1 h1 H1 x d Q rh1 q p1⟩
noncomputable def tyN (h : AH) : D → Option String
  | .non => some "NoneType"
  | .bl _ => some "bool"
  | .int _ => some "int"
  | .str _ => some "str"
  | .tup _ => some "tuple"
  | .loc n => match h[n]? with
    | some (.lst _) => some "list"
    | some (.frz _) => some "list"
    | some (.dct _) => some "dict"
    | some (.lck _) => some "dict"
    | _ => none
  | _ => none
/-- isinstance of built-in types -/
noncomputable def tyNames : List String := ["NoneType", "bool", "int", "str", "tuple", "list", "dict"]
noncomputable def clNames : List String := ["int", "bool", "str", "tuple", "list", "dict"]
noncomputable def isiB (t c : String) : Option Bool := if t ∈ tyNames ∧ c ∈ clNames then some (t == c || (t == "bool" && c == "int")) else none
theorem isi_tab : ∀ t ∈ tyNames, ∀ c ∈ clNames, kitB t c = some (t == c || (t == "bool" && c == "int")) := by decide +kernel
theorem isiB_ok {t c : String} {b : Bool} (h : isiB t c = some b) : kitB t c = some b := by
  unfold isiB at h
  split at h
  · rename_i hc
    cases h
    exact isi_tab t hc.1 c hc.2
  · cases h
theorem tyN_ok {h : AH} {d : D} {v : V} {t : String} (rh : RH L A h H) (r : RD L A H d v) (e : tyN h d = some t) : TyX L.K H v (.type t) := by
  unfold tyN at e
  split at e
  · cases r; cases e; exact .base .non
  · cases r; cases e; exact .base (.bl _)
  · cases r; cases e; exact .base (.int _)
  · cases r; cases e; exact .base (.str _)
  · cases e
    cases r with
    | tup hs _ =>
      rcases hs with (hs | ⟨o, hs⟩) | ⟨o, _, _, hs, hc, _⟩
      · exact .base (.tup hs)
      · exact .fTuple hs
      · exact .kTuple hs hc
  · cases r with
    | @loc n a ea =>
      split at e
      · rename_i e0
        obtain ⟨vs, g1, r1⟩ := rh.get _ a _ ea e0
        cases e; exact .base (.lst g1)
      · rename_i e0
        obtain ⟨vs, g1, r1⟩ := rh.get _ a _ ea e0
        cases e
        rcases g1 with ⟨ob, g1⟩ | ⟨o, _, _, g1, hc, _⟩
        · exact .base (.frz g1)
        · exact .kList g1 hc
      · rename_i e0
        obtain ⟨vs, g1, r1⟩ := rh.get _ a _ ea e0
        cases e; exact .base (.dK g1)
      · rename_i e0
        obtain ⟨vs, ⟨ob, g1⟩, r1⟩ := rh.get _ a _ ea e0
        cases e; exact .fDict g1
      · cases e
  · cases e
noncomputable def isiD (ds : List D) (h : AH) : R D := match ds with
  | [d, .ty c] => match tyN h d with
    | some t => okO ((isiB t c).map .bl) h
    | none => .no
  | _ => .no
theorem ca_isi (hK : X.K = L.K) : CaS X L W (.builtin "isinstance") isiD := by
  refine ⟨_, call_isi, fun σ A h H xs ds Q rh r p => ?_⟩
  unfold isiD at p
  split at p
  · cases r with
    | cons r1 r2 =>
      cases r2 with
      | cons r2 r3 =>
        cases r3
        cases r2
        split at p
        · rename_i t e0
          obtain ⟨a, e1, p⟩ := okO_ok p
          simp only [Option.map_eq_some_iff] at e1
          obtain ⟨b, e2, rfl⟩ := e1
          rw [hK]
          exact ⟨_, _, _, _, b, rfl, .ty _, tyN_ok rh r1 e0, kit_ty (isiB_ok e2), Po.ok p rh (.bl b)⟩
        · exact p.elim
  · exact p.elim
noncomputable def intD (ds : List D) (h : AH) : R D := match ds with
  | [.int i] => .ok (.int i) h
  | [.bl b] => .ok (.int (if b then 1 else 0)) h
  | [.str a] => match PySem.intText? a with
    | some n => if a.length ≤ 640 then .ok (.int n) h else .no
    | none => .no
  | _ => .no
theorem ca_int : CaS X L W (.type "int") intD := by
  refine ⟨_, CallR.or call_int1 call_int_str, fun σ A h H xs ds Q rh r p => ?_⟩
  unfold intD at p
  split at p
  · cases r with | cons r1 r2 => cases r2; cases r1; exact .inl (.inl ⟨_, rfl, Po.ok p rh (.int _)⟩)
  · cases r with | cons r1 r2 => cases r2; cases r1; exact .inl (.inr ⟨_, rfl, Po.ok p rh (.int _)⟩)
  · split at p
    · rename_i a _ n hn
      split at p
      · rename_i hl
        cases r with | cons r1 r2 => cases r2; cases r1; exact .inr ⟨a, n, rfl, hn, hl, Po.ok p rh (.int _)⟩
      · exact p.elim
    · exact p.elim
  · exact p.elim
noncomputable def absD (ds : List D) (h : AH) : R D := match ds with
  | [.int i] => .ok (.int (if i < 0 then -i else i)) h
  | _ => .no
theorem ca_abs : CaS X L W (.builtin "abs") absD := by
  refine ⟨_, call_abs, fun σ A h H xs ds Q rh r p => ?_⟩
  unfold absD at p
  split at p
  · cases r with | cons r1 r2 => cases r2; cases r1; exact ⟨_, rfl, Po.ok p rh (.int _)⟩
  · exact p.elim
noncomputable def seqD (h : AH) : D → Option (List D)
  | .tup xs => some xs
  | .loc n => match h[n]? with
    | some (.lst xs) => some xs
    | some (.frz xs) => some xs
    | _ => none
  | _ => none
theorem seqD_ok {h : AH} {d : D} {v : V} {xs : List D} (rh : RH L A h H) (r : RD L A H d v) (e : seqD h d = some xs) : ∃ a vs, v = .ref a ∧ (SqL L.K H a vs ∨ SqT L.K H a vs) ∧ RDs L A H xs vs := by
  unfold seqD at e
  split at e
  · cases e
    cases r with
    | @tup a _ vs hs hr => exact ⟨a, vs, rfl, .inr hs, hr⟩
  · cases r with
    | @loc n a ea =>
      split at e
      · rename_i e0
        obtain ⟨vs, g1, r1⟩ := rh.get _ a _ ea e0
        cases e; exact ⟨a, vs, rfl, .inl (SqL.of g1), r1⟩
      · rename_i e0
        obtain ⟨vs, g1, r1⟩ := rh.get _ a _ ea e0
        cases e; exact ⟨a, vs, rfl, .inl g1.sq, r1⟩
      · cases e
  · cases e
noncomputable def lenD (ds : List D) (h : AH) : R D := match ds with
  | [.str x] => if x.length ≤ lim then .ok (.int x.length) h else .no
  | [d] => match seqD h d with
    | some xs => .ok (.int xs.length) h
    | none => match dctAt h d with
      | some (_, kvs) => .ok (.int kvs.length) h
      | none => .no
  | _ => .no
theorem ca_len (hK : X.K = L.K) : CaS X L W (.builtin "len") lenD := by
  refine ⟨_, (call_len_str).or ((call_len_seq).or call_lenD), fun σ A h H xs ds Q rh r p => ?_⟩
  unfold lenD at p
  rw [hK]
  split at p
  · cases r with
    | cons r1 r2 =>
      cases r2; cases r1
      split at p
      · exact .inl ⟨_, rfl, lim_ok (by assumption), Po.ok p rh (.int _)⟩
      · exact p.elim
  · cases r with
    | cons r1 r2 =>
      cases r2
      split at p
      · rename_i xs e0
        obtain ⟨a, vs, rfl, hs, hr⟩ := seqD_ok rh r1 e0
        refine .inr (.inl ⟨a, vs, rfl, hs, ?_⟩)
        rw [← hr.length]
        exact Po.ok p rh (.int _)
      · split at p
        · rename_i n kvs e0
          obtain ⟨a, ws, _, _, _, rfl, g, rk⟩ := dctAt_ok rh r1 e0
          refine .inr (.inr ⟨a, ws, rfl, g, ?_⟩)
          rw [← rk.length]
          exact Po.ok p rh (.int _)
        · exact p.elim
  · exact p.elim
/-- the keys of a dict -/
noncomputable def keysAt (h : AH) : D → Option (List D)
  | .loc n => match h[n]? with
    | some (.dct kvs) => some (kvs.map fun p => keyD p.1)
    | some (.lck kvs) => some (kvs.map fun p => keyD p.1)
    | _ => none
  | _ => none
theorem keys_of_rk {A : List Addr} {H : Hp} {kvs : List (Key × D)} {ws : List (Key × V)} (r : RKs L A H kvs ws) : RDs L A H (kvs.map fun p => keyD p.1) (ws.map fun p => kV p.1) := by
  have h := keys_rds (L := L) (A := A) (H := H) (kvs.map (·.1))
  rw [List.map_map] at h
  have e : kvs.map (·.1) = ws.map (·.1) := r.keys
  have e2 : (kvs.map (·.1)).map kV = ws.map fun p => kV p.1 := by rw [e, List.map_map]; rfl
  rw [e2] at h
  exact h
theorem keysAt_ok {A : List Addr} {H : Hp} {h : AH} {d : D} {v : V} {xs : List D} (rh : RH L A h H) (r : RD L A H d v) (e : keysAt h d = some xs) : ∃ a ws, v = .ref a ∧ Rd H a (.dK ws) ∧ RDs L A H xs (ws.map fun p => kV p.1) := by
  unfold keysAt at e
  split at e
  · rename_i n
    split at e
    · rename_i kvs e0
      cases e
      cases r with
      | loc ea =>
        obtain ⟨ws, g, rk⟩ := rh.get _ _ _ ea e0
        exact ⟨_, ws, rfl, .inl g, keys_of_rk rk⟩
    · rename_i kvs e0
      cases e
      cases r with
      | loc ea =>
        obtain ⟨ws, ⟨ob, g⟩, rk⟩ := rh.get _ _ _ ea e0
        exact ⟨_, ws, rfl, .inr ⟨ob, g⟩, keys_of_rk rk⟩
    · cases e
  · cases e
noncomputable def listD (ds : List D) (h : AH) : R D := match ds with
  | [d] => match seqD h d with
    | some xs => .ok (.loc h.length) (h ++ [.lst xs])
    | none => match keysAt h d with
      | some xs => .ok (.loc h.length) (h ++ [.lst xs])
      | none => .no
  | _ => .no
theorem ca_list (hK : X.K = L.K) (hc : X.calm = true) : CaS X L W (.type "list") listD := by
  refine ⟨_, CallR.or call_list_of (call_listD hc), fun σ A h H xs ds Q rh r p => ?_⟩
  unfold listD at p
  rw [hK]
  split at p
  · cases r with
    | cons r1 r2 =>
      cases r2
      split at p
      · rename_i xs e0
        obtain ⟨a, vs, rfl, hs, hr⟩ := seqD_ok rh r1 e0
        exact .inl ⟨a, vs, rfl, hs, fun q nq => Po.newLst p rh hr nq⟩
      · split at p
        · rename_i xs e0
          obtain ⟨a, ws, rfl, g, rk⟩ := keysAt_ok rh r1 e0
          exact .inr ⟨a, ws, rfl, g, fun q nq => Po.newLst p rh rk nq⟩
        · exact p.elim
  · exact p.elim
noncomputable def tupleD (ds : List D) (h : AH) : R D := match ds with
  | [d] => match seqD h d with
    | some xs => .ok (.tup xs) h
    | none => .no
  | _ => .no
theorem ca_tuple (hK : X.K = L.K) : CaS X L W (.type "tuple") tupleD := by
  refine ⟨_, call_tuple_of, fun σ A h H xs ds Q rh r p => ?_⟩
  unfold tupleD at p
  rw [hK]
  split at p
  · cases r with
    | cons r1 r2 =>
      cases r2
      split at p
      · rename_i xs e0
        obtain ⟨a, vs, rfl, hs, hr⟩ := seqD_ok rh r1 e0
        rcases hs with hs | hs
        · exact ⟨a, vs, rfl, .inl ⟨hs, fun q nq => Po.newTup p rh hr nq⟩⟩
        · exact ⟨a, vs, rfl, .inr ⟨hs, Po.ok p rh (.tup hs hr)⟩⟩
      · exact p.elim
  · exact p.elim
/-- a list of ints -/
noncomputable def intsO : List D → Option (List Int)
  | [] => some []
  | .int i :: r => match intsO r with
    | some l => some (i :: l)
    | none => none
  | _ => none
theorem intsO_ok {A : List Addr} {H : Hp} : ∀ {ds : List D} {ns : List Int} {vs : List V}, intsO ds = some ns → RDs L A H ds vs → vs = ns.map V.int
  | [], _, _, e, r => by cases e; cases r; rfl
  | d :: ds, ns, _, e, r => by
    cases r with
    | cons r1 r2 =>
      cases d with
      | int i =>
        cases r1
        unfold intsO at e
        split at e
        · rename_i l el
          cases e
          rw [intsO_ok el r2]
          rfl
        · cases e
      | _ => cases e
theorem intsO_map : ∀ ns : List Int, intsO (ns.map D.int) = some ns
  | [] => rfl
  | n :: r => by rw [List.map_cons, intsO, intsO_map r]
noncomputable def maxL : List Int → Int
  | [] => 0
  | [x] => x
  | x :: y :: r => if maxL (y :: r) > x then maxL (y :: r) else x
noncomputable def minL : List Int → Int
  | [] => 0
  | [x] => x
  | x :: y :: r => if minL (y :: r) < x then minL (y :: r) else x
theorem maxL_ok : ∀ ns : List Int, ns ≠ [] → maxL ns ∈ ns ∧ ∀ y ∈ ns, y ≤ maxL ns
  | [], h => absurd rfl h
  | [x], _ => by simp [maxL]
  | x :: y :: r, _ => by
    have ih := maxL_ok (y :: r) (by simp)
    unfold maxL
    split
    · exact ⟨List.mem_cons_of_mem _ ih.1, fun z hz => by
        rcases List.mem_cons.mp hz with rfl | hz
        · omega
        · exact ih.2 z hz⟩
    · exact ⟨List.mem_cons_self .., fun z hz => by
        rcases List.mem_cons.mp hz with rfl | hz
        · omega
        · have := ih.2 z hz; omega⟩
theorem minL_ok : ∀ ns : List Int, ns ≠ [] → minL ns ∈ ns ∧ ∀ y ∈ ns, minL ns ≤ y
  | [], h => absurd rfl h
  | [x], _ => by simp [minL]
  | x :: y :: r, _ => by
    have ih := minL_ok (y :: r) (by simp)
    unfold minL
    split
    · exact ⟨List.mem_cons_of_mem _ ih.1, fun z hz => by
        rcases List.mem_cons.mp hz with rfl | hz
        · omega
        · exact ih.2 z hz⟩
    · exact ⟨List.mem_cons_self .., fun z hz => by
        rcases List.mem_cons.mp hz with rfl | hz
        · omega
        · have := ih.2 z hz; omega⟩
/-- a list of ints at a number -/
noncomputable def intsAt (h : AH) : D → Option (List Int)
  | .loc n => match h[n]? with
    | some (.lst xs) => intsO xs
    | some (.frz xs) => intsO xs
    | _ => none
  | _ => none
theorem intsAt_ok {A : List Addr} {H : Hp} {h : AH} {d : D} {v : V} {ns : List Int} (rh : RH L A h H) (r : RD L A H d v) (e : intsAt h d = some ns) : ∃ a, v = .ref a ∧ SqL L.K H a (ns.map V.int) := by
  unfold intsAt at e
  split at e
  · cases r with
    | @loc _ a ea =>
      split at e
      · rename_i e0
        obtain ⟨vs, g1, r1⟩ := rh.get _ a _ ea e0
        have := intsO_ok e r1
        subst this
        exact ⟨a, rfl, SqL.of g1⟩
      · rename_i e0
        obtain ⟨vs, g1, r1⟩ := rh.get _ a _ ea e0
        have := intsO_ok e r1
        subst this
        exact ⟨a, rfl, g1.sq⟩
      · cases e
  · cases e
noncomputable def maxD (ds : List D) (h : AH) : R D := match ds with
  | [.int i, .int j] => .ok (.int (if j > i then j else i)) h
  | [d] => match intsAt h d with
    | some (n :: r) => .ok (.int (maxL (n :: r))) h
    | _ => .no
  | _ => .no
noncomputable def minD (ds : List D) (h : AH) : R D := match ds with
  | [.int i, .int j] => .ok (.int (if j < i then j else i)) h
  | [d] => match intsAt h d with
    | some (n :: r) => .ok (.int (minL (n :: r))) h
    | _ => .no
  | _ => .no
theorem ca_max (hK : X.K = L.K) (hc : X.calm = true) : CaS X L W (.builtin "max") maxD := by
  refine ⟨_, (call_max2 hc).or (cr_max hc), fun σ A h H xs ds Q rh r p => ?_⟩
  unfold maxD at p
  rw [hK]
  split at p
  · cases r with | cons r1 r2 => cases r2 with | cons r2 r3 => cases r3; cases r1; cases r2; exact .inl ⟨_, _, rfl, Po.ok p rh (.int _)⟩
  · cases r with
    | cons r1 r2 =>
      cases r2
      split at p
      · rename_i n r e0
        obtain ⟨a, rfl, hs⟩ := intsAt_ok rh r1 e0
        refine .inr ⟨a, _, rfl, hs, by simp, fun m hm hy => ?_⟩
        have e := maxL_ok (n :: r) (by simp)
        have : m = maxL (n :: r) := by have := hy _ e.1; have := e.2 _ hm; omega
        rw [this]
        exact Po.ok p rh (.int _)
      · exact p.elim
  · exact p.elim
theorem ca_min (hK : X.K = L.K) (hc : X.calm = true) : CaS X L W (.builtin "min") minD := by
  refine ⟨_, (call_min2 hc).or (cr_min hc), fun σ A h H xs ds Q rh r p => ?_⟩
  unfold minD at p
  rw [hK]
  split at p
  · cases r with | cons r1 r2 => cases r2 with | cons r2 r3 => cases r3; cases r1; cases r2; exact .inl ⟨_, _, rfl, Po.ok p rh (.int _)⟩
  · cases r with
    | cons r1 r2 =>
      cases r2
      split at p
      · rename_i n r e0
        obtain ⟨a, rfl, hs⟩ := intsAt_ok rh r1 e0
        refine .inr ⟨a, _, rfl, hs, by simp, fun m hm hy => ?_⟩
        have e := minL_ok (n :: r) (by simp)
        have : m = minL (n :: r) := by have := hy _ e.1; have := e.2 _ hm; omega
        rw [this]
        exact Po.ok p rh (.int _)
      · exact p.elim
  · exact p.elim
noncomputable def sumD (ds : List D) (h : AH) : R D := match ds with
  | [d] => match intsAt h d with
    | some ns => .ok (.int ns.sum) h
    | none => .no
  | _ => .no
theorem ca_sum (hK : X.K = L.K) (hc : X.calm = true) : CaS X L W (.builtin "sum") sumD := by
  refine ⟨_, cr_sum hc, fun σ A h H xs ds Q rh r p => ?_⟩
  unfold sumD at p
  rw [hK]
  split at p
  · cases r with
    | cons r1 r2 =>
      cases r2
      split at p
      · rename_i ns e0
        obtain ⟨a, rfl, hs⟩ := intsAt_ok rh r1 e0
        exact ⟨a, ns, rfl, hs, Po.ok p rh (.int _)⟩
      · exact p.elim
  · exact p.elim
/-- str of an int or a text -/
noncomputable def strD (ds : List D) (h : AH) : R D := match ds with
  | [.int i] => if i.natAbs.log2 < 1920 then .ok (.str (toString i)) h else .no
  | _ => .no
theorem ca_str : CaS X L W (.type "str") strD := by
  refine ⟨_, call_str_int, fun σ A h H xs ds Q rh r p => ?_⟩
  unfold strD at p
  split at p
  · cases r with
    | cons r1 r2 =>
      cases r2; cases r1
      split at p
      · exact ⟨_, rfl, by assumption, Po.ok p rh (.str _)⟩
      · exact p.elim
  · exact p.elim
/-- dict(d) -/
noncomputable def dictD (ds : List D) (h : AH) : R D := match ds with
  | [d] => match dctAt h d with
    | some (_, kvs) => .ok (.loc h.length) (h ++ [.dct kvs])
    | none => .no
  | _ => .no
theorem ca_dict : CaS X L W (.type "dict") dictD := by
  refine ⟨_, call_dictD, fun σ A h H xs ds Q rh r p => ?_⟩
  unfold dictD at p
  split at p
  · cases r with
    | cons r1 r2 =>
      cases r2
      split at p
      · rename_i n kvs e0
        obtain ⟨a, ws, _, _, _, rfl, g, rk⟩ := dctAt_ok rh r1 e0
        exact ⟨a, ws, rfl, .inl g, fun q nq => Po.newDct p rh rk nq⟩
      · exact p.elim
  · exact p.elim

/-! ### methods of built-ins -/
noncomputable def MtS (X : Cx) (L : Lk) (W : WX) (T id : String) (g : D → List D → AH → R D) : Prop := ∃ r : V → List V → Hp → VK → Prop, MtR X id r ∧
  ∀ (σ : L2.St) (A : List Addr) (h : AH) (H : Hp) (x : V) (d : D) (xs : List V) (ds : List D) (Q : VK), RH L A h H → RD L A H d x → RDs L A H ds xs → Po L W σ A H (RD L) (g d ds h) Q → r x xs H Q
/-- d is of the built-in type T -/
noncomputable def isTy (T : String) (h : AH) (d : D) : Bool := match d with
  | .str _ => T == "str"
  | .int _ => T == "int"
  | .loc n => match h[n]? with
    | some (.lst _) => T == "list"
    | some (.frz _) => T == "list"
    | some (.dct _) => T == "dict"
    | _ => false
  | _ => false
theorem isTy_ok {T : String} {h : AH} {d : D} {v : V} (rh : RH L A h H) (r : RD L A H d v) (e : isTy T h d = true) : tyV L.K T v H := by
  unfold isTy at e
  split at e
  · cases r; exact beq_iff_eq.mp e
  · cases r; exact beq_iff_eq.mp e
  · cases r with
    | @loc n a ea =>
      split at e
      · rename_i e0
        obtain ⟨vs, g1, r1⟩ := rh.get _ a _ ea e0
        exact .inl ⟨beq_iff_eq.mp e, vs, SqL.of g1⟩
      · rename_i e0
        obtain ⟨vs, g1, r1⟩ := rh.get _ a _ ea e0
        exact .inl ⟨beq_iff_eq.mp e, vs, g1.sq⟩
      · rename_i e0
        obtain ⟨vs, g1, r1⟩ := rh.get _ a _ ea e0
        exact .inr (.inr (.inl ⟨beq_iff_eq.mp e, .inl ⟨vs, g1⟩⟩))
      · cases e
  · cases e
noncomputable def eMt (T : String) (g : D → List D → AH → R D) (o : ED) (a : AD) : ED := fun δ h => (o δ h).bind fun d h1 => if isTy T h1 d = true then (a δ h1).bind fun ds h2 => g d ds h2 else .no
theorem e_mt {T id : String} {g : D → List D → AH → R D} {name : Str} {o e : Expr} {es : List Expr} {apos cpos : Pos} {mo : ED} {ma : AD} (hK : X.K = L.K) (pa : PlainAttrs T) (slot : Slot T name id) (hty : typeOf (.builtin id) = pure (.type "method_descriptor")) (hm : MtS X L W T id g)
    (ho : PE X o (tE L W mo)) (ha : PA X (e :: es) (tAr L W ma)) (hbase : attributeBase o name X.env (eval o X.env) = eval o X.env)
    (hfew : ((backTo cpos (starEach (e :: es) X.env)).all (fun x => !x.1) && (backToKw cpos (keywordEach [] X.env)).all (fun x => x.1.isSome)
      && decide ((e :: es).length + ([] : List Keyword).length + (if ([] : List Keyword).isEmpty then 0 else 1) < 30)) = true)
    (hline : (apos.endLine == cpos.line) = true) (hs : starEach (e :: es) X.env = (false, eval e X.env) :: starEach es X.env) (hplain : (backTo cpos (starEach es X.env)).any (·.1) = false) :
    PE X (.Call (.Attribute o name apos) (e :: es) [] cpos) (tE L W (eMt T g mo ma)) := by
  obtain ⟨rr, hm, hr⟩ := hm
  refine PE.weak (pe_bm pa slot hty hm ho ha hbase hfew hline hs hplain) fun σ H Q ⟨A, δ, h, rs, rh, p⟩ => ?_
  refine ⟨A, δ, h, rs, rh, (Po.bind p).imp fun x H1 ⟨A1, d, h1, l, rh1, q, p1⟩ => ?_⟩
  split at p1
  · rename_i ht
    refine ⟨by rw [hK]; exact isTy_ok rh1 q ht, A1, δ, h1, rs.mono l, rh1, (Po.bind p1).imp fun xs H2 ⟨A2, ds, h2, l2, rh2, q2, p2⟩ => hr σ A2 h2 H2 x d xs ds Q rh2 (RD.mono l2 _ _ q) q2 p2⟩
  · exact p1.elim
theorem e_mt0 {T id : String} {g : D → List D → AH → R D} {name : Str} {o : Expr} {apos cpos : Pos} {mo : ED} (hK : X.K = L.K) (pa : PlainAttrs T) (slot : Slot T name id) (hty : typeOf (.builtin id) = pure (.type "method_descriptor")) (hm : MtS X L W T id g)
    (ho : PE X o (tE L W mo)) (hbase : attributeBase o name X.env (eval o X.env) = eval o X.env) (hline : (apos.endLine == cpos.line) = true) :
    PE X (.Call (.Attribute o name apos) [] [] cpos) (tE L W (eMt T g mo aNil)) := by
  obtain ⟨rr, hm, hr⟩ := hm
  refine PE.weak (pe_bm0 pa slot hty hm ho hbase hline) fun σ H Q ⟨A, δ, h, rs, rh, p⟩ => ?_
  refine ⟨A, δ, h, rs, rh, (Po.bind p).imp fun x H1 ⟨A1, d, h1, l, rh1, q, p1⟩ => ?_⟩
  split at p1
  · rename_i ht
    exact ⟨by rw [hK]; exact isTy_ok rh1 q ht, hr σ A1 h1 H1 x d [] [] Q rh1 q .nil p1⟩
  · exact p1.elim
/-- a list written over -/
theorem Po.putLst {σ : L2.St} {h : AH} {n : Nat} {a : Addr} {ys : List D} {vs ws : List V} {d : D} {v : V} {Q : VK} (rh : RH L A h H) (ea : A[n]? = some a) {zs : List D} (eh : h[n]? = some (.lst zs)) (e0 : H a = some (.lst vs)) (p : Po L W σ A H (RD L) (.ok d (h.set n (.lst ys))) Q) (r : RDs L A H ys ws) (rd : RD L A H d v) : Q v (upd H a (.lst ws)) := by
  have mu : mutH (H a) := by rw [e0]; trivial
  exact p A _ _ (Le.put mu) (rh.put ea eh rfl mu ⟨ws, upd_same, RDs.mono (Le.put mu) _ _ r⟩) (RD.mono (Le.put mu) _ _ rd)
noncomputable def appD (d : D) (ds : List D) (h : AH) : R D := match d, ds with
  | .loc n, [y] => match h[n]? with
    | some (.lst xs) => if xs.length < lim then .ok .non (h.set n (.lst (xs ++ [y]))) else .no
    | _ => .no
  | _, _ => .no
theorem mt_app : MtS X L W "list" "list.append" appD := by
  refine ⟨_, mt_append, fun σ A h H x d xs ds Q rh rd r p => ?_⟩
  unfold appD at p
  split at p
  · rename_i n y
    cases rd with
    | @loc _ a ea =>
      cases r with
      | cons r1 r2 =>
        cases r2
        split at p
        · rename_i zs e0
          obtain ⟨vs, g1, rr⟩ := rh.get _ a _ ea e0
          split at p
          · rename_i hz
            exact ⟨a, vs, _, rfl, rfl, g1, by rw [← rr.length]; exact lim_lt hz, Po.putLst rh ea e0 g1 p (rr.append (.cons r1 .nil)) .non⟩
          · exact p.elim
        · exact p.elim
  · exact p.elim
noncomputable def popD (d : D) (ds : List D) (h : AH) : R D := match d, ds with
  | .loc n, [] => match h[n]? with
    | some (.lst xs) => match xs[xs.length - 1]? with
      | some y => .ok y (h.set n (.lst xs.dropLast))
      | none => .no
    | _ => .no
  | _, _ => .no
theorem RDs.dropLast {ds : List D} {vs : List V} (r : RDs L A H ds vs) : RDs L A H ds.dropLast vs.dropLast := by
  rw [List.dropLast_eq_take, List.dropLast_eq_take, ← r.length]
  exact r.take _
theorem mt_popS : MtS X L W "list" "list.pop" popD := by
  refine ⟨_, mt_pop, fun σ A h H x d xs ds Q rh rd r p => ?_⟩
  unfold popD at p
  split at p
  · rename_i n
    cases rd with
    | @loc _ a ea =>
      cases r
      split at p
      · rename_i zs e0
        obtain ⟨vs, g1, rr⟩ := rh.get _ a _ ea e0
        split at p
        · rename_i y ey
          obtain ⟨v, ev, rv⟩ := rr.get ey
          exact ⟨a, vs, v, rfl, rfl, g1, by rw [← rr.length]; exact ev, Po.putLst rh ea e0 g1 p rr.dropLast rv⟩
        · exact p.elim
      · exact p.elim
  · exact p.elim
noncomputable def extD (d : D) (ds : List D) (h : AH) : R D := match d, ds with
  | .loc n, [.loc m] => match h[n]?, h[m]? with
    | some (.lst xs), some (.lst ys) => if xs.length + ys.length ≤ lim then .ok .non (h.set n (.lst (xs ++ ys))) else .no
    | _, _ => .no
  | _, _ => .no
theorem mt_extS : MtS X L W "list" "list.extend" extD := by
  refine ⟨_, mt_extend, fun σ A h H x d xs ds Q rh rd r p => ?_⟩
  unfold extD at p
  split at p
  · rename_i n m
    cases rd with
    | @loc _ a ea =>
      cases r with
      | cons r1 r2 =>
        cases r2
        cases r1 with
        | @loc _ b eb =>
          split at p
          · rename_i zs ys e0 e1
            obtain ⟨vs, g1, rr⟩ := rh.get _ a _ ea e0
            obtain ⟨ws, g2, rq⟩ := rh.get _ b _ eb e1
            split at p
            · rename_i hz
              exact ⟨a, b, vs, ws, rfl, rfl, g1, g2, by rw [← rr.length, ← rq.length]; exact lim_ok hz, Po.putLst rh ea e0 g1 p (rr.append rq) .non⟩
            · exact p.elim
          · exact p.elim
  · exact p.elim
/-! ### methods of dicts -/
noncomputable def dgetD (d : D) (ds : List D) (h : AH) : R D := match dctAt h d with
  | some (_, kvs) => match ds with
    | [y] => match keyOf y with
      | some k => .ok ((valD kvs k).getD .non) h
      | none => .no
    | [y, z] => match keyOf y with
      | some k => .ok ((valD kvs k).getD z) h
      | none => .no
    | _ => .no
  | none => .no
theorem mt_dgetS (hu : X.A.units + 1 < cLine) : MtS X L W "dict" "dict.get" dgetD := by
  refine ⟨fun x xs H Q => (∃ a y o, x = .ref a ∧ xs = [y] ∧ DGet H a y o ∧ Q (o.getD .non) H) ∨ ∃ a y z o, x = .ref a ∧ xs = [y, z] ∧ DGet H a y o ∧ Q (o.getD z) H, fun pins s σ H x xs v us Q I rx rs h => ?_, fun σ A h H x d xs ds Q rh rd r p => ?_⟩
  · rcases h with h | h
    · exact mt_dget1 hu pins s σ H x xs v us Q I rx rs h
    · exact mt_dget2 hu pins s σ H x xs v us Q I rx rs h
  · unfold dgetD at p
    split at p
    · rename_i n kvs e0
      obtain ⟨a, ws, _, _, _, rfl, g, rk⟩ := dctAt_ok rh rd e0
      split at p
      · cases r with
        | cons r1 r2 =>
          cases r2
          split at p
          · rename_i k ek
            have ex := keyOf_ok r1 ek
            subst ex
            refine .inl ⟨a, _, _, rfl, rfl, DGet.k g, ?_⟩
            cases ev : valD kvs k with
            | none => rw [rk.val.2 ev]; rw [ev] at p; exact Po.ok p rh .non
            | some d' => obtain ⟨v', e3, r'⟩ := rk.val.1 d' ev; rw [e3]; rw [ev] at p; exact Po.ok p rh r'
          · exact p.elim
      · cases r with
        | cons r1 r2 =>
          cases r2 with
          | cons r2 r3 =>
            cases r3
            split at p
            · rename_i k ek
              have ex := keyOf_ok r1 ek
              subst ex
              refine .inr ⟨a, _, _, _, rfl, rfl, DGet.k g, ?_⟩
              cases ev : valD kvs k with
              | none => rw [rk.val.2 ev]; rw [ev] at p; exact Po.ok p rh r2
              | some d' => obtain ⟨v', e3, r'⟩ := rk.val.1 d' ev; rw [e3]; rw [ev] at p; exact Po.ok p rh r'
            · exact p.elim
      · exact p.elim
    · exact p.elim
/-- d.setdefault(k, v) -/
noncomputable def dsetD (d : D) (ds : List D) (h : AH) : R D := match dctAt h d with
  | some (n, kvs) => match ds with
    | [y, z] => match keyOf y with
      | some k => if kvs.length < lim then (match valD kvs k with
        | some v => .ok v h
        | none => .ok z (h.set n (.dct (putD kvs k z)))) else .no
      | none => .no
    | _ => .no
  | none => .no
theorem mt_dset0 : MtR X "dict.setdefault" (fun x xs H Q => ∃ a kvs k z, x = .ref a ∧ xs = [kV k, z] ∧ H a = some (.dK kvs) ∧ kvs.length < sizeLine ∧ (∀ v, valV kvs k = some v → Q v H) ∧ (valV kvs k = none → Q z (upd H a (.dK (putK kvs k z))))) := by
  intro pins s σ H x xs v us Q I rx rs h
  obtain ⟨a, kvs, k, z, rfl, rfl, g, hl, q1, q2⟩ := h
  obtain rfl : v = Value.ref a := rx
  cases rs with
  | cons r1 r2 =>
    cases r2 with
    | cons r2 r3 =>
      cases r3
      exact d_setd I g r1 r2 hl (fun v hv w' s4 I4 rw' => ⟨v, _, I4, rw', q1 v hv⟩) fun hn w' s4 I4 rw' => ⟨z, _, I4, rw', q2 hn⟩
theorem mt_dsetS : MtS X L W "dict" "dict.setdefault" dsetD := by
  refine ⟨_, mt_dset0, fun σ A h H x d xs ds Q rh rd r p => ?_⟩
  unfold dsetD at p
  split at p
  · rename_i n kvs e0
    obtain ⟨a, ws, rfl, e1, ea, rfl, g, rk⟩ := dctAt_ok rh rd e0
    split at p
    · cases r with
      | cons r1 r2 =>
        cases r2 with
        | cons r2 r3 =>
          cases r3
          split at p
          · rename_i k ek
            have ex := keyOf_ok r1 ek
            subst ex
            split at p
            · rename_i hz
              have hz' : ws.length < sizeLine := by rw [← rk.length]; exact lim_lt hz
              split at p
              · rename_i v ev
                obtain ⟨v', e3, r'⟩ := rk.val.1 v ev
                refine ⟨a, ws, k, _, rfl, rfl, g, hz', fun u hu => ?_, fun hu => ?_⟩
                · rw [e3] at hu; cases hu; exact Po.ok p rh r'
                · rw [e3] at hu; cases hu
              · rename_i en
                have mu : mutH (H a) := by rw [g]; trivial
                refine ⟨a, ws, k, _, rfl, rfl, g, hz', fun u hu => ?_, fun hu => ?_⟩
                · rw [rk.val.2 en] at hu; cases hu
                · exact p A _ _ (Le.put mu) (rh.put ea e1 rfl mu ⟨_, upd_same, RKs.mono (Le.put mu) (rk.put r2)⟩) (RD.mono (Le.put mu) _ _ r2)
            · exact p.elim
          · exact p.elim
    · exact p.elim
  · exact p.elim
/-! ### displays of dicts -/
noncomputable def prs : List (ED × ED) → Sl → AH → R (List (D × D))
  | [], _, h => .ok [] h
  | (a, b) :: r, δ, h => (a δ h).bind fun x h1 => (b δ h1).bind fun y h2 => (prs r δ h2).bind fun l h3 => .ok ((x, y) :: l) h3
inductive RPs (L : Lk) (A : List Addr) (H : Hp) : List (D × D) → List (V × V) → Prop
  | nil : RPs L A H [] []
  | cons {d e : D} {v w : V} {ds : List (D × D)} {vs : List (V × V)} : RD L A H d v → RD L A H e w → RPs L A H ds vs → RPs L A H ((d, e) :: ds) ((v, w) :: vs)
theorem pairs_of : ∀ (ps : List (ED × ED)) (σ : L2.St) (A : List Addr) (H : Hp) (δ : Sl) (h : AH) (Q : List (V × V) → Hp → Prop), RS L A H δ σ → RH L A h H → Po L W σ A H (RPs L) (prs ps δ h) Q → tPairs (ps.map fun p => (tE L W p.1, tE L W p.2)) σ H Q
  | [], σ, A, H, δ, h, Q, rs, rh, p => Po.ok p rh .nil
  | (a, b) :: r, σ, A, H, δ, h, Q, rs, rh, p => by
    refine ⟨A, δ, h, rs, rh, (Po.bind p).imp fun x H1 ⟨A1, d, h1, l, rh1, q, p1⟩ => ⟨A1, δ, h1, rs.mono l, rh1, (Po.bind p1).imp fun y H2 ⟨A2, e, h2, l2, rh2, q2, p2⟩ => ?_⟩⟩
    refine pairs_of r σ A2 H2 δ h2 _ (rs.mono (l.trans l2)) rh2 ((Po.bind p2).imp fun vs H3 ⟨A3, ds, h3, l3, rh3, q3, p3⟩ => ?_)
    exact Po.ok p3 rh3 (.cons (RD.mono (l2.trans l3) _ _ q) (RD.mono l3 _ _ q2) q3)
noncomputable def keysO : List (D × D) → Option (List (Key × D))
  | [] => some []
  | (k, v) :: r => match keyOf k, keysO r with
    | some k', some l => some ((k', v) :: l)
    | _, _ => none
theorem keysO_ok {A : List Addr} {H : Hp} : ∀ {ds : List (D × D)} {vs : List (V × V)} {l : List (Key × D)}, RPs L A H ds vs → keysO ds = some l → ∃ kvs : List (Key × V), vs = kvs.map (fun kv => (kV kv.1, kv.2)) ∧ RKs L A H l kvs
  | _, _, _, .nil, e => by cases e; exact ⟨[], rfl, .nil⟩
  | _, _, _, .cons p1 p2 q, e => by
    unfold keysO at e
    split at e
    · rename_i k' l' e1 e2
      cases e
      obtain ⟨kvs, rfl, rk⟩ := keysO_ok q e2
      have := keyOf_ok p1 e1
      subst this
      exact ⟨(k', _) :: kvs, rfl, .cons p2 rk⟩
    · cases e
noncomputable def mergeD (kvs more : List (Key × D)) : List (Key × D) := more.foldl (fun acc kv => putD acc kv.1 kv.2) kvs
theorem RKs.merge {A : List Addr} {H : Hp} : ∀ {ms : List (Key × D)} {ns : List (Key × V)}, RKs L A H ms ns → ∀ {ks : List (Key × D)} {ws : List (Key × V)}, RKs L A H ks ws → RKs L A H (mergeD ks ms) (mergeK ws ns)
  | _, _, .nil, _, _, q => q
  | _, _, .cons p r, _, _, q => RKs.merge r (q.put p)
noncomputable def eDisp (ps : List (ED × ED)) : ED := fun δ h => (prs ps δ (h ++ [.dct []])).bind fun kvs h2 => match h2[h.length]? with
  | some (.dct []) => match keysO kvs with
    | some l => if l.length ≤ 15 then .ok (.loc h.length) (h2.set h.length (.dct (mergeD [] l))) else .no
    | none => .no
  | _ => .no
theorem e_disp {pos : Pos} {keys : List (Option Expr)} {values : List Expr} {ps : List (ED × ED)} (hp : PPs X pos keys values (ps.map fun p => (tE L W p.1, tE L W p.2))) (hall : keys.all (·.isSome) = true) (hl : keys.length = values.length) (h0 : keys ≠ []) (h15 : keys.length ≤ 15) :
    PE X (.Dict keys values pos) (tE L W (eDisp ps)) := by
  refine PE.weak (pe_disp hp hall hl h0 h15) fun σ H Q ⟨A, δ, h, rs, rh, p⟩ => fun a na => ?_
  have rhD : RH L (A ++ [a]) (h ++ [.dct []]) (upd H a (.dK [])) := rh.newO na ⟨[], upd_same, .nil⟩
  have lD : Le A H (A ++ [a]) (upd H a (.dK [])) := Le.newA na
  refine pairs_of ps σ (A ++ [a]) _ δ _ _ (rs.mono lD) rhD ((Po.bind (Po.le lD p)).imp fun vs H2 ⟨A2, ds, h2, l2, rh2, q2, p2⟩ => ?_)
  have eD : A2[h.length]? = some a := l2.at (by rw [← rh.len]; simp)
  split at p2
  · rename_i e2
    obtain ⟨ws, g2, r2⟩ := rh2.get _ _ _ eD e2
    cases r2
    refine ⟨g2, ?_⟩
    split at p2
    · rename_i l el
      obtain ⟨kvs, rfl, rk⟩ := keysO_ok q2 el
      split at p2
      · rename_i hz
        have mu : mutH (H2 a) := by rw [g2]; trivial
        refine ⟨kvs, rfl, by rw [← rk.length]; exact hz, p2 A2 _ _ (Le.put mu) (rh2.put eD e2 rfl mu ⟨_, upd_same, RKs.mono (Le.put mu) (rk.merge .nil)⟩) (.loc eD)⟩
      · exact p2.elim
    · exact p2.elim
  · exact p2.elim
end
end Cod

namespace Cod
open PySem L2

/-! ### statements -/
inductive RT where
  | nx (δ : Sl) (h : AH)
  | rt (d : D) (h : AH)
  | bk (δ : Sl) (h : AH)
  | ct (δ : Sl) (h : AH)
  | ex (c : Nat) (fs : List (Str × D)) (δ : Sl) (h : AH)
  | no
noncomputable abbrev SD := Sl → AH → RT
noncomputable def PoS (L : Lk) (W : WX) (A : List Addr) (H : Hp) (r : RT) (E : Ends) : Prop :=
  match r with
  | .nx δ' h' => ∀ A' σ' H', Le A H A' H' → RS L A' H' δ' σ' → RH L A' h' H' → E.nx σ' H'
  | .rt d h' => ∀ A' v H', Le A H A' H' → RH L A' h' H' → RD L A' H' d v → E.rt v H'
  | .bk δ' h' => ∀ A' σ' H', Le A H A' H' → RS L A' H' δ' σ' → RH L A' h' H' → E.bk σ' H'
  | .ct δ' h' => ∀ A' σ' H', Le A H A' H' → RS L A' H' δ' σ' → RH L A' h' H' → E.ct σ' H'
  | .ex c fs δ' h' => ∀ A' σ' dd H', Le A H A' H' → RS L A' H' δ' σ' → RH L A' h' H' → RX L A' H' fs dd ∧ NwX H dd → W (.ref (L.cA c)) dd σ' H'
  | .no => False
noncomputable def tS (L : Lk) (W : WX) (m : SD) : TS := fun E σ H => ∃ A δ h, RS L A H δ σ ∧ RH L A h H ∧ PoS L W A H (m δ h) E
noncomputable def R.thn {α : Type} (r : R α) (δ : Sl) (f : α → AH → RT) : RT := match r with
  | .ok a h => f a h
  | .ex c fs h => .ex c fs δ h
  | .no => .no
noncomputable def RT.thn (r : RT) (f : Sl → AH → RT) : RT := match r with
  | .nx δ h => f δ h
  | r => r
section
variable {L : Lk} {W : WX} {σ : L2.St} {A A1 : List Addr} {H H1 : Hp}
theorem PoS.le {r : RT} {E : Ends} (l : Le A H A1 H1) (p : PoS L W A H r E) : PoS L W A1 H1 r E := by
  cases r with
  | nx δ h => exact fun A' b H' l' => p A' b H' (l.trans l')
  | rt d h => exact fun A' b H' l' => p A' b H' (l.trans l')
  | bk δ h => exact fun A' b H' l' => p A' b H' (l.trans l')
  | ct δ h => exact fun A' b H' l' => p A' b H' (l.trans l')
  | ex c fs δ h => exact fun A' b dd H' l' rs rh rx => p A' b dd H' (l.trans l') rs rh ⟨rx.1, rx.2.le l⟩
  | no => exact p
theorem PoS.thn {α β : Type} {rel : List Addr → Hp → α → β → Prop} {r : R α} {δ : Sl} {f : α → AH → RT} {E : Ends} (rs : RS L A H δ σ) (p : PoS L W A H (r.thn δ f) E) :
    Po L W σ A H rel r (fun b H1 => ∃ A1 a h1, Le A H A1 H1 ∧ RH L A1 h1 H1 ∧ rel A1 H1 a b ∧ PoS L W A1 H1 (f a h1) E) := by
  cases r with
  | ok a h => exact fun A' b H' l r q => ⟨A', a, h, l, r, q, PoS.le l p⟩
  | ex c fs h => exact fun A' dd H' l r q => p A' σ dd H' l (rs.mono l) r q
  | no => exact p
theorem PoS.seq {r : RT} {f : Sl → AH → RT} {E : Ends} (p : PoS L W A H (r.thn f) E) :
    PoS L W A H r { E with nx := fun σ1 H1 => ∃ A1 δ1 h1, Le A H A1 H1 ∧ RS L A1 H1 δ1 σ1 ∧ RH L A1 h1 H1 ∧ PoS L W A1 H1 (f δ1 h1) E } := by
  cases r with
  | nx δ h => exact fun A' σ' H' l rs rh => ⟨A', δ, h, l, rs, rh, PoS.le l p⟩
  | rt d h => exact p
  | bk δ h => exact p
  | ct δ h => exact p
  | ex c fs δ h => exact p
  | no => exact p
theorem PoS.imp {r : RT} {E E' : Ends} (p : PoS L W A H r E) (h1 : ∀ σ H, E.nx σ H → E'.nx σ H) (h2 : ∀ v H, E.rt v H → E'.rt v H) (h3 : ∀ σ H, E.bk σ H → E'.bk σ H) (h4 : ∀ σ H, E.ct σ H → E'.ct σ H) : PoS L W A H r E' := by
  cases r with
  | nx δ h => exact fun A' σ' H' l rs rh => h1 _ _ (p A' σ' H' l rs rh)
  | rt d h => exact fun A' σ' H' l rs rh => h2 _ _ (p A' σ' H' l rs rh)
  | bk δ h => exact fun A' σ' H' l rs rh => h3 _ _ (p A' σ' H' l rs rh)
  | ct δ h => exact fun A' σ' H' l rs rh => h4 _ _ (p A' σ' H' l rs rh)
  | ex c fs δ h => exact p
  | no => exact p
theorem PoS.nxt {δ : Sl} {h : AH} {E : Ends} (p : PoS L W A H (.nx δ h) E) (rs : RS L A H δ σ) (rh : RH L A h H) : E.nx σ H := p A σ H (Le.refl _ _) rs rh
end
noncomputable def sNext : SD := fun δ h => .nx δ h
noncomputable def sSeq (m n : SD) : SD := fun δ h => (m δ h).thn n
noncomputable def sBreak : SD := fun δ h => .bk δ h
noncomputable def sCont : SD := fun δ h => .ct δ h
noncomputable def sExpr (m : ED) : SD := fun δ h => (m δ h).thn δ fun _ h1 => .nx δ h1
noncomputable def sRet (m : ED) : SD := fun δ h => (m δ h).thn δ fun d h1 => .rt d h1
noncomputable def sRetN : SD := fun δ h => .rt .non h
noncomputable def sIf (c : BD) (m n : SD) : SD := fun δ h => (c δ h).thn δ fun b h1 => if b = true then m δ h1 else n δ h1
section
variable {X : Cx} {L : Lk} {W : WX} {pos : Pos} {st : Stmt} {rest : List Stmt} {m n : SD} {e : Expr} {me : ED}
theorem PS.none : PS X st (tS L W fun _ _ => .no) := ⟨fun _ _ _ _ _ _ ⟨_, _, _, _, _, z⟩ => False.elim z⟩
theorem PSs.none {sts : List Stmt} : PSs X sts (tS L W fun _ _ => .no) := ⟨fun _ _ _ _ _ _ ⟨_, _, _, _, _, z⟩ => False.elim z⟩
theorem s_nil : PSs X [] (tS L W sNext) := PSs.weak pss_nil fun E σ H ⟨A, δ, h, rs, rh, p⟩ => PoS.nxt p rs rh
theorem s_cons (h1 : PS X st (tS L W m)) (h2 : PSs X rest (tS L W n)) : PSs X (st :: rest) (tS L W (sSeq m n)) := by
  refine PSs.weak (pss_cons h1 h2) fun E σ H ⟨A, δ, h, rs, rh, p⟩ => ?_
  exact ⟨A, δ, h, rs, rh, (PoS.seq p).imp (fun σ1 H1 ⟨A1, δ1, h1, l, rs1, rh1, p1⟩ => ⟨A1, δ1, h1, rs1, rh1, p1⟩) (fun _ _ h => h) (fun _ _ h => h) fun _ _ h => h⟩
theorem s_one (h1 : PS X st (tS L W m)) : PSs X [st] (tS L W m) := pss_one h1
theorem s_pass : PS X (.Pass pos) (tS L W sNext) := PS.weak ps_pass fun E σ H ⟨A, δ, h, rs, rh, p⟩ => PoS.nxt p rs rh
theorem s_break : PS X (.Break pos) (tS L W sBreak) := PS.weak ps_break fun E σ H ⟨A, δ, h, rs, rh, p⟩ => p A σ H (Le.refl _ _) rs rh
theorem s_cont : PS X (.Continue pos) (tS L W sCont) := PS.weak ps_continue fun E σ H ⟨A, δ, h, rs, rh, p⟩ => p A σ H (Le.refl _ _) rs rh
theorem s_expr (he : PE X e (tE L W me)) (hs : swapsWith e none pos.line X.env = pure false) : PS X (.Expr e pos) (tS L W (sExpr me)) := by
  refine PS.weak (ps_expr he hs) fun E σ H ⟨A, δ, h, rs, rh, p⟩ => ⟨A, δ, h, rs, rh, (PoS.thn rs p).imp fun v H1 ⟨A1, d, h1, l, rh1, q, p1⟩ => PoS.nxt p1 (rs.mono l) rh1⟩
theorem s_ret (he : PE X e (tE L W me)) : PS X (.Return (some e) pos) (tS L W (sRet me)) := by
  refine PS.weak (ps_ret he) fun E σ H ⟨A, δ, h, rs, rh, p⟩ => ⟨A, δ, h, rs, rh, (PoS.thn rs p).imp fun v H1 ⟨A1, d, h1, l, rh1, q, p1⟩ => p1 A1 v H1 (Le.refl _ _) rh1 q⟩
theorem s_retN : PS X (.Return none pos) (tS L W sRetN) := PS.weak ps_retN fun E σ H ⟨A, δ, h, rs, rh, p⟩ => p A _ H (Le.refl _ _) rh .non
theorem s_if {c : Expr} {a b : List Stmt} {mc : BD} (hc : PT X c (tBo L W mc)) (ha : PSs X a (tS L W m)) (hb : PSs X b (tS L W n)) : PS X (.If c a b pos) (tS L W (sIf mc m n)) := by
  refine PS.weak (ps_if hc ha hb) fun E σ H ⟨A, δ, h, rs, rh, p⟩ => ⟨A, δ, h, rs, rh, (PoS.thn rs p).imp fun v H1 ⟨A1, d, h1, l, rh1, q, p1⟩ => ?_⟩
  cases q
  cases v with
  | true => exact ⟨A1, δ, h1, rs.mono l, rh1, p1⟩
  | false => exact ⟨A1, δ, h1, rs.mono l, rh1, p1⟩

/-! ### targets -/
inductive Tg where
  | nm (i : Nat)
  | tp (ts : List Tg)
mutual
noncomputable def asgT : Tg → D → Sl → Option Sl
  | .nm i, d, δ => some (δ.set i (some d))
  | .tp ts, .tup xs, δ => asgTs ts xs δ
  | .tp _, _, _ => none
noncomputable def asgTs : List Tg → List D → Sl → Option Sl
  | [], [], δ => some δ
  | t :: ts, d :: ds, δ => match asgT t d δ with
    | some δ' => asgTs ts ds δ'
    | none => none
  | _, _, _ => none
end
mutual
noncomputable def tgS : Tg → List Nat
  | .nm i => [i]
  | .tp ts => tgSs ts
noncomputable def tgSs : List Tg → List Nat
  | [] => []
  | t :: ts => tgS t ++ tgSs ts
end
theorem wipe_get (σ : L2.St) : ∀ (vs : List Nat) (j : Nat), (L2.wipe σ vs)[j]? = if j ∈ vs ∧ j < σ.length then some none else σ[j]?
  | [], j => by simp [L2.wipe]
  | v :: vs, j => by
    unfold L2.wipe
    by_cases hv : v = j
    · subst hv
      by_cases hl : v < σ.length
      · rw [List.getElem?_set_self (by rw [L2.wipe_length]; exact hl)]; simp [hl]
      · rw [List.getElem?_eq_none (by rw [List.length_set, L2.wipe_length]; omega), if_neg (by simp [hl]), List.getElem?_eq_none (by omega)]
    · rw [List.getElem?_set_ne hv, wipe_get σ vs j]
      have : (j ∈ v :: vs) ↔ j ∈ vs := by simp [Ne.symm hv]
      simp [this]
theorem wipe_set {σ : L2.St} {i : Nat} {x : Option V} {vs : List Nat} (h : i ∈ vs) : L2.wipe (σ.set i x) vs = L2.wipe σ vs := by
  apply List.ext_getElem?
  intro j
  rw [wipe_get, wipe_get, List.length_set]
  by_cases hj : j ∈ vs ∧ j < σ.length
  · rw [if_pos hj, if_pos hj]
  · rw [if_neg hj, if_neg hj]
    by_cases hij : i = j
    · subst hij
      have hl : ¬ i < σ.length := fun z => hj ⟨h, z⟩
      rw [List.getElem?_eq_none (by rw [List.length_set]; omega), List.getElem?_eq_none (by omega)]
    · rw [List.getElem?_set_ne hij]
theorem wipe_wipe (σ : L2.St) (vs : List Nat) : L2.wipe (L2.wipe σ vs) vs = L2.wipe σ vs := by
  apply List.ext_getElem?
  intro j
  rw [wipe_get, wipe_get, L2.wipe_length]
  by_cases hj : j ∈ vs ∧ j < σ.length
  · rw [if_pos hj, if_pos hj]
  · rw [if_neg hj, if_neg hj]
noncomputable def tG (L : Lk) (tg : Tg) : TG := fun v σ H Q => ∃ A δ h d, RS L A H δ σ ∧ RH L A h H ∧ RD L A H d v ∧ match asgT tg d δ with
  | some δ' => ∀ σ', RS L A H δ' σ' → (∀ vs, (∀ i ∈ tgS tg, i ∈ vs) → L2.wipe σ' vs = L2.wipe σ vs) → Q σ' H
  | none => False
noncomputable def tGs (L : Lk) (ts : List Tg) : TGs := fun us σ H Q => ∃ A δ h ds, RS L A H δ σ ∧ RH L A h H ∧ RDs L A H ds us ∧ match asgTs ts ds δ with
  | some δ' => ∀ σ', RS L A H δ' σ' → (∀ vs, (∀ i ∈ tgSs ts, i ∈ vs) → L2.wipe σ' vs = L2.wipe σ vs) → Q σ' H
  | none => False
theorem PG.weak {e : Expr} {t t' : TG} (h : PG X e t) (w : ∀ v σ H Q, t' v σ H Q → t v σ H Q) : PG X e t' := ⟨fun pins s σ H v u Q I r q => h.run pins s σ H v u Q I r (w v σ H Q q)⟩
theorem PGs.weak {e : List Expr} {t t' : TGs} (h : PGs X e t) (w : ∀ v σ H Q, t' v σ H Q → t v σ H Q) : PGs X e t' := ⟨fun pins s σ H v u Q I r q => h.run pins s σ H v u Q I r (w v σ H Q q)⟩
theorem g_name {i : Nat} {x : Str} (hN : X.N.Nodup) (hi : X.N[i]? = some x) (hx : Loc X.env.scope x) (hf : X.fn x = true ∨ X.env.scope.names.lookup x = some .local) : PG X (.Name x pos) (tG L (.nm i)) := by
  refine PG.weak (pg_name hN hi hx hf) fun v σ H Q ⟨A, δ, h, d, rs, rh, q, p⟩ => ?_
  exact p _ (rs.set q) fun vs hv => wipe_set (hv i (by simp [tgS]))
theorem gs_nil : PGs X [] (tGs L []) := by
  refine PGs.weak pgs_nil fun v σ H Q ⟨A, δ, h, ds, rs, rh, q, p⟩ => ?_
  cases q with
  | nil => exact ⟨rfl, p σ rs fun _ _ => rfl⟩
  | cons _ _ => exact p.elim
theorem gs_cons {e : Expr} {es : List Expr} {t : Tg} {ts : List Tg} (h1 : PG X e (tG L t)) (h2 : PGs X es (tGs L ts)) (hs : (assignEach (e :: es) X.env).map (·.2) = assign e X.env :: (assignEach es X.env).map (·.2)) : PGs X (e :: es) (tGs L (t :: ts)) := by
  refine PGs.weak (pgs_cons h1 h2 hs) fun v σ H Q ⟨A, δ, h, ds, rs, rh, q, p⟩ => ?_
  cases q with
  | nil => exact p.elim
  | @cons d v ds vs r1 r2 =>
    refine ⟨v, vs, rfl, A, δ, h, d, rs, rh, r1, ?_⟩
    simp only [asgTs] at p
    cases e1 : asgT t d δ with
    | none => rw [e1] at p; exact p
    | some δ1 =>
      simp only [e1] at p
      intro σ1 rs1 w1
      refine ⟨A, δ1, h, ds, rs1, rh, r2, ?_⟩
      cases e2 : asgTs ts ds δ1 with
      | none => rw [e2] at p; exact p
      | some δ2 =>
        simp only [e2] at p
        intro σ2 rs2 w2
        refine p σ2 rs2 fun us hu => ?_
        rw [w2 us fun i hi => hu i (by simp [tgSs, hi]), w1 us fun i hi => hu i (by simp [tgSs, hi])]
theorem g_tup {es : List Expr} {k : Nat} {ts : List Tg} (hK : X.K = L.K) (hc : X.calm = true) (h : PGs X es (tGs L ts)) (hn : (assignEach es X.env).length = ts.length) (hst : (assignEach es X.env).findIdx? (·.1) = none) : PG X (.Tuple es k pos) (tG L (.tp ts)) := by
  refine PG.weak (pg_tup hc h hn hst) fun v σ H Q ⟨A, δ, h, d, rs, rh, q, p⟩ => ?_
  cases q with
  | @tup a xs vs hs hr =>
    have hl : xs.length = ts.length := by
      simp only [asgT] at p
      have : ∀ (ts : List Tg) (xs : List D) (δ : Sl), (asgTs ts xs δ).isSome = true → xs.length = ts.length := by
        intro ts
        induction ts with
        | nil => intro xs δ hh; cases xs with
          | nil => rfl
          | cons _ _ => simp [asgTs] at hh
        | cons t ts ih => intro xs δ hh; cases xs with
          | nil => simp [asgTs] at hh
          | cons x xs =>
            simp only [asgTs] at hh
            cases e : asgT t x δ with
            | none => simp [e] at hh
            | some δ' => simp only [e] at hh; simp [ih xs δ' hh]
      refine this ts xs δ ?_
      cases e : asgTs ts xs δ with
      | none => rw [e] at p; exact p.elim
      | some _ => rfl
    exact ⟨a, vs, rfl, by rw [hK]; exact hs, by rw [← hr.length]; exact hl, A, δ, h, xs, rs, rh, hr, p⟩
  | non => exact p.elim
  | bl _ => exact p.elim
  | int _ => exact p.elim
  | str _ => exact p.elim
  | ty _ => exact p.elim
  | fn _ => exact p.elim
  | cl _ => exact p.elim
  | loc _ => exact p.elim
  | kd _ _ => exact p.elim
noncomputable def sAsg (m : ED) (tg : Tg) : SD := fun δ h => (m δ h).thn δ fun d h1 => match asgT tg d δ with
  | some δ' => .nx δ' h1
  | none => .no
theorem asg_of {g : TG} {E : Ends} {σ : L2.St} {H : Hp} {tg : Tg} {me : ED} : tS L W (sAsg me tg) E σ H → tAsg (tE L W me) (tG L tg) E σ H := by
  rintro ⟨A, δ, h, rs, rh, p⟩
  refine ⟨A, δ, h, rs, rh, (PoS.thn rs p).imp fun v H1 ⟨A1, d, h1, l, rh1, q, p1⟩ => ⟨A1, δ, h1, d, rs.mono l, rh1, q, ?_⟩⟩
  cases e : asgT tg d δ with
  | none => rw [e] at p1; exact p1
  | some δ' =>
    rw [e] at p1
    exact fun σ' rs' _ => PoS.nxt p1 rs' rh1
theorem s_asg {te : Expr} {tg : Tg} (he : PE X e (tE L W me)) (hg : PG X te (tG L tg)) (hs : swapsWithSole [te] e pos.line X.env = pure false) (hw : swappedStores [te] e X.env = pure none) (h1 : (assignEach [te] X.env).map (·.2) = [assign te X.env]) :
    PS X (.Assign [te] e pos) (tS L W (sAsg me tg)) := PS.weak (ps_asg he hg hs hw h1) fun E σ H p => asg_of (g := tG L tg) p
/-- a, b = x, y -/
noncomputable def sPar (ts : List Tg) (a : AD) : SD := fun δ h => (a δ h).thn δ fun ds h1 => match asgTs ts ds δ with
  | some δ' => .nx δ' h1
  | none => .no
/-- x op= e -/
noncomputable def sAug (i : Nat) (g : D → D → AH → R D) (m : ED) : SD := fun δ h => match δ[i]? with
  | some (some x) => (m δ h).thn δ fun y h1 => (g x y h1).thn δ fun z h2 => .nx (δ.set i (some z)) h2
  | _ => .no
theorem s_aug {i : Nat} {x : Str} {op : Operator} {g : D → D → AH → R D} {pos' : Pos} (o : OpS X L W (inplaceOp op) g) (hN : X.N.Nodup) (hi : X.N[i]? = some x) (hx : Loc X.env.scope x) (he : PE X e (tE L W me)) (hf : X.fn x = true ∨ X.env.scope.names.lookup x = some .local) :
    PS X (.AugAssign (.Name x pos') op e pos) (tS L W (sAug i g me)) := by
  obtain ⟨r, ho, hr⟩ := o
  refine PS.weak (ps_aug hN hi hx he (ti := fun x y H Q => r x y H Q) (fun pins s σ H x y v u Q I r1 r2 h => ho pins s σ H x y v u Q I r1 r2 h) hf) fun E σ H ⟨A, δ, h, rs, rh, p⟩ => ?_
  unfold sAug at p
  split at p
  · rename_i d ed
    obtain ⟨v, ev, rv⟩ := rs.get i d ed
    refine ⟨v, ev, A, δ, h, rs, rh, (PoS.thn rs p).imp fun y H1 ⟨A1, e, h1, l, rh1, q, p1⟩ => ?_⟩
    refine hr σ A1 h1 H1 v y d e _ rh1 (RD.mono l _ _ rv) q ((PoS.thn (rs.mono l) p1).imp fun z H2 ⟨A2, f, h2, l2, rh2, q2, p2⟩ => ?_)
    exact PoS.nxt p2 ((rs.mono (l.trans l2)).set q2) rh2
  · exact p.elim
/-- o[i] = v -/
noncomputable def sSub (set : D → D → D → AH → Option AH) (mo mi mv : ED) : SD := fun δ h => (mv δ h).thn δ fun v h1 => (mo δ h1).thn δ fun o h2 => (mi δ h2).thn δ fun i h3 => match set o i v h3 with
  | some h4 => .nx δ h4
  | none => .no
noncomputable def setL (o i v : D) (h : AH) : Option AH := match o with
  | .loc n => match h[n]? with
    | some (.lst xs) => match i with
      | .int k => match ixN xs.length k with
        | some j => some (h.set n (.lst (xs.set j v)))
        | none => none
      | _ => none
    | some (.dct kvs) => match keyOf i with
      | some k => if kvs.length < lim then some (h.set n (.dct (putD kvs k v))) else none
      | none => none
    | _ => none
  | _ => none
noncomputable def SetS (X : Cx) (L : Lk) (set : D → D → D → AH → Option AH) : Prop := ∃ t : TSet, PSet X t ∧
  ∀ (A : List Addr) (h h' : AH) (H : Hp) (x y z : V) (o i v : D) (Q : Hp → Prop), RH L A h H → RD L A H o x → RD L A H i y → RD L A H v z → set o i v h = some h' → (∀ H', Le A H A H' → RH L A h' H' → Q H') → t x y z H Q
theorem set_L (hu : X.A.units + 1 < cLine) : SetS X L setL := by
  refine ⟨fun x y z H Q => (∃ l xs i k, x = .ref l ∧ y = .int i ∧ H l = some (.lst xs) ∧ ixN xs.length i = some k ∧ Q (upd H l (.lst (xs.set k z)))) ∨ rSetD x y z H Q, fun pins s σ H o i v ov iv u Q I ro ri rv h => ?_, fun A h h' H x y z o i v Q rh ro ri rv e q => ?_⟩
  · rcases h with h | h
    · exact set_list pins s σ H o i v ov iv u Q I ro ri rv h
    · exact set_dict hu pins s σ H o i v ov iv u Q I ro ri rv h
  unfold setL at e
  split at e
  · rename_i n
    cases ro with
    | @loc _ a ea =>
      split at e
      · rename_i xs e0
        obtain ⟨vs, g1, r1⟩ := rh.get _ a _ ea e0
        split at e
        · cases ri
          split at e
          · rename_i j ej
            cases e
            have mu : mutH (H a) := by rw [g1]; trivial
            refine .inl ⟨a, vs, _, j, rfl, rfl, g1, by rw [← r1.length]; exact ej, q _ (Le.put mu) (rh.put ea e0 rfl mu ⟨_, upd_same, RDs.mono (Le.put mu) _ _ (r1.set rv j)⟩)⟩
          · cases e
        · cases e
      · rename_i kvs e0
        obtain ⟨ws, g1, r1⟩ := rh.get _ a _ ea e0
        split at e
        · rename_i k ek
          have ex := keyOf_ok ri ek
          subst ex
          split at e
          · rename_i hz
            cases e
            have mu : mutH (H a) := by rw [g1]; trivial
            exact .inr ⟨a, _, rfl, DPut.k g1 (by rw [← r1.length]; exact lim_lt hz), q _ (Le.put mu) (rh.put ea e0 rfl mu ⟨_, upd_same, RKs.mono (Le.put mu) (r1.put rv)⟩)⟩
          · cases e
        · cases e
      · cases e
  · cases e
theorem s_sub {o i e : Expr} {mo mi mv : ED} {set : D → D → D → AH → Option AH} {tpos : Pos} (hset : SetS X L set) (ho : PE X o (tE L W mo)) (hi : PE X i (tE L W mi)) (he : PE X e (tE L W mv))
    (ha : ∀ v, assign (.Subscript o i tpos) X.env v = (do
      let ov ← holding [v] (eval o X.env)
      let iv ← holding [v, ov] (eval i X.env)
      standAt tpos
      holding [v, ov, iv] (setItem ov iv v)
      release [v, ov, iv] []))
    (hs : swapsWithSole [.Subscript o i tpos] e pos.line X.env = pure false) (hw : swappedStores [.Subscript o i tpos] e X.env = pure none) (h1 : (assignEach [.Subscript o i tpos] X.env).map (·.2) = [assign (.Subscript o i tpos) X.env]) :
    PS X (.Assign [.Subscript o i tpos] e pos) (tS L W (sSub set mo mi mv)) := by
  obtain ⟨t, hp, hq⟩ := hset
  refine PS.weak (ps_asg he (pg_sub ho hi hp ha) hs hw h1) fun E σ H ⟨A, δ, h, rs, rh, p⟩ => ?_
  refine ⟨A, δ, h, rs, rh, (PoS.thn rs p).imp fun v H1 ⟨A1, d, h1, l1, rh1, q1, p1⟩ => ⟨A1, δ, h1, rs.mono l1, rh1, (PoS.thn (rs.mono l1) p1).imp fun x H2 ⟨A2, o, h2, l2, rh2, q2, p2⟩ => ⟨A2, δ, h2, rs.mono (l1.trans l2), rh2, (PoS.thn (rs.mono (l1.trans l2)) p2).imp fun y H3 ⟨A3, i, h3, l3, rh3, q3, p3⟩ => ?_⟩⟩⟩
  cases e : set o i d h3 with
  | none => rw [e] at p3; exact p3.elim
  | some h4 =>
    rw [e] at p3
    exact hq A3 h3 h4 H3 x y v o i d _ rh3 (RD.mono l3 _ _ q2) q3 (RD.mono (l2.trans l3) _ _ q1) e fun H' l' rh' => p3 A3 σ H' l' (rs.mono (l1.trans (l2.trans (l3.trans l')))) rh'
end
end Cod

/-! # own exceptions whose __init__ begins with super().__init__(e) -/
namespace Cod
open PySem L2 PySem.Spec PyProof.Rows
/-- the context of the body of a method that knows its class -/
noncomputable def cxS (CX : CXT) (P : Program) (w : World) (K : PySem.W.Frag) (mg : Str → Option Value) (base : Heap) (N : List Str) (qual : Str) (scope : Scope) (f : Addr) (cd : Value) (cc : Addr) (A : Around) (outer : List Env) (s : Shared) (H : Hp) (E : XK) : Cx where
  prog := P
  w := w
  K := K
  mg := mg
  base := base
  A := A.deeper (PySem.W.ksEnv qual scope s.heap.objs.size f cd cc)
  N := N
  s_0 := s
  H_0 := H
  env := PySem.W.ksEnv qual scope s.heap.objs.size f cd cc
  outer := outer
  stack := PySem.W.ksEnv qual scope s.heap.objs.size f cd cc :: outer
  ex := []
  calm := true
  fn := fun x => x != "__class__"
  pn := []
  xe := fun e s' => wpAny (model P w) (A.deeper (PySem.W.ksEnv qual scope s.heap.objs.size f cd cc)) (leaving (PySem.W.ksEnv qual scope s.heap.objs.size f cd cc) e) (fun _ s'' => CX outer H s E e s'') (fun e' s'' => CX outer H s E e' s'') s'
structure ScopeS (N P : List Str) (sc : Scope) : Prop where
  kind : sc.kind = .function
  co : sc.isCoroutine = false
  gen : sc.isGenerator = false
  nd : N.Nodup
  pre : N.take P.length = P
  par : ∀ x ∈ P, sc.names.lookup x = some .local
  nocell : ∀ y ∈ sc.names, y.2 ≠ .cell
  free : ∀ y ∈ sc.names, y.2 = .free → y.1 = "__class__"
theorem zip_look : ∀ {ps : List Str} {us : List Value} {i : Nat} {y : Str} {u : Value}, ps.Nodup → ps[i]? = some y → us[i]? = some u → (ps.zip us).reverse.lookup y = some u
  | [], _, _, _, _, _, h, _ => by simp at h
  | _ :: _, [], _, _, _, _, _, h => by simp at h
  | p :: ps, v :: us, i, y, u, hn, h1, h2 => by
    rw [List.nodup_cons] at hn
    rw [List.zip_cons_cons, List.reverse_cons, List.lookup_append]
    cases i with
    | zero =>
      have e1 : p = y := by simpa using h1
      have e2 : v = u := by simpa using h2
      subst e1 e2
      have : (ps.zip us).reverse.lookup p = none := by
        rw [List.lookup_eq_none_iff]
        intro q hq
        have := (List.of_mem_zip (List.mem_reverse.mp hq)).1
        simp only [bne_iff_ne, ne_eq]
        intro e
        exact hn.1 (by rw [e]; exact this)
      rw [this]
      simp
    | succ i =>
      rw [zip_look hn.2 (by simpa using h1) (by simpa using h2)]
      rfl
theorem inv_startS {CX : CXT} {P : Program} {w : World} {K : PySem.W.Frag} {mg : Str → Option Value} {base : Heap} {N ps : List Str} {qual : Str} {scope : Scope} {f : Addr} {cd : Value} {cc : Addr} {oc : Obj} {cv : Option Value} {A : Around} {outer : List Env} {s : Shared} {h1 : Heap} {tk : Nat} {H : Hp} {E : XK} {us : List Value} {vs : List V}
    (S : ScopeS N ps scope) (hd : A.handled = none) (e0 : Env0 P w K mg base A outer s H) (hl : vs.length = ps.length) (r : Vals vs us) (hcc : K.lookup cc = some oc) (hcv : oc.data = .cell cv)
    (hns : h1.Ns s.heap.objs.size (fun x => (ps.zip us).reverse.lookup x)) (hk : ∀ b o, s.heap.get? b = some o → h1.get? b = some o) :
    Inv (cxS CX P w K mg base N qual scope f cd cc A outer s H E) [] (start N vs) H { s with heap := h1, toks := tk } := by
  have hpl : ps.length ≤ N.length := by have := congrArg List.length S.pre; rw [List.length_take] at this; omega
  have noA : ∀ b : Addr, b ∉ (cxS CX P w K mg base N qual scope f cd cc A outer s H E).ex := fun b z => absurd (show b ∈ ([] : List Addr) from z) (by simp)
  have cl : ∀ {x : Str} {c : Addr}, (cxS CX P w K mg base N qual scope f cd cc A outer s H E).env.cells.lookup x = some c → x = "__class__" ∧ c = cc := fun {x c} h => by
    have h : ([("__class__", cc)] : List (Str × Addr)).lookup x = some c := h
    rw [List.lookup_cons] at h
    split at h
    · rename_i e
      cases h
      exact ⟨by simpa using e, rfl⟩
    · cases h
  have hb := e0.mod.kin _ _ hcc
  have hbs := e0.bs _ _ hb
  refine ⟨⟨e0.mod, S.kind, rfl, rfl, Nat.le_refl _, fun y z c h1 h2 => (cl h1).1.trans (cl h2).1.symm, fun y hy => ?_, fun y c hf h => ?_, fun _ => hd, Around.frames_deeper e0.frames, .inr ⟨rfl, rfl⟩, fun b z => absurd z (noA b), e0.bs, e0.bsz, fun b _ _ => noA b, fun b z => absurd z (noA b), e0.funs, e0.frf⟩,
    rfl, e0.bare, Un.kept hk, ⟨_, hns, fun i y v h1 h2 h3 => ?_⟩, fun y c h => ?_, e0.hok.fresh (Nat.le_refl _), fun y c h => ?_, fun p hp => absurd (show p ∈ ([] : List (Addr × Obj)) from hp) (by simp), e0.hok.kept hk, ?_⟩
  · have hy : scope.names.lookup y = some .cell ∨ scope.names.lookup y = some .free := hy
    rcases hy with hy | hy
    · exact absurd rfl (S.nocell _ (PySem.mem_of_lookup hy))
    · have := S.free _ (PySem.mem_of_lookup hy) rfl
      have e : y = "__class__" := this
      subst e
      exact ⟨cc, rfl⟩
  · have := (cl h).1
    subst this
    exact absurd hf (by show ¬ (("__class__" : Str) != "__class__") = true; decide)
  · have hi : i < vs.length := by
      unfold L2.start at h2
      by_cases hi : i < vs.length
      · exact hi
      · rw [List.getElem?_append_right (by simpa using hi)] at h2
        rw [List.getElem?_replicate] at h2
        split at h2 <;> cases h2
    have ha : vs[i]? = some v := by
      unfold L2.start at h2
      rw [List.getElem?_append_left (by simpa using hi), List.getElem?_map] at h2
      cases e : vs[i]? with
      | none => rw [e] at h2; cases h2
      | some a => rw [e] at h2; cases h2; rfl
    obtain ⟨u, hu, rv⟩ := r.get ha
    have hp : ps[i]? = some y := by
      rw [← S.pre, List.getElem?_take_of_lt (by omega)]; exact h1
    have ndP : ps.Nodup := by rw [← S.pre]; exact S.nd.sublist (List.take_sublist _ _)
    exact ⟨u, rv, .inl ⟨S.par y (List.mem_of_getElem? hp), zip_look ndP hp hu⟩⟩
  · obtain ⟨_, rfl⟩ := cl h
    exact ⟨cv, oc, hk _ _ hbs.1, hcv⟩
  · obtain ⟨_, rfl⟩ := cl h
    exact hbs.2
  · unfold L2.start
    show _ = N.length
    rw [List.length_append, List.length_map, List.length_replicate]
    omega
/-- a first statement that asks which code it stands in -/
noncomputable def At (X : Cx) (body : List Stmt) (st : Stmt) (t : (L2.St → Hp → Prop) → L2.St → Hp → Prop) : Prop :=
  ∀ (s : Shared) (σ : L2.St) (H : Hp) (N : L2.St → Hp → Prop), Inv X [] σ H s → t N σ H → _root_.PySem.wpAt (model X.prog X.w) X.A (.func body X.env) (exec st X.env) (fun fl s' => fl = .next ∧ ∃ σ' H', Inv X [] σ' H' s' ∧ N σ' H') X.xe s
theorem fn_ofS {CX : CXT} {P : Program} {w : World} {K : PySem.W.Frag} {mg : Str → Option Value} {base : Heap} {k : Nat} {f cc : Addr} {ocl : Obj} {cv : Option Value} {name qual : Str} {params : Arguments} {st : Stmt} {rest : List Stmt} {scope : Scope} {dV kV doc pm cdv ct oc : Value} {an od : Option Addr}
    {osl : Array (Option Value)} {N ps : List Str} {sp : Sp} (lk : K.lookup f = some ⟨oc, od, .func (PySem.W.ksFn name qual params (st :: rest) scope dV kV doc pm an cdv ct cc), osl⟩) (hcd : PySem.W.codeIn K cdv qual = true) (S : ScopeS N ps scope) (hcc : K.lookup cc = some ocl) (hcv : ocl.data = .cell cv)
    (len : ∀ vs H Q E, sp vs H Q E → vs.length = ps.length)
    (hbody : ∀ (A : Around) (outer : List Env) (s : Shared) (H : Hp) (vs : List V) (Q : VK) (E : XK), Room k (A.deeper (PySem.W.ksEnv qual scope s.heap.objs.size f cdv cc)) → sp vs H Q E →
      ∃ t0 t, At (cxS CX P w K mg base N qual scope f cdv cc A outer s H E) (st :: rest) st t0 ∧ PSs (cxS CX P w K mg base N qual scope f cdv cc A outer s H E) rest t ∧ t0 (t { nx := fun _ H' => Q .non H', rt := Q }) (start N vs) H) :
    FnOk P w K mg base CX (k + 1) f (PySem.W.ksFn name qual params (st :: rest) scope dV kV doc pm an cdv ct cc) ps sp := by
  refine ⟨len, fun A outer s H args us vs Q E hr e0 hb r hsp => ?_⟩
  have hl := len _ _ _ _ hsp
  have KX : K.In s.heap := e0.mod.kin.keeps fun b o e => (e0.bs b o e).1
  have lim : s.heap.NoLimit := e0.mod.nolimit.keeps fun b o e => (e0.bs b o e).1
  have hloc : ∀ x ∈ ps.zip us, scope.names.lookup x.1 = some .local := fun ⟨n, v⟩ hy => S.par n (List.of_mem_zip hy).1
  refine ks_codeAny_call_defAt (fd := PySem.W.ksFn name qual params (st :: rest) scope dV kV doc pm an cdv ct cc) (body := st :: rest) (binds := ps.zip us) hr.depth (KX _ _ lk) rfl lim (PySem.W.codeRec_of KX hcd) rfl hb S.nocell hloc (fun h1 hns hk => ?_) S.co S.gen S.kind
  obtain ⟨t0, t, h0, ht, hq⟩ := hbody A outer s H vs Q E (hr.deeper _) hsp
  have I : Inv (cxS CX P w K mg base N qual scope f cdv cc A outer s H E) [] (start N vs) H { s with heap := h1, toks := s.toks + (ps.zip us).length } := inv_startS S hr.hd e0 hl r hcc hcv hns hk
  refine ks_wpAt_execs_cons (ks_wpAt_mono (h0 _ _ _ _ I hq) ?_ fun e s' hs => hs)
  rintro fl s1 ⟨rfl, σ1, H1, I1, q1⟩
  refine _root_.PySem.wpAt_of_wpAny (wpAny_mono (ht.run [] s1 σ1 H1 _ I1 q1) (fun fl s' hs => ?_) fun e s' hs => hs)
  have fin : ∀ {σ' : L2.St} {H' : Hp} {v : V} {u : Value}, Inv (cxS CX P w K mg base N qual scope f cdv cc A outer s H E) [] σ' H' s' → RelV v u → Q v H' → L2.CE outer P w H s Q u s' :=
    fun {σ' H' v u} J rv q => ⟨v, H', J.os, J.bare, J.base, J.hok, rv, q⟩
  cases fl with
  | ret u =>
    obtain ⟨v, σ', H', J, rv, q⟩ := hs
    exact fin J rv q
  | next =>
    obtain ⟨σ', H', J, q⟩ := hs
    exact fin (v := V.non) (u := Value.none) J rfl q
  | brk =>
    obtain ⟨_, _, _, q⟩ := hs
    exact False.elim q
  | cont =>
    obtain ⟨_, _, _, q⟩ := hs
    exact False.elim q
/-- what the written part says of a class over ValueError whose __init__ says super().__init__ -/
structure SupC (X : Cx) (C f cda cc : Addr) (sf : Str) (fd : FuncData) : Prop where
  ex : OexC X.K C
  env : X.env.func = some f ∧ X.env.code = .ref cda ∧ X.env.cells.lookup ("__class__" : Str) = some cc
  kinds : X.env.kindOf "super" = some .globalImplicit ∧ X.env.kindOf "__class__" = some .free ∧ X.env.kindOf sf = some .local
  fn : ∃ o, X.K.lookup f = some o ∧ o.data = .func fd
  par : ∃ ar : Arg, (fd.params.posonlyargs ++ fd.params.args).head? = some ar ∧ ar.arg = sf
  code : ∃ (o : Obj) (vs : Array Value) (file : Str) (tf : Tok), X.K.lookup cda = some o ∧ o.data = .fields vs ∧ vs[2]? = some (.str file tf) ∧ ((X.prog.main.file : Str) == file) = true
  cell : ∃ o, X.K.lookup cc = some o ∧ o.data = .cell (some (.ref C))
  top : (X.prog.main.scope.names.lookup ("super" : Str)).isSome = false
  sup : X.mg "super" = none
  cls : ∃ cd, PySem.W.clsIn X.K C = some cd ∧ PySem.W.alongIn X.K "__init__" ((cd.mro.dropWhile (· != .ref C)).drop 1) = some (some (.builtin "ValueError.__init__"))
  mro : PySem.W.mroIn X.K C (.ref C) = some true
  opq : PySem.W.nsIn X.K cStatics "thirdparty.any" = some none
  sub : PySem.W.subIn X.K (.ref C) (.type "ValueError") = some true
theorem at_super {X : Cx} {C f cda cc : Addr} {self : Str} {fd : FuncData} (T : SupC X C f cda cc self fd) {body : List Stmt} {e : Expr} {te : TE} {p0 p1 p2 p3 p4 : Pos} {pl : Sem Bool} (hi0 : X.N[0]? = some self) (he : PA X [e] (fun σ H Q => te σ H fun v H1 => Q [v] H1))
    (hi : interactive X.env = false := by rfl) (hs : swapsWith (.Call (.Attribute (.Call (.Name "super" p0) [] [] p1) "__init__" p2) [e] [] p3) none p4.line X.env = pure false := by rfl)
    (hst : starEach [e] X.env = (false, eval e X.env) :: starEach [] X.env := by rfl)
    (hev : eval (.Call (.Attribute (.Call (.Name "super" p0) [] [] p1) "__init__" p2) [e] [] p3) X.env = (do
      let ov ← attributeBase (.Call (.Name "super" p0) [] [] p1) "__init__" X.env (eval (.Call (.Name "super" p0) [] [] p1) X.env)
      standAt p2.atName
      let (f, first) ← holding [ov] (getMethod ov "__init__" pl)
      callWith p3 f first (backTo p3 (starEach [e] X.env)) []) := by rfl) :
    At X body (.Expr (.Call (.Attribute (.Call (.Name "super" p0) [] [] p1) "__init__" p2) [e] [] p3) p4)
      (fun N σ H => ∃ a, σ[0]? = some (some (.ref a)) ∧ H a = some (exo a C none) ∧ te σ H fun v H1 => ([v] : List V).length ≤ 1000 ∧ H1 a = some (exo a C none) ∧ N σ H1) := by
  intro s σ H N I ⟨a, hσ, ha, ht⟩
  obtain ⟨of, hf1, hf2⟩ := T.fn
  obtain ⟨ar, hp1, hp2⟩ := T.par
  obtain ⟨oc, vs, file, tf, hc1, hc2, hc3, hc4⟩ := T.code
  obtain ⟨ocl, hl1, hl2⟩ := T.cell
  obtain ⟨cd, hcd, hal⟩ := T.cls
  have KX := I.kIn
  obtain ⟨t1, hat⟩ := exo_at I.hok ha
  have iA : PySem.W.InstAt s.heap a _ C none := ⟨hat, rfl, rfl, trivial⟩
  obtain ⟨oD, hD1, hD2⟩ : ∃ oD, s.heap.get? C = some oD ∧ oD.data = .cls cd := by
    have hD := hcd
    unfold PySem.W.clsIn at hD
    split at hD
    · rename_i c d cd' sl ho
      cases hD
      exact ⟨_, KX _ _ ho, rfl⟩
    · cases hD
  obtain ⟨m, hns, hm⟩ := I.loc
  obtain ⟨u, ru, lk⟩ := hm 0 self (.ref a) hi0 hσ (.inl T.kinds.2.2)
  have hu : m self = some (.ref a) := by
    rcases lk with ⟨_, h⟩ | ⟨h, _⟩
    · obtain rfl : u = Value.ref a := ru
      exact h
    · rw [T.kinds.2.2] at h
      rcases h with h | h <;> cases h
  refine ks_wpAt_Expr_any (ks_wpAt_MethodCall ?_ hev) hi hs
  refine ks_wpAt_super_base (env := X.env) T.kinds.1 T.kinds.2.1 (by decide) T.env.1 (KX _ _ hf1) hf2 hp1 T.env.2.1 (KX _ _ hc1) hc2 hc3 hc4 T.top ?_
  obtain ⟨mb, b1, b2⟩ := I.mod.blt
  refine PySem.W.ks_loadName_global I.ok.kind T.kinds.1 (Calls.loadGlobal_builtin (by rw [I.ok.glob]; exact I.mod.glob.keeps I.bk) T.sup (by rw [I.ok.blt]; exact b1.keeps I.bk) ((b2 "super" (by decide)).trans (show bootBuiltins "super" = some (.type "super") from by rfl)) ⟨rfl, ?_⟩)
  refine wpAny_loadName_free I.ok.kind T.kinds.2.1 T.env.2.2 ⟨_, KX _ _ hl1, hl2⟩ ?_
  rw [hp2]
  refine wpAny_loadName_local I.ok.kind T.kinds.2.2 hns hu ?_
  obtain ⟨hh, g, d, t, os⟩ := s
  refine ks_wpAny_isType_cls hD1 hD2 ⟨rfl, ?_⟩
  refine ks_wpAny_call_super hD1 hD2 iA.at_ iA.cls (fun c e => by cases e) (PySem.W.looks_mroIn KX T.mro) (fun h' e' k' => ?_)
  have I1 : Inv X [] σ H ⟨h', g, d, t, os⟩ := I.kept (s := ⟨hh, g, d, t, os⟩) (h' := h') (t' := t) k'
  have KX1 := I1.kIn
  have iA1 : PySem.W.InstAt h' a _ C none := ⟨k' _ _ iA.at_, rfl, rfl, trivial⟩
  have hI : PySem.W.Looks (model X.prog X.w) h' (isInstance (.ref a) (.type "ValueError")) true := iA1.type.andThen (PySem.W.looks_subIn KX1 T.sub)
  refine PySem.W.kxs_getMethod PySem.W.kxs_ValueError e' (PySem.W.looks_opaque KX1 T.opq) (l₀ := cd.mro) (fun A Q E s k q => wpAny_bind ((PySem.W.looks_clsIn KX1 hcd) A _ E s k (wpAny_pure q))) rfl KX1 hal hI (PySem.W.ks_ne KX1 iA1 hcd) (by decide) ?_
  have hk2 : ∀ b o, h'.get? b = some o → (h'.push (PySem.W.kxs_mw "ValueError.__init__" a)).get? b = some o := fun b o e => Heap.get?_push_of_some _ e
  have hq2 : (h'.push (PySem.W.kxs_mw "ValueError.__init__" a)).get? h'.objs.size = some (PySem.W.kxs_mw "ValueError.__init__" a) := Heap.get?_push_at rfl rfl
  have I2 : Inv X [] σ H ⟨h'.push (PySem.W.kxs_mw "ValueError.__init__" a), g, d, t + 1, os⟩ := I1.kept (t' := t + 1) hk2
  have nu : H h'.objs.size = none := I1.hok.fresh (Nat.le_refl _)
  have I3 : Inv X [(h'.objs.size, PySem.W.kxs_mw "ValueError.__init__" a)] σ H ⟨h'.push (PySem.W.kxs_mw "ValueError.__init__" a), g, d, t + 1, os⟩ := I2.pins_of fun p hp => by
    have : p = (h'.objs.size, PySem.W.kxs_mw "ValueError.__init__" a) := by simpa using hp
    subst this
    exact ⟨hq2, nu, fun z => by have := I1.lt; rw [← z] at this; exact absurd this (Nat.lt_irrefl _), I1.nofs (Nat.le_refl _), fun v e => by cases e⟩
  show wpAny _ _ (callWith p3 (.ref h'.objs.size) [] (backTo p3 (starEach [e] X.env)) []) _ _ _
  refine PySem.W.kxs_callWith1 (h₀ := h') (L := X.env.locals) (news := [(h'.objs.size, PySem.W.kxs_mw "ValueError.__init__" a)]) (i := "ValueError.__init__") (x := a) ?_ (by simp) ?_ hst rfl
  · intro p hp
    have : p = (h'.objs.size, PySem.W.kxs_mw "ValueError.__init__" a) := by simpa using hp
    subst this
    refine ⟨hq2, fun z => ?_, ?_⟩
    · have := I1.lt; rw [← z] at this; exact absurd this (Nat.lt_irrefl _)
    · cases z : h'.get? h'.objs.size with
      | none => rfl
      | some o => exact absurd (Heap.lt_size z) (Nat.lt_irrefl _)
  refine thn (he.run p3 _ _ σ H (fun vs H1 => vs.length ≤ 1000 ∧ H1 a = some (exo a C none) ∧ N σ H1) I3 ht) fun us s3 ⟨vs3, H3, I4, r3, q3⟩ => ?_
  obtain ⟨hlen, ha3, q4⟩ := q3
  have hu3 := (I4.pin (h'.objs.size, PySem.W.kxs_mw "ValueError.__init__" a) (List.mem_append_right _ (by simp))).1
  refine ⟨hu3, ?_⟩
  have hz : us.length ≤ sizeLine := by
    rw [← Paired.length r3, sizeLine_eq]
    omega
  obtain ⟨nm, q, Nn, bs, bm, sn, sub, ab, col, dd, k0, k1, k2, k3, k5, hC, hbm⟩ := T.ex.cls
  obtain ⟨t3, hat3⟩ := exo_at I4.hok ha3
  have hC3 := I4.kIn _ _ hC
  obtain ⟨hp3, g3, d3, tk3, os3⟩ := s3
  show wpAny _ _ (call (.ref h'.objs.size) us) _ _ _
  refine wpAny_call (codeAny_of_tree ?_)
  show wpAny _ _ (callAny (.ref h'.objs.size) ⟨us, []⟩) _ _ _
  simp only [callAny]
  refine wpAny_bind (wpAny_load hu3 ?_)
  simp only [PySem.W.kxs_mw, show (Value.type "method-wrapper" == Value.type "method" || Value.type "method-wrapper" == Value.type "builtin_function_or_method" || Value.type "method-wrapper" == Value.type "method-wrapper") = true by decide, if_true]
  refine PySem.W.KFB.if_so (by decide) ?_
  refine wpAny_bind (PySem.W.check_bound_init F.excBase_ValueError.toExcCallFacts hC3 hat3 rfl ?_)
  refine wpAny_bind (wpAny_pure (wpAny_pure ?_))
  refine ⟨plainId_quiet F.excBase_ValueError.init.plain _, codeAny_builtin F.excBase_ValueError.initEntry ?_⟩
  refine PySem.W.exc_init_tree (cls := .ref C) (t0 := t3) (dv := none) (c2 := .none) (c3 := .none) (b4 := .bool false) hat3 hz fun h5 k5 e5 t5 => ?_
  have J := I4.write (t' := tk3) (x := a) (e := a) (o := exo a C none) (by rw [ha3]; exact True.intro) (.inl rfl) k5 ⟨_, e5⟩ (exo_ok e5)
  have eu : upd H3 a (exo a C none) = H3 := by
    funext b
    by_cases hb : b = a
    · rw [hb, upd_same, ha3]
    · rw [upd_ne hb]
  rw [eu] at J
  exact ⟨by trivial, σ, H3, J.pins_of (fun p hp => by cases hp), q4⟩
end Cod

/-! # what an own exception's __init__ keeps; raise -/
namespace Cod
open PySem L2 PySem.Spec PyProof.Rows
/-- what a field is set from: a parameter (counted from 0, self left out), a written number, a written text -/
inductive Src where
  | par (j : Nat)
  | int (i : Int)
  | str (x : Str)
noncomputable def srcD (ds : List D) : Src → Option D
  | .par j => ds[j]?
  | .int i => some (.int i)
  | .str x => some (.str x)
noncomputable def srcV (vs : List V) : Src → Option V
  | .par j => vs[j]?
  | .int i => some (.int i)
  | .str x => some (.str x)
/-- the fields in the order of the dict's record: the last one first -/
noncomputable def fldD (ds : List D) : List (Str × Src) → List (Str × D) → Option (List (Str × D))
  | [], acc => some acc
  | (f, s) :: r, acc => match srcD ds s with
    | some d => fldD ds r ((f, d) :: acc)
    | none => none
noncomputable def fldV (vs : List V) : List (Str × Src) → List (Str × V) → Option (List (Str × V))
  | [], acc => some acc
  | (f, s) :: r, acc => match srcV vs s with
    | some d => fldV vs r ((f, d) :: acc)
    | none => none
theorem src_ok {L : Lk} {A : List Addr} {H : Hp} {ds : List D} {vs : List V} {s : Src} {d : D} (r : RDs L A H ds vs) (e : srcD ds s = some d) : ∃ v, srcV vs s = some v ∧ RD L A H d v := by
  cases s with
  | par j => exact r.get e
  | int i => cases e; exact ⟨_, rfl, .int _⟩
  | str x => cases e; exact ⟨_, rfl, .str _⟩
theorem fld_ok {L : Lk} {A : List Addr} {H : Hp} {ds : List D} {vs : List V} (r : RDs L A H ds vs) : ∀ {fs : List (Str × Src)} {acc gs : List (Str × D)} {accV : List (Str × V)}, RKs L A H acc accV → fldD ds fs acc = some gs → ∃ ws, fldV vs fs accV = some ws ∧ RKs L A H gs ws
  | [], acc, gs, accV, ra, e => by cases e; exact ⟨accV, rfl, ra⟩
  | (f, s) :: fs, acc, gs, accV, ra, e => by
    unfold fldD at e
    cases es : srcD ds s with
    | none => rw [es] at e; cases e
    | some d =>
      rw [es] at e
      obtain ⟨v, ev, rv⟩ := src_ok r es
      obtain ⟨ws, e2, r2⟩ := fld_ok r (.cons rv ra) e
      exact ⟨ws, by unfold fldV; rw [ev]; exact e2, r2⟩
/-- what such an __init__ promises -/
noncomputable def spI (n : Nat) (C : Addr) (fs : List (Str × Src)) : Sp := fun vs H Q _ => vs.length = n + 1 ∧ ∃ a ws gs, vs = .ref a :: ws ∧ H a = some (exo a C none) ∧ fldV ws fs [] = some gs ∧ ∀ dx, H dx = none → dx ≠ a → Q .non (upd (upd H dx (exd dx gs)) a (exo a C (some dx)))
noncomputable def tSrc : Src → TE
  | .par j => tVar (j + 1)
  | .int i => tC (.int i)
  | .str x => tC (.str x)
noncomputable def srcE (N : List Str) : Expr → Option Src
  | .Constant (.int i) _ _ => some (.int i)
  | .Constant (.str x) _ _ => some (.str x)
  | .Name x _ => match N.findIdx? (fun y => decide (y = x)) with
    | some (j + 1) => some (.par j)
    | _ => none
  | _ => none
/-- the names of the scope of such an __init__ -/
structure XIn (X : Cx) (sf : Str) : Prop where
  at0 : X.N[0]? = some sf
  loc : ∀ x ∈ X.N, X.env.kindOf x = some .local
  pl : ∀ x ∈ X.N, (x == ("__debug__" : Str)) = false ∧ (x == ("__classdict__" : Str)) = false
theorem pe_src {X : Cx} {sf : Str} (T : XIn X sf) {e : Expr} {s : Src} (h : srcE X.N e = some s) : PE X e (tSrc s) := by
  unfold srcE at h
  split at h
  · cases h; exact pe_int
  · cases h; exact pe_str
  · rename_i x p
    split at h
    · rename_i j hj
      cases h
      rw [List.findIdx?_eq_some_iff_getElem] at hj
      obtain ⟨hl, hx, _⟩ := hj
      have hx' : X.N[j + 1] = x := of_decide_eq_true hx
      have e0 : X.N[j + 1]? = some x := by rw [List.getElem?_eq_getElem hl, hx']
      have hm := List.mem_of_getElem? e0
      exact pe_var e0 (.inl (T.loc x hm)) (T.pl x hm).1 (T.pl x hm).2
    · cases h
  · cases h
/-- self.f = e, one behind the other -/
noncomputable def asgE (N : List Str) (sf : Str) : List Stmt → Option (List (Str × Src))
  | [] => some []
  | .Assign [.Attribute (.Name x _) f _] e _ :: r => if x = sf then (match srcE N e, asgE N sf r with
    | some s, some fs => some ((f, s) :: fs)
    | _, _ => none) else none
  | _ => none
noncomputable def tAsgs (K : PySem.W.Frag) : List (Str × Src) → TS
  | [] => tNext
  | (f, s) :: r => tSeq (tOst K f (tVar 0) (tSrc s)) (tAsgs K r)
theorem swaps_src {N : List Str} {e : Expr} {s : Src} (h : srcE N e = some s) {t : Option Expr} {l : Nat} {env : Env} : swapsWith e t l env = pure false := by
  unfold srcE at h
  split at h
  · rfl
  · rfl
  · rfl
  · cases h
theorem pss_asgs {X : Cx} {sf : Str} (T : XIn X sf) : ∀ {rs : List Stmt} {fs : List (Str × Src)}, asgE X.N sf rs = some fs → PSs X rs (tAsgs X.K fs)
  | [], fs, h => by cases h; exact pss_nil
  | st :: r, fs, h => by
    unfold asgE at h
    split at h
    · rename_i h0; cases h0
    · rename_i x p1 f p2 e p3 r' h0
      cases h0
      split at h
      · rename_i hx
        subst hx
        split at h
        · rename_i s fs' hs hr
          cases h
          have hm := List.mem_of_getElem? T.at0
          exact pss_cons (ps_ost (pe_var T.at0 (.inl (T.loc _ hm)) (T.pl _ hm).1 (T.pl _ hm).2) (pe_src T hs) (swaps_src hs)) (pss_asgs T hr)
        · cases h
      · cases h
    · cases h
theorem tSrc_ok {n : Nat} {a : Addr} {ws : List V} {N : List Str} {s : Src} {y : V} {H : Hp} {Q : VK} (hs : srcV ws s = some y) (q : Q y H) : tSrc s (L2.start N (.ref a :: ws)) H Q := by
  cases s with
  | par j =>
    refine ⟨y, ?_, q⟩
    have hj : j < ws.length := (List.getElem?_eq_some_iff.mp hs).1
    have e1 : (ws.map some)[j]? = some (some y) := by rw [List.getElem?_map, show ws[j]? = some y from hs]; rfl
    unfold L2.start
    rw [List.map_cons, List.cons_append, List.getElem?_cons_succ, List.getElem?_append_left (by rw [List.length_map]; exact hj)]
    exact e1
  | int i => cases hs; exact q
  | str x => cases hs; exact q
theorem upd_upd {H : Hp} {a : Addr} {o u : HO} : upd (upd H a o) a u = upd H a u := by
  funext b
  by_cases h : b = a
  · rw [h, upd_same, upd_same]
  · rw [upd_ne h, upd_ne h, upd_ne h]
theorem upd_swap {H : Hp} {a b : Addr} {o u : HO} (h : a ≠ b) : upd (upd H a o) b u = upd (upd H b u) a o := by
  funext c
  by_cases h1 : c = a
  · rw [h1, upd_ne h, upd_same, upd_same]
  · by_cases h2 : c = b
    · rw [h2, upd_same, upd_ne (Ne.symm h), upd_same]
    · rw [upd_ne h2, upd_ne h1, upd_ne h1, upd_ne h2]
theorem asgs_more {K : PySem.W.Frag} {C a : Addr} (T : OexC K C) {N : List Str} {ws : List V} {dx : Addr} (hne : dx ≠ a) {E : Ends} : ∀ {fs : List (Str × Src)} {acc gs : List (Str × V)} {H : Hp}, (∀ p ∈ fs, PySem.W.findIn K (.ref C) p.1 = some none) → H a = some (exo a C (some dx)) → H dx = some (exd dx acc) → acc.length + fs.length ≤ 900 → fldV ws fs acc = some gs →
    E.nx (L2.start N (.ref a :: ws)) (upd H dx (exd dx gs)) → tAsgs K fs E (L2.start N (.ref a :: ws)) H
  | [], acc, gs, H, hno, ha, hd, hl, e, q => by
    cases e
    have : upd H dx (exd dx acc) = H := by
      funext b
      by_cases hb : b = dx
      · rw [hb, upd_same, hd]
      · rw [upd_ne hb]
    rw [this] at q
    exact q
  | (f, s) :: r, acc, gs, H, hno, ha, hd, hl, e, q => by
    unfold fldV at e
    split at e
    · rename_i y hy
      refine tSrc_ok (n := 0) hy ?_
      refine ⟨.ref a, rfl, a, C, rfl, T, hno (f, s) (by simp), .inr ⟨dx, acc, ha, hd, by simp at hl; omega, ?_⟩⟩
      refine asgs_more T hne (fun p hp => hno p (by simp [hp])) (by rw [upd_ne (Ne.symm hne)]; exact ha) upd_same (by simp at hl ⊢; omega) e ?_
      rw [upd_upd]
      exact q
    · cases e
theorem asgs_all {K : PySem.W.Frag} {C a : Addr} (T : OexC K C) {N : List Str} {ws : List V} {E : Ends} {f : Str} {s : Src} {fs : List (Str × Src)} {gs : List (Str × V)} {H : Hp} (hno : ∀ p ∈ ((f, s) :: fs), PySem.W.findIn K (.ref C) p.1 = some none) (ha : H a = some (exo a C none)) (hl : fs.length ≤ 800) (e : fldV ws ((f, s) :: fs) [] = some gs)
    (q : ∀ dx, H dx = none → dx ≠ a → E.nx (L2.start N (.ref a :: ws)) (upd (upd H dx (exd dx gs)) a (exo a C (some dx)))) : tAsgs K ((f, s) :: fs) E (L2.start N (.ref a :: ws)) H := by
  unfold fldV at e
  split at e
  · rename_i y hy
    refine tSrc_ok (n := 0) hy ?_
    refine ⟨.ref a, rfl, a, C, rfl, T, hno (f, s) (by simp), .inl ⟨ha, fun dx hdx hne => ?_⟩⟩
    refine asgs_more T hne (fun p hp => hno p (by simp [hp])) upd_same (by rw [upd_ne hne, upd_same]) (by simp; omega) e ?_
    rw [upd_swap (Ne.symm hne), upd_upd]
    exact q dx hdx hne
  · cases e
/-- what the written part says of an own exception class over ValueError with an __init__ that begins with super().__init__(e) -/
structure XCls (P : Program) (K : PySem.W.Frag) (mg : Str → Option Value) (C f cda cc : Addr) (sf : Str) (fd : FuncData) (scope : Scope) : Prop where
  ex : OexC K C
  kinds : scope.names.lookup ("super" : Str) = some .globalImplicit ∧ scope.names.lookup ("__class__" : Str) = some .free
  fn : ∃ o, K.lookup f = some o ∧ o.data = .func fd
  par : ∃ ar : Arg, (fd.params.posonlyargs ++ fd.params.args).head? = some ar ∧ ar.arg = sf
  code : ∃ (o : Obj) (vs : Array Value) (file : Str) (tf : Tok), K.lookup cda = some o ∧ o.data = .fields vs ∧ vs[2]? = some (.str file tf) ∧ ((P.main.file : Str) == file) = true
  cell : ∃ o, K.lookup cc = some o ∧ o.data = .cell (some (.ref C))
  top : (P.main.scope.names.lookup ("super" : Str)).isSome = false
  sup : mg "super" = none
  cls : ∃ cd, PySem.W.clsIn K C = some cd ∧ PySem.W.alongIn K "__init__" ((cd.mro.dropWhile (· != .ref C)).drop 1) = some (some (.builtin "ValueError.__init__"))
  mro : PySem.W.mroIn K C (.ref C) = some true
  opq : PySem.W.nsIn K cStatics "thirdparty.any" = some none
  sub : PySem.W.subIn K (.ref C) (.type "ValueError") = some true
theorem srcE_form {N : List Str} {e : Expr} {s : Src} (h : srcE N e = some s) : (∃ i j p, e = .Constant (.int i) j p) ∨ (∃ x j p, e = .Constant (.str x) j p) ∨ ∃ x p, e = .Name x p := by
  unfold srcE at h
  split at h
  · exact .inl ⟨_, _, _, rfl⟩
  · exact .inr (.inl ⟨_, _, _, rfl⟩)
  · exact .inr (.inr ⟨_, _, rfl⟩)
  · cases h
theorem xinit {P : Program} {w : World} {K : PySem.W.Frag} {mg : Str → Option Value} {base : Heap} {C f cda cc : Addr} {sf name qual : Str} {params : Arguments} {e0 : Expr} {s0 : Src} {rest : List Stmt} {scope : Scope} {dV kV doc pm ct oc : Value} {an od : Option Addr} {osl : Array (Option Value)} {ps : List Str} {n : Nat} {p0 p1 p2 p3 p4 : Pos} {f1 : Str} {s1 : Src} {fs : List (Str × Src)}
    (lk : K.lookup f = some ⟨oc, od, .func (PySem.W.ksFn name qual params (.Expr (.Call (.Attribute (.Call (.Name "super" p0) [] [] p1) "__init__" p2) [e0] [] p3) p4 :: rest) scope dV kV doc pm an (.ref cda) ct cc), osl⟩) (hcd : PySem.W.codeIn K (.ref cda) qual = true) (S : ScopeS ps ps scope)
    (T : XCls P K mg C f cda cc sf (PySem.W.ksFn name qual params (.Expr (.Call (.Attribute (.Call (.Name "super" p0) [] [] p1) "__init__" p2) [e0] [] p3) p4 :: rest) scope dV kV doc pm an (.ref cda) ct cc) scope)
    (h0 : ps[0]? = some sf) (hn : ps.length = n + 1) (hpl : ∀ x ∈ ps, (x == ("__debug__" : Str)) = false ∧ (x == ("__classdict__" : Str)) = false) (he0 : srcE ps e0 = some s0) (hp0 : ∀ ws : List V, ws.length = n → (srcV ws s0).isSome = true) (hr : asgE ps sf rest = some ((f1, s1) :: fs)) (hfs : fs.length ≤ 800) (hno : ∀ p ∈ ((f1, s1) :: fs), PySem.W.findIn K (.ref C) p.1 = some none)
    {pl : Env → Sem Bool} (hev : ∀ env : Env, eval (.Call (.Attribute (.Call (.Name "super" p0) [] [] p1) "__init__" p2) [e0] [] p3) env = (do
      let ov ← attributeBase (.Call (.Name "super" p0) [] [] p1) "__init__" env (eval (.Call (.Name "super" p0) [] [] p1) env)
      standAt p2.atName
      let (f, first) ← holding [ov] (getMethod ov "__init__" (pl env))
      callWith p3 f first (backTo p3 (starEach [e0] env)) [])) :
    FnOk P w K mg base (L2.CX P w) 1 f (PySem.W.ksFn name qual params (.Expr (.Call (.Attribute (.Call (.Name "super" p0) [] [] p1) "__init__" p2) [e0] [] p3) p4 :: rest) scope dV kV doc pm an (.ref cda) ct cc) ps (spI n C ((f1, s1) :: fs)) := by
  obtain ⟨ocl, hl1, hl2⟩ := T.cell
  refine fn_ofS (k := 0) lk hcd S hl1 hl2 (fun vs H Q E h => by rw [h.1, hn]) fun A outer s H vs Q E _ hsp => ?_
  obtain ⟨hlen, a, ws, gs, rfl, ha, hg, q⟩ := hsp
  have XI : XIn (cxS (L2.CX P w) P w K mg base ps qual scope f (.ref cda) cc A outer s H E) sf := ⟨h0, fun x hx => S.par x hx, hpl⟩
  have hsf := List.mem_of_getElem? h0
  have SC : SupC (cxS (L2.CX P w) P w K mg base ps qual scope f (.ref cda) cc A outer s H E) C f cda cc sf _ := ⟨T.ex, ⟨rfl, rfl, rfl⟩, ⟨T.kinds.1, T.kinds.2, S.par sf hsf⟩, T.fn, T.par, T.code, T.cell, T.top, T.sup, T.cls, T.mro, T.opq, T.sub⟩
  have hin : interactive (cxS (L2.CX P w) P w K mg base ps qual scope f (.ref cda) cc A outer s H E).env = false := by
    show interactive (PySem.W.ksEnv qual scope s.heap.objs.size f (.ref cda) cc) = false
    simp [interactive, S.kind]
  obtain ⟨y0, hy0⟩ := Option.isSome_iff_exists.mp (hp0 ws (by simp at hlen; omega))
  have fin : tSrc s0 (L2.start ps (.ref a :: ws)) H fun v H1 => ([v] : List V).length ≤ 1000 ∧ H1 a = some (exo a C none) ∧ tAsgs K ((f1, s1) :: fs) { nx := fun _ H' => Q .non H', rt := Q } (L2.start ps (.ref a :: ws)) H1 :=
    tSrc_ok (n := 0) hy0 ⟨by simp, ha, asgs_all T.ex hno ha hfs hg fun dx h1 h2 => q dx h1 h2⟩
  have PE0 := pe_src XI he0
  rcases srcE_form he0 with ⟨i, j, p, rfl⟩ | ⟨x, j, p, rfl⟩ | ⟨x, p, rfl⟩
  · exact ⟨_, _, at_super SC h0 (te := tSrc s0) (pa_cons PE0 pa_nil) hin rfl rfl (hev _), pss_asgs XI hr, a, rfl, ha, fin⟩
  · exact ⟨_, _, at_super SC h0 (te := tSrc s0) (pa_cons PE0 pa_nil) hin rfl rfl (hev _), pss_asgs XI hr, a, rfl, ha, fin⟩
  · exact ⟨_, _, at_super SC h0 (te := tSrc s0) (pa_cons PE0 pa_nil) hin rfl rfl (hev _), pss_asgs XI hr, a, rfl, ha, fin⟩
/-- what the written part says of an own exception class -/
noncomputable def XOk (P : Program) (w : World) (K : PySem.W.Frag) (mg : Str → Option Value) (base : Heap) (C : Addr) (x : Str) (n : Nat) : Option (List (Str × Src)) → Prop
  | none => mg x = some (.ref C) ∧ PySem.W.excIn K C [.type "ValueError", .type "Exception", .type "BaseException", .type "object"] "ValueError.__new__" = true ∧ PySem.W.keepIn K (.ref C) = true ∧ PySem.W.subIn K (.ref C) (.type "BaseException") = some true ∧ PySem.W.typeIn K (.ref C) = some (.type "type")
  | some fs => mg x = some (.ref C) ∧ OexC K C ∧ n ≤ 1000 ∧ ∃ fI fd ps, PySem.W.findIn K (.ref C) "__init__" = some (some (.ref fI)) ∧ PySem.W.typeIn K (.ref fI) = some (.type "function") ∧ Binds K fd ps [] ∧ FnOk P w K mg base (L2.CX P w) 1 fI fd ps (spI n C fs)
structure XTab (K : PySem.W.Frag) (L : Lk) (tab : List ((Nat × Nat) × Bool)) (xf : List (Nat × List Str)) : Prop where
  sub : ∀ c c2 b, tab.lookup (c, c2) = some b → PySem.W.exmOne K (.ref (L.cA c)) (.ref (L.cA c2)) = some b ∧ PySem.W.kitOne K (.ref (L.cA c)) (.ref (L.cA c2)) = some b
  ve : ∀ c fs, xf.lookup c = some fs → PySem.W.kitOne K (.ref (L.cA c)) (.type "ValueError") = some true ∧ XfC K (L.cA c) ∧ ExcC K (L.cA c) ∧ ∀ f ∈ fs, PySem.W.findIn K (.ref (L.cA c)) f = some none
/-! ### raise -/
noncomputable def sRaise (c n : Nat) (fs : List (Str × Src)) (a : AD) : SD := fun δ h => (a δ h).thn δ fun ds h1 => if ds.length = n then (match fldD ds fs [] with
  | some gs => .ex c gs δ h1
  | none => .no) else .no
noncomputable def sRaise0 (c : Nat) (a : AD) : SD := fun δ h => (a δ h).thn δ fun ds h1 => if ds.length ≤ 1000 then .ex c [] δ h1 else .no
section
variable {X : Cx} {L : Lk} {W : WX} {pos p pos' : Pos}
theorem s_raiseI {x : Str} {c n k : Nat} {fI : Addr} {fd : FuncData} {ps : List Str} {fs : List (Str × Src)} {e : Expr} {es : List Expr} {ma : AD} (hc : X.calm = true) (tk : L2.Takes X W) (T : OexC X.K (L.cA c)) (iC : PySem.W.findIn X.K (.ref (L.cA c)) "__init__" = some (some (.ref fI))) (tI : PySem.W.typeIn X.K (.ref fI) = some (.type "function"))
    (F1 : FnOk X.prog X.w X.K X.mg X.base (L2.CX X.prog X.w) k fI fd ps (spI n (L.cA c) fs)) (hn : n ≤ 1000) (hr : Room (k + 1) X.A) (hb : Binds X.K fd ps []) (hx : Passes (L2.CX X.prog X.w) X (fun _ _ _ => False)) (hg : Gl X x) (hm : X.mg x = some (.ref (L.cA c))) (ha : PA X (e :: es) (tAr L W ma))
    (hdb : (x == ("__debug__" : Str)) = false) (he : starEach (e :: es) X.env = (false, eval e X.env) :: starEach es X.env) (hpl : (backTo pos (starEach es X.env)).any (·.1) = false) :
    PS X (.Raise (some (.Call (.Name x p) (e :: es) [] pos)) none pos') (tS L W (sRaise c n fs ma)) := by
  refine PS.weak (ps_raise hc tk (pmk_oex T iC tI F1 hr hb .nil hx hg hm ha hdb he hpl)) fun E σ H ⟨A, δ, h, rs, rh, p⟩ => ⟨A, δ, h, rs, rh, (PoS.thn rs p).imp fun vs H1 ⟨A1, ds, h1, l, rh1, q, p1⟩ => ?_⟩
  split at p1
  · rename_i hlen
    split at p1
    · rename_i gs hgs
      obtain ⟨ws, hws, rk⟩ := fld_ok q .nil hgs
      have hvl : vs.length = n := by rw [← q.length, hlen]
      refine ⟨by omega, fun a na => ⟨by simp [hvl], a, vs, ws, by simp, upd_same, hws, fun dx hdx hne => ⟨rfl, dx, ws, upd_same, by rw [upd_ne hne, upd_same], by rw [upd_ne hne] at hdx; exact hdx, ?_⟩⟩⟩
      have hd1 : H1 dx = none := by rw [upd_ne hne] at hdx; exact hdx
      have eH : upd (L2.del (upd (upd (upd H1 a (exo a (L.cA c) none)) dx (exd dx ws)) a (exo a (L.cA c) (some dx))) a) dx (.xd ws) = upd H1 dx (.xd ws) := by
        funext b
        by_cases h1 : b = dx
        · rw [h1, upd_same, upd_same]
        · rw [upd_ne h1, upd_ne h1]
          by_cases h2 : b = a
          · rw [h2, del_same, na]
          · rw [del_ne h2, upd_ne h2, upd_ne h1, upd_ne h2]
      rw [eH]
      exact p1 A1 σ (some dx) _ (Le.new hd1) (rs.mono (l.trans (Le.new hd1))) (rh1.newI hd1) ⟨⟨ws, upd_same, RKs.mono (Le.new hd1) rk⟩, fun a e ws z => by cases e; rw [hd1] at z; cases z⟩
    · exact p1.elim
  · exact p1.elim
theorem s_raise0 {x : Str} {c : Nat} {e : Expr} {es : List Expr} {ma : AD} (hc : X.calm = true) (tk : L2.Takes X W) (q : PySem.W.excIn X.K (L.cA c) [.type "ValueError", .type "Exception", .type "BaseException", .type "object"] "ValueError.__new__" = true) (kC : PySem.W.keepIn X.K (.ref (L.cA c)) = true) (exC : PySem.W.subIn X.K (.ref (L.cA c)) (.type "BaseException") = some true) (tyC : PySem.W.typeIn X.K (.ref (L.cA c)) = some (.type "type"))
    (hg : Gl X x) (hm : X.mg x = some (.ref (L.cA c))) (ha : PA X (e :: es) (tAr L W ma)) (hdb : (x == ("__debug__" : Str)) = false) (he : starEach (e :: es) X.env = (false, eval e X.env) :: starEach es X.env) (hpl : (backTo pos (starEach es X.env)).any (·.1) = false) :
    PS X (.Raise (some (.Call (.Name x p) (e :: es) [] pos)) none pos') (tS L W (sRaise0 c ma)) := by
  refine PS.weak (ps_raise hc tk (pmk_ownA F.excBase_ValueError q hm kC (raises_own exC tyC) hg ha hdb he hpl)) fun E σ H ⟨A, δ, h, rs, rh, p⟩ => ⟨A, δ, h, rs, rh, (PoS.thn rs p).imp fun vs H1 ⟨A1, ds, h1, l, rh1, q, p1⟩ => ?_⟩
  split at p1
  · rename_i hlen
    exact ⟨by rw [← q.length, sizeLine_eq]; omega, p1 A1 σ none H1 (Le.refl _ _) (rs.mono l) rh1 ⟨rfl, NwX.none⟩⟩
  · exact p1.elim
end
end Cod

/-! # try .. except C as n: ..; n.m(..); raise -/
namespace Cod
open PySem L2 PySem.Spec PyProof.Rows
/-! ### objects that nobody tracks are left out -/
theorem inv_hide {X : Cx} {pins : List (Addr × Obj)} {σ : L2.St} {H : Hp} {s : Shared} {l : List Addr} (I : Inv X pins σ H s) (h0 : ∀ b ∈ l, X.s_0.heap.get? b = none) (hH : ∀ b ∈ l, H b = none) (hL : X.env.locals ∉ l)
    (hc : ∀ b ∈ l, ∀ v, ¬ s.heap.IsCell b v) (hp : ∀ p ∈ X.pn ++ pins, p.1 ∉ l) : Inv X pins σ H { s with heap := PySem.W.hideAll s.heap l } := by
  have up : ∀ {b : Addr} {o : Obj}, s.heap.get? b = some o → b ∉ l → (PySem.W.hideAll s.heap l).get? b = some o := fun e n => PySem.W.hideAll_get l e n
  have n0 : ∀ {b : Addr} {o : Obj}, X.s_0.heap.get? b = some o → b ∉ l := fun e hb => by rw [h0 _ hb] at e; cases e
  have nH : ∀ {b : Addr} {u : HO}, H b = some u → b ∉ l := fun e hb => by rw [hH _ hb] at e; cases e
  have cell : ∀ {c : Addr} {v : Option Value}, s.heap.IsCell c v → (PySem.W.hideAll s.heap l).IsCell c v := fun {c v} z => by
    obtain ⟨o, ho, hd⟩ := id z
    exact ⟨o, up ho fun hb => hc c hb v z, hd⟩
  obtain ⟨m, ⟨o, es, ep, ho, r⟩, hl⟩ := id I.loc
  refine ⟨I.ok, I.os, I.bare, ⟨fun b o e n hb hx => up (I.base.keep b o e n hb hx) (n0 e), fun b o e n hb hx => ?_, I.base.free, fun b o e hx => ?_, I.base.tups, I.base.frzs, I.base.tbls⟩, ⟨m, ⟨o, es, ep, up ho hL, r⟩, fun i x v e1 e2 e3 => ?_⟩, fun x c e => ?_, I.free, I.freeC, fun p hp' => ?_, fun b ob e => ?_, I.len⟩
  · obtain ⟨sl, e1⟩ := I.base.slot b o e n hb hx
    exact ⟨sl, up e1 (n0 e)⟩
  · obtain ⟨o', e1⟩ := I.base.there b o e hx
    exact ⟨o', up e1 (n0 e)⟩
  · obtain ⟨u, ru, q⟩ := hl i x v e1 e2 e3
    refine ⟨u, ru, ?_⟩
    rcases q with ⟨k, e⟩ | ⟨k, c, e, z⟩
    · exact .inl ⟨k, e⟩
    · exact .inr ⟨k, c, e, cell z⟩
  · obtain ⟨v, z⟩ := I.cell x c e
    exact ⟨v, cell z⟩
  · obtain ⟨e, n, ne, nf, d⟩ := I.pin p hp'
    exact ⟨up e (hp p hp'), n, ne, nf, d⟩
  · refine (I.hok b ob e).stay (fun c w hcc q => up q ?_) (fun _ q => q) fun _ _ q => q
    rcases hcc with z | z
    · rw [z]; exact nH e
    · exact nH z
/-- the ground under an exception whose objects are a and T -/
noncomputable abbrev grd (h : Heap) (l : List Env) (a T : Addr) : Heap := PySem.W.hideAll h (a :: T :: frs l)
theorem traced_of {X : Cx} {pins : List (Addr × Obj)} {σ : L2.St} {H : Hp} {s : Shared} {a T : Addr} {oe oT : Obj} {vs ts : Array Value} {Z : Obj → Prop} {fl : Value} (I : Inv X pins σ H s) (ha : s.heap.get? a = some oe) (hz : Z oe) (hd : oe.data = .fields vs) (h1 : vs[1]? = some (.ref T)) (hne : T ≠ a)
    (hT : s.heap.get? T = some oT) (hdT : oT.data = .fields ts) (h3 : ts[3]? = some fl) :
    (grd s.heap X.stack a T).StaysIn s.heap ∧ (grd s.heap X.stack a T).get? a = none ∧ s.heap.FunFrames (grd s.heap X.stack a T) X.stack ∧ HandSPX.TracedZ s.heap (grd s.heap X.stack a T) a Z fl := by
  refine ⟨fun b o e => PySem.W.of_hideAll _ e, PySem.W.hideAll_none _ (by simp), funFrames_none I.stack fun b hb => PySem.W.hideAll_none _ (by simp [hb]), oe, vs, T, oT, ts, ha, hz, hd, h1, PySem.W.hideAll_none _ (by simp), hne, hT, hdT, h3⟩
/-- statements one behind the other -/
theorem execs_app {M : Model} {A : Around} {env : Env} {rs : List Stmt} {Q : Flow → Shared → Prop} {E : Value → Shared → Prop} : ∀ (ss : List Stmt) (s : Shared), wpAny M A (execs ss env) (fun f s' => match f with | .next => wpAny M A (execs rs env) Q E s' | f => Q f s') E s → wpAny M A (execs (ss ++ rs) env) Q E s := by
  suffices H : ∀ (ss : List Stmt) (Γ : PySem.Ctx), Γ.In A → ∀ (p : Pos) (s : Shared), Sem.wp M Γ (execs ss env) (fun f _ s' => match f with | .next => wpAny M A (execs rs env) Q E s' | f => Q f s') (fun e _ s' => E e s') p s → Sem.wp M Γ (execs (ss ++ rs) env) (fun f _ s' => Q f s') (fun e _ s' => E e s') p s from
    fun ss s h Γ p hΓ => H ss Γ hΓ p s (h Γ p hΓ)
  intro ss
  induction ss with
  | nil =>
    intro Γ hΓ p s h
    exact h Γ p hΓ
  | cons st ss ih =>
    intro Γ hΓ p s h
    rw [execs_cons, Sem.wp_bind'] at h
    rw [List.cons_append, execs_cons, Sem.wp_bind']
    refine Sem.wp_mono M Γ _ (fun f p' s' h' => ?_) (fun _ _ _ h' => h') _ _ h
    cases f <;> first | exact ih Γ hΓ p' s' h' | exact h'
theorem inv_unsuite2 {X : Cx} {pins : List (Addr × Obj)} {σ : L2.St} {H : Hp} {s : Shared} {a : Addr} {q r : Addr × Obj} (I : Inv (X.suite a (q :: (X.pn ++ pins))) [r] σ H s) (ok : X.Ok) : Inv X (q :: r :: pins) σ H s :=
  ⟨ok, I.os, I.bare, I.base, I.loc, I.cell, I.free, I.freeC, fun p hp => I.pin p (by
    simp only [List.mem_append, List.mem_cons, List.not_mem_nil, or_false] at hp ⊢
    rcases hp with h | h | h | h
    · exact .inl (.inr (.inl h))
    · exact .inl (.inl h)
    · exact .inr h
    · exact .inl (.inr (.inr h))), I.hok, I.len⟩
theorem inv_drop2 {X : Cx} {pins : List (Addr × Obj)} {σ : L2.St} {H : Hp} {s : Shared} {q r : Addr × Obj} (I : Inv X (q :: r :: pins) σ H s) : Inv X pins σ H s :=
  ⟨I.ok, I.os, I.bare, I.base, I.loc, I.cell, I.free, I.freeC, fun p hp => I.pin p (by
    simp only [List.mem_append, List.mem_cons] at hp ⊢
    rcases hp with h | h
    · exact .inl h
    · exact .inr (.inr (.inr h))), I.hok, I.len⟩
theorem inv_add2 {X : Cx} {pins : List (Addr × Obj)} {σ : L2.St} {H : Hp} {s : Shared} {q r : Addr × Obj} (I : Inv X pins σ H s) (h : ∀ p ∈ [q, r], s.heap.get? p.1 = some p.2 ∧ H p.1 = none ∧ p.1 ≠ X.env.locals ∧ p.1 ∉ X.fs ∧ ∀ v, p.2.data ≠ .cell v) : Inv X (q :: r :: pins) σ H s :=
  I.pins_of fun p hp => by
    simp only [List.mem_cons] at hp
    rcases hp with e | e | e
    · exact h p (by simp [e])
    · exact h p (by simp [e])
    · exact I.pin p (List.mem_append_right _ e)
/-- the exception and its traceback, pinned | in the air over a ground -/
noncomputable def Caught (X : Cx) (pins : List (Addr × Obj)) (σ : L2.St) (H : Hp) (a : Addr) (Z : Obj → Prop) (fl : Value) (s : Shared) : Prop :=
  ∃ (oe : Obj) (vs : Array Value) (T : Addr) (oT : Obj) (ts : Array Value), Z oe ∧ oe.data = .fields vs ∧ vs[1]? = some (.ref T) ∧ T ≠ a ∧ oT.data = .fields ts ∧ ts[3]? = some fl ∧ Inv X ((a, oe) :: (T, oT) :: pins) σ H s ∧ X.s_0.heap.get? a = none ∧ X.s_0.heap.get? T = none ∧ ∀ p ∈ X.pn ++ pins, p.1 ≠ a ∧ p.1 ≠ T
noncomputable def Air (X : Cx) (pins : List (Addr × Obj)) (σ : L2.St) (H : Hp) (a : Addr) (Z : Obj → Prop) (fl : Value) (s : Shared) : Prop :=
  ∃ (B : Heap) (sI : Shared), Inv X pins σ H sI ∧ (∀ b o, sI.heap.get? b = some o → b ∉ frs X.stack → B.get? b = some o) ∧ sI.heap.UpToSlots s.heap ∧ B.StaysIn s.heap ∧ B.get? a = none ∧ s.heap.FunFrames B X.stack ∧ HandSPX.TracedZ s.heap B a Z fl ∧ H a = none ∧ s.os = sI.os ∧ AllBare s.gens
section
variable {X : Cx} {pins : List (Addr × Obj)} {σ : L2.St} {H : Hp} {a : Addr} {Z : Obj → Prop} {fl : Value} {s : Shared}
theorem Caught.air (c : Caught X pins σ H a Z fl s) : Air X pins σ H a Z fl s := by
  obtain ⟨oe, vs, T, oT, ts, hz, hd, h1, hne, hdT, h3, I, a0, T0, hp⟩ := c
  obtain ⟨pa, Ha, nL, nF, _⟩ := I.pin (a, oe) (by simp)
  obtain ⟨pT, HT, nTL, nTF, _⟩ := I.pin (T, oT) (by simp)
  have I' := inv_drop2 I
  obtain ⟨b1, b2, b3, b4⟩ := traced_of (Z := Z) I' pa hz hd h1 hne pT hdT h3
  have hl := inv_hide (l := [a, T]) I' (fun b hb => by
    rcases List.mem_cons.mp hb with e | e
    · rw [e]; exact a0
    · rw [List.mem_singleton.mp e]; exact T0) (fun b hb => by
    rcases List.mem_cons.mp hb with e | e
    · rw [e]; exact Ha
    · rw [List.mem_singleton.mp e]; exact HT) (fun z => by
    rcases List.mem_cons.mp z with e | e
    · exact nL e.symm
    · exact nTL (List.mem_singleton.mp e).symm) (fun b hb v z => by
    obtain ⟨o, ho, hd'⟩ := z
    rcases List.mem_cons.mp hb with e | e
    · rw [e] at ho
      rw [show s.heap.get? a = some oe from pa] at ho
      cases ho
      rw [hd] at hd'
      cases hd'
    · rw [List.mem_singleton.mp e] at ho
      rw [show s.heap.get? T = some oT from pT] at ho
      cases ho
      rw [hdT] at hd'
      cases hd') (fun p hp' z => by
    rcases List.mem_cons.mp z with e | e
    · exact (hp p hp').1 e
    · exact (hp p hp').2 (List.mem_singleton.mp e))
  refine ⟨_, _, hl, fun b o e hb => ?_, Heap.UpToSlots.of_keeps fun b o e => PySem.W.of_hideAll _ e, b1, b2, b3, b4, Ha, rfl, I.bare⟩
  refine PySem.W.hideAll_get _ (PySem.W.of_hideAll _ e) fun z => ?_
  rcases List.mem_cons.mp z with q | q
  · rw [q, PySem.W.hideAll_none _ (by simp)] at e; cases e
  · rcases List.mem_cons.mp q with q | q
    · rw [q, PySem.W.hideAll_none _ (by simp)] at e; cases e
    · exact hb q
theorem Air.caught (hs : X.stack = X.env :: X.outer) (hf : X.env.frame = some X.env.locals) (hex : X.ex = []) (c : Air X pins σ H a Z fl s) : Caught X pins σ H a Z fl s := by
  obtain ⟨B, sI, J, nb, up, k1, k2, k3, ⟨oe, vs, T, oT, ts, ha, hz, hd, h1, hnT, hne, hT, hdT, h3⟩, na, os, ag⟩ := c
  have notFr : ∀ {a : Addr} {o : Obj} {vs : Array Value}, s.heap.get? a = some o → o.data = .fields vs → a ∉ frs X.stack := fun {a o vs} e dd hm => by
    obtain ⟨_, o', e', hnf⟩ := k3.mem hm
    rw [e] at e'; cases e'
    exact hnf _ dd
  have nfa := notFr ha hd
  have nfT := notFr hT hdT
  have nL : ∀ {b : Addr}, b ∉ frs X.stack → b ≠ X.env.locals ∧ b ∉ X.fs := fun {b} n => by
    rw [hs] at n
    refine ⟨fun z => n (List.mem_filterMap.mpr ⟨X.env, List.mem_cons_self, by rw [hf, z]⟩), fun hm => ?_⟩
    obtain ⟨e, he, q⟩ := List.mem_filterMap.mp hm
    exact n (List.mem_filterMap.mpr ⟨e, List.mem_cons_of_mem _ he, q⟩)
  have gone : ∀ b, B.get? b = none → b ∉ frs X.stack → sI.heap.get? b = none := fun b hb hn => by
    cases e : sI.heap.get? b with
    | none => rfl
    | some o =>
      rw [nb b o e hn] at hb
      cases hb
  have g0 : ∀ b, sI.heap.get? b = none → X.s_0.heap.get? b = none := fun b hb => by
    cases e : X.s_0.heap.get? b with
    | none => rfl
    | some o =>
      obtain ⟨o', e'⟩ := J.base.there b o e (by rw [hex]; simp)
      rw [hb] at e'
      cases e'
  have a0 := gone a k2 nfa
  have T0 := gone T hnT nfT
  refine ⟨oe, vs, T, oT, ts, hz, hd, h1, hne, hdT, h3, inv_add2 (J.landed nb k1 up os ag) fun p hp => ?_, g0 a a0, g0 T T0, fun p hp => ?_⟩
  · rcases List.mem_cons.mp hp with e | e
    · subst e
      exact ⟨ha, na, (nL nfa).1, (nL nfa).2, fun v z => by rw [hd] at z; cases z⟩
    · obtain rfl := List.mem_singleton.mp e
      exact ⟨hT, J.hok.gone T0, (nL nfT).1, (nL nfT).2, fun v z => by rw [hdT] at z; cases z⟩
  · have zp := (J.pin p hp).1
    exact ⟨fun e => (by rw [e, a0] at zp; cases zp), fun e => (by rw [e, T0] at zp; cases zp)⟩
theorem Air.flies {M : Model} {A : Around} {E : Value → Shared → Prop} {Q : Unit → Shared → Prop} {fr : Option Addr} (c : Air X pins σ H a Z fl s) (h : ∀ h', Air X pins σ H a Z (fr.elim Value.none fun f => rawInt f) { s with heap := h' } → Q () { s with heap := h' }) : wpAny M A (setFlight (.ref a) fr) Q E s := by
  obtain ⟨B, sI, J, nb, up, k1, k2, k3, k4, na, os, ag⟩ := c
  exact HandSPX.setFlight_anyZ k1 k3 k4 fun h' m1 m2 m3 m4 => h h' ⟨B, sI, J, nb, up.trans m4, m1, k2, m2, m3, na, os, ag⟩
theorem Air.noted {M : Model} {A : Around} {E : Value → Shared → Prop} {Q : Unit → Shared → Prop} {L : Addr} (hf : X.env.frame = some L) (c : Air X pins σ H a Z (rawInt L) s) (h : Q () s) : wpAny M A (noteFrame (.ref a) X.env) Q E s := by
  obtain ⟨B, sI, J, nb, up, k1, k2, k3, k4, na, os, ag⟩ := c
  exact HandSPX.againZ hf k4 h
theorem Air.field {M : Model} {A : Around} {E : Value → Shared → Prop} {Q : Value → Shared → Prop} (c : Air X pins σ H a Z fl s) (h : ∀ T, Q (.ref T) s) : wpAny M A (field (.ref a) 1) Q E s := by
  obtain ⟨B, sI, J, nb, up, k1, k2, k3, ⟨oe, vs, T, oT, ts, ha, hz, hd, h1, _⟩, na, os, ag⟩ := c
  exact wpAny_field ha hd h1 (h T)
theorem Air.xe {W : WX} {cls : Value} {d : Option Addr} (c : Air X pins σ H a (Zc cls d) (rawInt X.env.locals) s) (w : W cls d σ H) : XE X W (.ref a) s := by
  obtain ⟨B, sI, J, nb, up, k1, k2, k3, k4, na, os, ag⟩ := c
  exact ⟨a, B, sI, pins, σ, H, cls, d, rfl, J, nb, up, .inr (.inr ⟨k1, k2, k3, k4⟩), na, os, ag, w⟩
end
/-- the clause's suite, then the same exception again -/
noncomputable def wAgain (K : PySem.W.Frag) (c : Value) (i : Nat) (ts : Addr → Value → Option Addr → TS) (Wout : WX) : WX := fun cls d σ H => ∃ b, PySem.W.exmOne K cls c = some b ∧ (b = true → ∀ a, H a = none → ts a cls d { nx := fun σ' H' => Wout cls d (σ'.set i none) H', rt := fun _ _ => False } (σ.set i (some (.ref a))) H) ∧ (b = false → Wout cls d σ H)
theorem passOn_w {prog : Program} {w : World} {A : Around} {env : Env} {what : String} {a L : Addr} {B : Heap} {l : List Env} {Z : Obj → Prop} {fl : Value} {s : Shared} {Q : Flow → Shared → Prop} {E : Value → Shared → Prop} (hf : env.frame = some L) (h1 : B.StaysIn s.heap) (h2 : s.heap.FunFrames B l) (ht : HandSPX.TracedZ s.heap B a Z fl)
    (h : ∀ h', B.StaysIn h' → h'.FunFrames B l → HandSPX.TracedZ h' B a Z (rawInt L) → s.heap.UpToSlots h' → E (.ref a) { s with heap := h' }) : wpAny (model prog w) A (passOn what (.ref a) env : Sem Flow) Q E s := by
  obtain ⟨oe, vs, T, oT, ts, he, hz, hd, g1, hr⟩ := id ht
  unfold PySem.passOn
  refine wpAny_bind (wpAny_field he hd g1 ?_)
  rw [if_neg (show ¬ ((Value.ref T == Value.none) = true) from by simp)]
  have fin : wpAny (model prog w) A (setFlight (.ref a) env.frame) (fun _ s4 => wpAny (model prog w) A (throw (.ref a) : Sem Flow) Q E s4) E s := by
    rw [hf]
    exact HandSPX.setFlight_anyZ h1 h2 ht fun h' k1 k2 k3 k4 => wpAny_throw (h h' k1 k2 k3 k4)
  first
    | exact wpAny_bind (wpAny_pure (wpAny_bind fin))
    | exact wpAny_bind fin
section
variable {X : Cx} {x n : Str} {c : Value} {i : Nat} {body suite ss : List Stmt} {b₀ : Stmt} {np pos pos' rp : Pos} {tb : WX → TS} {ts : Addr → Value → Option Addr → TS} {Wout : WX}
theorem ps_try_again (hs : X.stack = X.env :: X.outer) (hf : X.env.frame = some X.env.locals) (hex : X.ex = []) (hN : X.N.Nodup) (hi : X.N[i]? = some n) (hln : X.env.kindOf n = some .local) (hc : Names X x c) (tk : Takes X Wout)
    (hw : b₀ :: suite = ss ++ [Stmt.Raise none none rp]) (hb : ∀ (W : WX) (pn : List (Addr × Obj)) (xe : Value → Shared → Prop), Takes (X.tr pn xe) W → PassesOwn (model X.prog X.w) X.A X.env xe → PSs (X.tr pn xe) body (tb W))
    (hsu : ∀ (a : Addr) (oe : Obj) (cls : Value) (d : Option Addr) (pn : List (Addr × Obj)), Zc cls d oe → (∃ vs, oe.data = .fields vs) → PSs (X.suite a ((a, oe) :: pn)) ss (ts a cls d)) :
    PS X (.Try body [.ExceptHandler (some (.Name x np)) (some n) (b₀ :: suite) pos'] [] [] pos) (fun D σ H => tb (wAgain X.K c i ts Wout) D σ H) := by
  refine ⟨fun pins s σ H D I h => ?_⟩
  have ok := I.ok
  have hfr : X.A.frames = some (X.env :: X.outer) := by rw [ok.frames, hs]
  have hloc : L2.Loc X.env.scope n := .inl hln
  have notFr : ∀ {B h : Heap} {a : Addr} {o : Obj} {vs : Array Value}, h.FunFrames B (X.env :: X.outer) → h.get? a = some o → o.data = .fields vs → a ∉ frs (X.env :: X.outer) := fun {B h a o vs} ff e dd hm => by
    obtain ⟨_, o', e', hnf⟩ := ff.mem hm
    rw [e] at e'; cases e'
    exact hnf _ dd
  refine wpAny_Try_except ?_
  refine wpAny_mono ((hb (wAgain X.K c i ts Wout) (X.pn ++ pins) (fun e s₁ => wpAny (model X.prog X.w) X.A (noteFrame e X.env) (fun _ s₂ => wpAny (model X.prog X.w) X.A (setFlight e none) (fun _ s₃ =>
    wpAny (model X.prog X.w) X.A (handleBy e X.env [.ExceptHandler (some (.Name x np)) (some n) (b₀ :: suite) pos']) (SP X pins D) X.xe s₃) X.xe s₂) X.xe s₁) (fun u s' xx => ?_) PassesOwn.looking).run [] s σ H D (I.toTry _) h) (fun f s1 hsp => ?_) (fun e s1 he => he)
  · obtain ⟨a, B, sI, pins', σ', H', cls, d, rfl, J', nb, up, sky, na, os, ag, b, hb1, hyes, hno⟩ := xx
    have J : Inv X pins σ' H' sI := J'.ofTry ok
    have sky' : Sky B (X.env :: X.outer) a (Zc cls d) X.env.locals s'.heap := by rw [← hs]; exact sky
    show wpAny (model X.prog X.w) X.A (noteFrame (.ref a) X.env) _ _ _
    refine Sky.land Zc.steady hfr hf sky' fun h3 fl3 up3 => ?_
    have J3 : Inv X pins σ' H' { s' with heap := h3 } := J.landed nb fl3.1 (up.trans up3) os ag
    obtain ⟨oe3, vs3, he3, hz3, hd3⟩ := fl3.there
    have nfr := notFr fl3.2.2.1 he3 hd3
    have nL : a ≠ X.env.locals := fun z => nfr (List.mem_filterMap.mpr ⟨X.env, List.mem_cons_self, by rw [hf, z]⟩)
    have nF : a ∉ X.fs := fun hm => by
      obtain ⟨e, he, q⟩ := List.mem_filterMap.mp hm
      exact nfr (List.mem_filterMap.mpr ⟨e, List.mem_cons_of_mem _ he, q⟩)
    have S3 := J3.suite he3 hd3 na nL nF
    refine wpAny_handleBy_cons (codeAny_handlers_test ?_) (by intro q; cases q)
    have LT : PySem.W.Looks (model X.prog X.w) h3 (typeOf (.ref a)) cls := fun A Q E s k q => wpAny_typeOf_ref (k _ _ he3) (by rw [hz3.1]; exact q)
    have LM := PySem.W.exm_one (M := model X.prog X.w) (J3.kIn) LT hb1
    have test : ∀ {Q : Value → Shared → Prop} {E : Value → Shared → Prop}, Q c { s' with heap := h3 } → wpAny (model X.prog X.w) (X.A.mark (some (.ref a))) (eval (.Name x np) X.env) Q E { s' with heap := h3 } := fun {Q E} q => by
      obtain ⟨hg, hdbg, hm | ⟨hm, hv, hnn⟩⟩ := hc
      · exact ld_glob (X := X.suite a ((a, oe3) :: (X.pn ++ pins))) S3 hg hm q hdbg
      · exact ld_blt (X := X.suite a ((a, oe3) :: (X.pn ++ pins))) S3 hg hm hv q hnn hdbg
    refine test (LM.here ?_)
    cases b with
    | true =>
      refine codeAny_handlers_suite_as ?_
      refine HandSPX.lands_againZ fl3 fun h4 fl4 up4 => ?_
      have J4 : Inv X pins σ' H' { s' with heap := h4 } := J.landed nb fl4.1 ((up.trans up3).trans up4) os ag
      obtain ⟨k1, k2, k3, oe4, vs4, T, oT, ts4, he4, hz4, hd4, h14, hnT, hTe, hT, hdT, h34⟩ := id fl4
      have nfT := notFr k3 hT hdT
      have nTL : T ≠ X.env.locals := fun z => nfT (List.mem_filterMap.mpr ⟨X.env, List.mem_cons_self, by rw [hf, z]⟩)
      have nTF : T ∉ X.fs := fun hm => by
        obtain ⟨e, he, q⟩ := List.mem_filterMap.mp hm
        exact nfT (List.mem_filterMap.mpr ⟨e, List.mem_cons_of_mem _ he, q⟩)
      have gone : ∀ b, B.get? b = none → b ∉ frs (X.env :: X.outer) → sI.heap.get? b = none := fun b hb hn => by
        cases e : sI.heap.get? b with
        | none => rfl
        | some o =>
          rw [← hs] at hn
          rw [nb b o e hn] at hb
          cases hb
      have g0 : ∀ b, sI.heap.get? b = none → X.s_0.heap.get? b = none := fun b hb => by
        cases e : X.s_0.heap.get? b with
        | none => rfl
        | some o =>
          obtain ⟨o', e'⟩ := J.base.there b o e (by rw [hex]; simp)
          rw [hb] at e'
          cases e'
      have a0 := gone a k2 nfr
      have T0 := gone T hnT nfT
      have HT := J.hok.gone T0
      have S4 := (J4.suite he4 hd4 na nL nF).pins_of (pins' := [(T, oT)]) fun p hp => by
        rw [List.mem_singleton.mp hp]
        exact ⟨hT, HT, nTL, nTF, fun v z => by rw [hdT] at z; cases z⟩
      refine store_ok (X := X.suite a ((a, oe4) :: (X.pn ++ pins))) (v := .ref a) S4 hN hi hloc rfl (fun s5 S5 => ?_) (.inr hln)
      rw [hw]
      refine execs_app _ _ ?_
      refine wpAny_mono ((hsu a oe4 cls d (X.pn ++ pins) hz4 ⟨_, hd4⟩).run [(T, oT)] s5 _ H' _ S5 (hyes rfl a na)) (fun f s6 hsp => ?_) (fun _ _ z => False.elim z)
      cases f with
      | brk => obtain ⟨σ6, H6, S6, q6⟩ := hsp; exact q6.elim
      | cont => obtain ⟨σ6, H6, S6, q6⟩ := hsp; exact q6.elim
      | ret u => obtain ⟨v6, σ6, H6, S6, r6, q6⟩ := hsp; exact q6.elim
      | next =>
        obtain ⟨σ6, H6, S6, q6⟩ := hsp
        have c6 : Caught X pins σ6 H6 a (Zc cls d) .none s6 := ⟨oe4, vs4, T, oT, ts4, hz4, hd4, h14, hTe, hdT, h34, inv_unsuite2 S6 ok, g0 a a0, g0 T T0, fun p hp => by
          have zp := (J.pin p hp).1
          exact ⟨fun e => (by rw [e, a0] at zp; cases zp), fun e => (by rw [e, T0] at zp; cases zp)⟩⟩
        have nn : ∀ T : Addr, ¬ ((Value.ref T == Value.none) = true) := fun T => by simp
        refine wpAny_execs_cons (wpAny_Raise_bare ?_)
        unfold raiseBare raiseStmt
        refine wpAny_bind (wpAny_handled ?_)
        refine wpAny_bind (wpAny_rule ?_)
        refine wpAny_bind (c6.air.field fun T6 => ?_)
        rw [if_neg (nn T6)]
        have fin : ∀ {Q : Flow → Shared → Prop} {E : Value → Shared → Prop}, (∀ h7, Air X pins σ6 H6 a (Zc cls d) (rawInt X.env.locals) { s6 with heap := h7 } → E (.ref a) { s6 with heap := h7 }) → wpAny (model X.prog X.w) (X.A.mark (some (.ref a))) (setFlight (.ref a) X.env.frame) (fun _ s4 => wpAny (model X.prog X.w) (X.A.mark (some (.ref a))) (throw (.ref a) : Sem Flow) Q E s4) E s6 := fun {Q E} k => by
          rw [hf]
          exact c6.air.flies (fr := some X.env.locals) fun h7 c7 => wpAny_throw (k h7 c7)
        first
          | refine wpAny_bind (wpAny_pure (wpAny_bind (fin fun h7 c7 => ?_)))
          | refine wpAny_bind (fin fun h7 c7 => ?_)
        refine c7.noted hf ?_
        obtain ⟨oe7, vs7, T7, oT7, ts7, hz7, hd7, h17, hne7, hdT7, h37, I7, a07, T07, hp7⟩ := c7.caught hs hf hex
        refine gone_ok I7 hN hi hln fun s8 I8 => ?_
        have c8 : Caught X pins (σ6.set i none) H6 a (Zc cls d) (rawInt X.env.locals) s8 := ⟨oe7, vs7, T7, oT7, ts7, hz7, hd7, h17, hne7, hdT7, h37, I8, a07, T07, hp7⟩
        obtain ⟨B8, sI8, J8, nb8, up8, m1, m2, m3, m4, na8, os8, ag8⟩ := c8.air
        refine passOn_w hf m1 m3 m4 fun h9 p1 p2 p3 p4 => ?_
        have c9 : Air X pins (σ6.set i none) H6 a (Zc cls d) (rawInt X.env.locals) { s8 with heap := h9 } := ⟨B8, sI8, J8, nb8, up8.trans p4, p1, m2, p2, p3, na8, os8, ag8⟩
        refine c9.noted hf ?_
        show cameBackBy _ X.A X.env X.xe (.ref a) _
        unfold cameBackBy
        refine wpAny_bind (c9.field fun T9 => ?_)
        rw [if_neg (nn T9)]
        have last : wpAny (model X.prog X.w) X.A (setFlight (.ref a) X.env.frame) (fun _ s'' => X.xe (.ref a) s'') X.xe { s8 with heap := h9 } := by
          rw [hf]
          exact c9.flies (fr := some X.env.locals) fun h10 c10 => tk _ _ (c10.xe q6)
        first
          | exact wpAny_bind (wpAny_pure last)
          | exact last
    | false =>
      show wpAny _ X.A (handleBy (.ref a) X.env []) _ _ _
      refine wpAny_handleBy_nil ?_
      refine passOn_w hf fl3.1 fl3.2.2.1 fl3.2.2.2 fun h4 m1 m2 m3 m4 => tk _ _ ?_
      exact ⟨a, B, sI, pins, σ', H', cls, d, rfl, J, nb, (up.trans up3).trans m4, .inr (.inr (by rw [hs]; exact ⟨m1, fl3.2.1, m2, m3⟩)), na, os, ag, hno rfl⟩
  · cases f with
    | next => obtain ⟨σ', H', J', q⟩ := hsp; exact wpAny_execs_nil ⟨σ', H', J'.ofTry ok, q⟩
    | brk => obtain ⟨σ', H', J', q⟩ := hsp; exact ⟨σ', H', J'.ofTry ok, q⟩
    | cont => obtain ⟨σ', H', J', q⟩ := hsp; exact ⟨σ', H', J'.ofTry ok, q⟩
    | ret u => obtain ⟨v, σ', H', J', r, q⟩ := hsp; exact ⟨v, σ', H', J'.ofTry ok, r, q⟩
end
end Cod

/-! # a method of the exception that a suite holds -/
namespace PySem
namespace OEY
open PySem.W PySem.Calls PyProof.Rows PySem.HandSPX
section
open Builtin Builtin.ObjectAttr
variable {prog : Program} {w : World} {A : Around} {E : Value → Shared → Prop} {R : Result → Shared → Prop} {hp : Heap} {g : Array GenState} {d : Drawn} {t : Nat} {os : OsState}
/-- a field of an exception that has its dict, whatever its slots are -/
theorem osa_any {K : W.Frag} {name : Str} {tk : Tok} {v : Value} {x C dx : Addr} {fv : Array Value} {sl : Array (Option Value)} {cd : ClassData} {m0 : Str → Option Value} {nl : List Str}
    (X : K.In hp) (hx : hp.get? x = some { cls := .ref C, dict := some dx, data := .fields fv, slots := sl }) (hns : hp.Ns1 dx m0) (hw : Within m0 nl) (hz : nl.length ≤ 1000) (hcd : W.clsIn K C = some cd) (hm : refsVE cd.mro = true) (hh : cd.hasDict = true)
    (ha : W.findIn K (.ref C) name = some none)
    (hq : ∀ h' tk', (∀ b o, b ≠ dx → hp.get? b = some o → h'.get? b = some o) → h'.Ns1 dx (fun y => if y = name then some v else m0 y) → R (.ok (.ret .none)) ⟨h', g, d, tk', os⟩) :
    codeAny (model prog w) A (.call (.builtin "object.__setattr__") ⟨[.ref x, .str name tk, v], []⟩) R ⟨hp, g, d, t, os⟩ := by
  obtain ⟨oD, esD, epD, hoD, hdD, _⟩ := hns.count hw
  have I : W.InstAt hp x { cls := .ref C, dict := some dx, data := .fields fv, slots := sl } C (some oD) := ⟨hx, rfl, rfl, hoD⟩
  have SF := F.store_object
  have ne := refsVE_ne hm
  have hob : cd.mro.contains (.type "object") = true := (refsVE_contains "object" _ hm).trans (by decide +kernel)
  have sub : W.Looks (model prog w) hp (isInstance (.ref x) (.type "object")) true := I.type.andThen (W.looks_mroIn X (by unfold W.mroIn; rw [hcd, Option.bind_some, if_neg (by rw [ne]; decide), hob]))
  refine codeAny_call_builtin SF.slot.plain SF.entry (@W.check_slot (model prog w) _ _ ⟨hp, g, d, t, os⟩ "object.__setattr__" "object" "__setattr__" (.ref x) [.str name tk, v] [] _ SF.kind SF.split sub (SF.args (.ref x) (.str name tk) v) ?_)
  have hmr : W.Looks (model prog w) hp (mroOf (.ref C)) cd.mro := (W.looks_clsIn X hcd).andThen .now
  have L3 : W.Looks (model prog w) hp (storeTaker? none) none := .now
  have hcls : W.Looks (model prog w) hp (classData C) cd := W.looks_clsIn X hcd
  rw [W.osa_eq, refuse_eq]
  refine wpAny_bind (wpAny_bind (I.type.at (wpAny_bind (hmr.at ?_))))
  rw [refsVE_pass _ _ hm]
  refine wpAny_pure (wpAny_bind (I.type.at (wpAny_bind ((W.looks_findIn X ha).at (wpAny_bind (L3.at ?_))))))
  show wpAny _ _ (storeInOwnDict (.ref x) (.ref C) (.str name tk) name v false) _ _ _
  obtain ⟨nm, bs, mro, ns, qn, hd, sn, sb, ab, col, del⟩ := cd
  dsimp only at hh
  subst hh
  unfold storeInOwnDict ownDictForStores
  repeat (first | with_reducible refine OEX.store_in_old hns hw hz ?_ | with_reducible refine wpAny_loadPart_at hx ?_ | with_reducible refine hcls.at ?_ | wp_step)
  intro h' tk' hn' hs
  exact hq h' tk' (fun b o hb ho => (hs.2 b hb).trans ho) hn'
end
/-- a method of an exception, as a method form asks for it -/
theorem exc_method {prog : Program} {w : World} {A : Around} {E : Value → Shared → Prop} {s : Shared} {K : Frag} {x C f : Addr} {ox : Obj} {od : Option Obj} {name : Str} {pl : Sem Bool} {Q : Value × List Value → Shared → Prop} (X : K.In s.heap) (I : PySem.W.InstAt s.heap x ox C od) (hga : findIn K (.ref C) "__getattribute__" = some (some (.builtin "BaseException.__getattribute__"))) (hk : findIn K (.ref C) "__getattr__" = some none)
    (hf : findIn K (.ref C) name = some (some (.ref f))) (ht : typeIn K (.ref f) = some (.type "function")) (hs : shadowIn od name = some false) (h : Q (.ref f, [.ref x]) s) : wpAny (model prog w) A (getMethod (.ref x) name pl) Q E s := by
  have hc : (Manifest.canonical "BaseException.__getattribute__" != "object.__getattribute__") = false := by decide +kernel
  unfold getMethod specialOf
  refine wpAny_bind (wpAny_bind (I.type.here ((looks_findIn X hga).here ?_)))
  dsimp only
  rw [hc, if_neg (by decide)]
  refine wpAny_bind (wpAny_bind (I.type.here ((looks_findIn X hk).here ?_)))
  refine wpAny_bind (wpAny_bind (I.type.here ((looks_findIn X hf).here (wpAny_bind ((looks_typeIn X ht).here ?_)))))
  rw [if_neg (by decide +kernel)]
  refine wpAny_bind (wpAny_loadPart I.at_ ?_)
  have hd := I.dict
  cases e : ox.dict with
  | none => exact wpAny_bind (wpAny_rule (wpAny_pure h))
  | some dx =>
    cases od with
    | none => rw [e] at hd; exact hd.elim
    | some o =>
      rw [e] at hd
      obtain ⟨r, a, b⟩ := Option.map_eq_some_iff.mp hs
      refine wpAny_bind (wpAny_bind (wpAny_loadPart hd ?_))
      rw [nsLook_of a]
      refine wpAny_pure ?_
      rw [b]
      exact wpAny_bind (wpAny_rule (wpAny_pure h))
end OEY
end PySem
namespace Cod
open PySem L2 PySem.Spec PyProof.Rows
/-! ### what such a def promises: the exception is pinned while it runs -/
structure FnM (P : Program) (w : World) (K : PySem.W.Frag) (mg : Str → Option Value) (base : Heap) (CX : CXT) (k : Nat) (f : Addr) (fd : FuncData) (ps : List Str) (sp : Addr × Obj → Sp) : Prop where
  run : ∀ (A : Around) (outer : List Env) (s : Shared) (H : Hp) (args : Args) (us : List Value) (vs : List V) (Q : VK) (E : XK) (p : Addr × Obj), L2H.RoomH k A → L2H.PinOk outer H s p → Env0 P w K mg base A outer s H → BindsTo s fd args (ps.zip us) → Vals vs us → vs.length = ps.length → sp p vs H Q E →
    codeAny (model P w) A (.call (.ref f) args) (CR CX outer P w H s Q E) s
theorem fn_ofM {CX : CXT} {P : Program} {w : World} {K : PySem.W.Frag} {mg : Str → Option Value} {base : Heap} {k : Nat} {f : Addr} {name qual : Str} {params : Arguments} {body : List Stmt} {scope : Scope} {dV kV doc pm cdv ct oc : Value} {an od : Option Addr}
    {osl : Array (Option Value)} {N ps : List Str} {sp : Addr × Obj → Sp} (lk : K.lookup f = some ⟨oc, od, .func (PySem.W.fnOf name qual params body scope dV kV doc pm an cdv ct), osl⟩) (hcd : PySem.W.codeIn K cdv qual = true) (S : FnScope N ps scope)
    (hbody : ∀ (A : Around) (outer : List Env) (s : Shared) (H : Hp) (vs : List V) (Q : VK) (E : XK) (p : Addr × Obj), L2H.RoomH k (A.deeper (envOfC qual scope s.heap.objs.size f cdv)) → vs.length = ps.length → sp p vs H Q E →
      ∃ t, PSs (L2H.cxH CX P w K mg base N qual scope f cdv A outer s H E p) body t ∧ t { nx := fun _ H' => Q .non H', rt := Q } (L2.start N vs) H) :
    FnM P w K mg base CX (k + 1) f (PySem.W.fnOf name qual params body scope dV kV doc pm an cdv ct) ps sp := by
  refine ⟨fun A outer s H args us vs Q E p hr hpin e0 hb r hl hsp => ?_⟩
  have KX : K.In s.heap := e0.mod.kin.keeps fun b o e => (e0.bs b o e).1
  have lim : s.heap.NoLimit := e0.mod.nolimit.keeps fun b o e => (e0.bs b o e).1
  have hkind : ∀ y ∈ ps.zip us, scope.names.lookup y.1 = some .local ∨ (scope.names.lookup y.1 = some .cell ∧ ((cellsFrom (s.heap.objs.size + 1) scope.names []).lookup y.1).isSome = true) := fun ⟨n, v⟩ hy => by
    rcases S.par n (List.of_mem_zip hy).1 with q | q
    · exact .inl q
    · exact .inr ⟨q, PySem.W.cellsFrom_some _ _ _ (.inl q)⟩
  refine codeAny_call_function hr.depth (KX _ _ lk) rfl S.co S.gen rfl (PySem.W.codeRec_of KX hcd) (hb _ _ _ _ ?_)
  refine wpAny_newFunctionEnv_cells S.kind hkind fun env he s1 x => ?_
  subst he
  refine ⟨lim.keeps x.toInCall.keep, codeAny_func ?_⟩
  obtain ⟨t, ht, hq⟩ := hbody A outer s H vs Q E p (hr.deeper _) hl hsp
  have I : Inv (L2H.cxH CX P w K mg base N qual scope f cdv A outer s H E p) [] (L2.start N vs) H s1 := L2H.inv_startH S hpin e0 hl r x
  refine wpAny_mono (ht.run [] s1 (L2.start N vs) H _ I hq) (fun fl s' hs => ?_) fun e s' hs => hs
  have fin : ∀ {σ' : L2.St} {H' : Hp} {v : V} {u : Value}, Inv (L2H.cxH CX P w K mg base N qual scope f cdv A outer s H E p) [] σ' H' s' → RelV v u → Q v H' → L2.CE outer P w H s Q u s' :=
    fun {σ' H' v u} J rv q => ⟨v, H', J.os, J.bare, J.base, J.hok, rv, q⟩
  cases fl with
  | ret u =>
    obtain ⟨v, σ', H', J, rv, q⟩ := hs
    exact fin J rv q
  | next =>
    obtain ⟨σ', H', J, q⟩ := hs
    exact fin (v := V.non) (u := Value.none) J rfl q
  | brk =>
    obtain ⟨_, _, _, q⟩ := hs
    exact False.elim q
  | cont =>
    obtain ⟨_, _, _, q⟩ := hs
    exact False.elim q
/-! ### the exception's fields are read and set -/
section
variable {X : Cx} {a C dd : Addr} {oe : Obj} {cls : Value} {d : Option Addr} {pins : List (Addr × Obj)} {σ : L2.St} {H : Hp} {s : Shared} {fs gs : List (Str × V)} {h' : Heap} {t' : Nat}
theorem pe_xfP {e : Expr} {te : TE} {pos : Pos} {n : Str} (hp : (a, oe) ∈ X.pn) (T : XfC X.K C) (hno : PySem.W.findIn X.K (.ref C) n = some none) (hz : Zc cls d oe) (hf : ∃ vs, oe.data = .fields vs) (he : PE X e te) (hb : attributeBase e n X.env (eval e X.env) = eval e X.env := by rfl) :
    PE X (.Attribute e n pos) (tXf a cls d C n te) := by
  refine ⟨fun pins s σ H Q I h => ?_⟩
  refine attr_of hb (thn (he.run pins s σ H _ I h) fun u s1 hh => ?_)
  obtain ⟨x, H1, I1, rx, ex, ec, dd, fs, v, ed, ea, l, q⟩ := hh
  subst ex
  obtain rfl : u = Value.ref a := rx
  subst ec
  subst ed
  obtain ⟨ha, _⟩ := I1.pin (a, oe) (List.mem_append_left _ hp)
  obtain ⟨vs, hd⟩ := hf
  have hx : ObjOk X.prog X.w H1 s1.heap dd (.xd fs) := I1.hok dd _ ea
  obtain ⟨mA, hns, hr⟩ := hx
  obtain ⟨od, ho, hl⟩ := lookIn_ns hns
  obtain ⟨u, hu, ru⟩ := RelO.some_of (v := v) (o := mA n) (by rw [← l]; exact hr n)
  have J : PySem.W.InstAt s1.heap a oe C (some od) := ⟨ha, hz.1, by unfold PySem.W.notCls; rw [hd] <;> rfl, by rw [hz.2]; exact ho⟩
  exact HandSPX.exc_get I1.kIn J T.ga T.gg T.exC (PySem.W.findObj_own T.hdC hno rfl (by rw [hl, hu])) (handed_of ru) ⟨v, H1, I1.tok _, ru, q⟩
theorem inv_xd (I : Inv X pins σ H s) (e : H dd = some (.xd fs)) (k : ∀ b u, b ≠ dd → s.heap.get? b = some u → h'.get? b = some u) (hd : ∃ u, h'.get? dd = some u) (new : ObjOk X.prog X.w (upd H dd (.xd gs)) h' dd (.xd gs)) : Inv X pins σ (upd H dd (.xd gs)) { s with heap := h', toks := t' } := by
  have hn : ∀ {b : Addr}, H b = none → b ≠ dd := fun n z => by rw [z, e] at n; cases n
  refine I.un ⟨fun b u q n _ _ => k b u (hn n) q, fun b u q n _ _ => ⟨u.slots, k b u (hn n) q⟩, fun b u q n _ => by rw [upd_ne (hn n)]; exact n, fun b u q _ => ?_,
    fun b xs q => by rw [upd_ne fun z => by rw [z, e] at q; cases q]; exact q, fun b u xs q => by rw [upd_ne fun z => by rw [z, e] at q; cases q]; exact q, fun b ps q => ⟨#[], by rw [upd_ne (fun z => by rw [z, e] at q; cases q), q]; simp⟩⟩ fun b ob q => ?_
  · by_cases hb : b = dd
    · rw [hb]; exact hd
    · exact ⟨u, k b u hb q⟩
  · by_cases hb : b = dd
    · subst hb
      rw [upd_same] at q
      cases q
      exact new
    · rw [upd_ne hb] at q
      refine (I.hok b ob q).stay (fun c w hc z => k c w ?_ z) (fun c hc => ?_) fun c xs hc => ?_
      · rcases hc with hc | hc
        · rw [hc]; exact hb
        · intro z; rw [z, e] at hc; cases hc
      · rw [upd_ne fun z => by rw [z, e] at hc; cases hc]; exact hc
      · rw [upd_ne fun z => by rw [z, e] at hc; cases hc]; exact hc
theorem ost_xd {f : Str} {y : V} {u : Value} {A : Around} {Q : Unit → Shared → Prop} {E : Value → Shared → Prop} (T : OexC X.K C) (I : Inv X pins σ H s) (hp : (a, oe) ∈ X.pn) (hz : Zc (.ref C) (some dd) oe) (hf : ∃ vs, oe.data = .fields vs) (ed : H dd = some (.xd fs)) (hl : fs.length ≤ 900) (hno : PySem.W.findIn X.K (.ref C) f = some none) (ry : RelV y u)
    (h : ∀ s', Inv X pins σ (upd H dd (.xd ((f, y) :: fs))) s' → Q () s') : wpAny (model X.prog X.w) A (setAttr (.ref a) f u) Q E s := by
  obtain ⟨nm, q, N, bs, bm, sn, sub, ab, col, dd0, k0, k1, k2, k3, k5, hC, hbm⟩ := T.cls
  have hcl : PySem.W.clsIn X.K C = some { name := nm, bases := bs, mro := .ref C :: bm, ns := N, qualname := q, hasDict := true, slotNames := sn, subclasses := sub, abstract := ab, collection := col, hasDel := false } := by unfold PySem.W.clsIn; rw [hC] <;> rfl
  obtain ⟨ha, _⟩ := I.pin (a, oe) (List.mem_append_left _ hp)
  obtain ⟨vs, hd⟩ := hf
  obtain ⟨z1, z2⟩ := hz
  obtain ⟨c0, d0, dt0, sl0⟩ := oe
  dsimp only at z1 z2 hd
  subst z1 z2 hd
  have hx : ObjOk X.prog X.w H s.heap dd (.xd fs) := I.hok dd _ ed
  obtain ⟨mA, hns, rel⟩ := hx
  have hw := within_of rel
  obtain ⟨hp', g, d, t, os⟩ := s
  obtain ⟨oD, _, _, hoD, _, _⟩ := hns.count hw
  refine PySem.W.set_plain I.kIn (ox := { cls := .ref C, dict := some dd, data := .fields vs, slots := sl0 }) (od := some oD) ⟨ha, rfl, rfl, hoD⟩ T.sa ?_
  refine PySem.OEY.osa_any I.kIn ha hns hw (by rw [List.length_map]; omega) hcl (show PySem.HandSPX.refsVE (.ref C :: bm) = true from hbm) rfl hno (fun h' tk' k hn => ?_)
  have hd' : ∃ o, h'.get? dd = some o := by
    obtain ⟨o, _, _, e', _⟩ := hn
    exact ⟨o, e'⟩
  exact h _ (inv_xd I ed (t' := tk') k hd' ⟨_, hn, relO_put ry rel⟩)
/-- self.f = e -/
noncomputable def tOsx (a dd : Addr) (f : Str) (to te : TE) : TS := fun D σ H => te σ H fun y H1 => to σ H1 fun x H2 => x = .ref a ∧ ∃ fs : List (Str × V), H2 dd = some (.xd fs) ∧ fs.length ≤ 900 ∧ D.nx σ (upd H2 dd (.xd ((f, y) :: fs)))
theorem ps_osx {o e : Expr} {f : Str} {to te : TE} {p' pos : Pos} (hp : (a, oe) ∈ X.pn) (T : OexC X.K C) (hz : Zc (.ref C) (some dd) oe) (hf : ∃ vs, oe.data = .fields vs) (hno : PySem.W.findIn X.K (.ref C) f = some none) (ho : PE X o to) (he : PE X e te) (hs : swapsWith e (some (.Attribute o f p')) pos.line X.env = pure false) :
    PS X (.Assign [.Attribute o f p'] e pos) (tOsx a dd f to te) := by
  refine ⟨fun pins s σ H D I h => ?_⟩
  refine plainObj_wpAny_Assign_Attribute (thn (he.run pins s σ H _ I h) fun v s1 ⟨y, H1, I1, r1, q1⟩ => thn (ho.run pins s1 σ H1 _ I1 q1) fun u s2 ⟨x, H2, I2, r2, ex, fs, ed, hl, q⟩ => ?_) hs
  subst ex
  obtain rfl : u = Value.ref a := r2
  exact ost_xd T I2 hp hz hf ed hl hno r1 fun s' J => ⟨σ, _, J, q⟩
/-! ### the call -/
structure XMeth (K : PySem.W.Frag) (C : Addr) (m : Str) (f : Addr) : Prop where
  at_ : PySem.W.findIn K (.ref C) m = some (some (.ref f))
  ty : PySem.W.typeIn K (.ref f) = some (.type "function")
  kp : PySem.W.keepIn K (.ref f) = true
end
/-! ### if self.F == c: self.F1 = .., .. -/
structure MkI where
  n : Nat
  F : Str
  c : Str
  asg : List (Str × Src)
noncomputable def markD (k : MkI) (ds : List D) (fs : List (Str × D)) : Option (List (Str × D)) := match fs.lookup k.F with
  | some (.str x) => if x = k.c then fldD ds k.asg fs else some fs
  | _ => none
noncomputable def markV (k : MkI) (vs : List V) (fs : List (Str × V)) : Option (List (Str × V)) := match fs.lookup k.F with
  | some (.str x) => if x = k.c then fldV vs k.asg fs else some fs
  | _ => none
noncomputable def spK (k : MkI) (C : Addr) : Addr × Obj → Sp := fun p vs H Q _ => vs.length = k.n + 1 ∧ ∃ dd ws fs gs, p.2.cls = .ref C ∧ p.2.dict = some dd ∧ (∃ fv, p.2.data = .fields fv) ∧ vs = .ref p.1 :: ws ∧ H dd = some (.xd fs) ∧ fs.length + k.asg.length ≤ 900 ∧ markV k ws fs = some gs ∧ Q .non (upd H dd (.xd gs))
noncomputable def tAsgx (a dd : Addr) : List (Str × Src) → TS
  | [] => tNext
  | (f, s) :: r => tSeq (tOsx a dd f (tVar 0) (tSrc s)) (tAsgx a dd r)
theorem pss_asgx {X : Cx} {sf : Str} {a C dd : Addr} {oe : Obj} (hp : (a, oe) ∈ X.pn) (T : OexC X.K C) (hz : Zc (.ref C) (some dd) oe) (hf : ∃ vs, oe.data = .fields vs) (XI : XIn X sf) : ∀ {rs : List Stmt} {fs : List (Str × Src)}, asgE X.N sf rs = some fs → (∀ p ∈ fs, PySem.W.findIn X.K (.ref C) p.1 = some none) → PSs X rs (tAsgx a dd fs)
  | [], fs, h, _ => by cases h; exact pss_nil
  | st :: r, fs, h, hno => by
    unfold asgE at h
    split at h
    · rename_i h0; cases h0
    · rename_i x p1 f p2 e p3 r' h0
      cases h0
      split at h
      · rename_i hx
        subst hx
        split at h
        · rename_i s fs' hs hr
          cases h
          have hm := List.mem_of_getElem? XI.at0
          exact pss_cons (ps_osx hp T hz hf (hno (f, s) (by simp)) (pe_var XI.at0 (.inl (XI.loc _ hm)) (XI.pl _ hm).1 (XI.pl _ hm).2) (pe_src XI hs) (swaps_src hs)) (pss_asgx hp T hz hf XI hr fun p hp => hno p (by simp [hp]))
        · cases h
      · cases h
    · cases h
theorem asgx_all {a dd : Addr} {N : List Str} {ws : List V} {E : Ends} : ∀ {fs : List (Str × Src)} {acc gs : List (Str × V)} {H : Hp}, H dd = some (.xd acc) → acc.length + fs.length ≤ 900 → fldV ws fs acc = some gs → E.nx (L2.start N (.ref a :: ws)) (upd H dd (.xd gs)) → tAsgx a dd fs E (L2.start N (.ref a :: ws)) H
  | [], acc, gs, H, hd, hl, e, q => by
    cases e
    have : upd H dd (.xd acc) = H := by
      funext b
      by_cases hb : b = dd
      · rw [hb, upd_same, hd]
      · rw [upd_ne hb]
    rw [this] at q
    exact q
  | (f, s) :: r, acc, gs, H, hd, hl, e, q => by
    unfold fldV at e
    split at e
    · rename_i y hy
      refine tSrc_ok (n := 0) hy ?_
      refine ⟨.ref a, rfl, rfl, acc, hd, by simp at hl; omega, ?_⟩
      refine asgx_all upd_same (by simp at hl ⊢; omega) e ?_
      rw [upd_upd]
      exact q
    · cases e
theorem xmark {P : Program} {w : World} {K : PySem.W.Frag} {mg : Str → Option Value} {base : Heap} {C f : Addr} {sf name qual F c : Str} {params : Arguments} {rest : List Stmt} {scope : Scope} {dV kV doc pm cdv ct oc : Value} {an od : Option Addr} {osl : Array (Option Value)} {ps : List Str} {n : Nat} {p0 p1 p2 p3 p4 : Pos} {j : Nat} {asg : List (Str × Src)}
    (lk : K.lookup f = some ⟨oc, od, .func (PySem.W.fnOf name qual params [.If (.Compare (.Attribute (.Name sf p0) F p1) [.Eq] [.Constant (.str c) j p2] p3) rest [] p4] scope dV kV doc pm an cdv ct), osl⟩) (hcd : PySem.W.codeIn K cdv qual = true) (S : FnScope ps ps scope) (hsc : ∀ x ∈ ps, scope.names.lookup x = some .local)
    (h0 : ps[0]? = some sf) (hn : ps.length = n + 1) (hpl : ∀ x ∈ ps, (x == ("__debug__" : Str)) = false ∧ (x == ("__classdict__" : Str)) = false) (T : OexC K C) (Tx : XfC K C) (hr : asgE ps sf rest = some asg) (hno : ∀ p ∈ asg, PySem.W.findIn K (.ref C) p.1 = some none) (hnF : PySem.W.findIn K (.ref C) F = some none) :
    FnM P w K mg base (L2.CX P w) 1 f (PySem.W.fnOf name qual params [.If (.Compare (.Attribute (.Name sf p0) F p1) [.Eq] [.Constant (.str c) j p2] p3) rest [] p4] scope dV kV doc pm an cdv ct) ps (spK ⟨n, F, c, asg⟩ C) := by
  refine fn_ofM (k := 0) lk hcd S fun A outer s H vs Q E p _ hl hsp => ?_
  obtain ⟨hlen, dd, ws, fs, gs, h1, h2, h3, rfl, hd, hle, hm, q⟩ := hsp
  have XI : XIn (L2H.cxH (L2.CX P w) P w K mg base ps qual scope f cdv A outer s H E p) sf := ⟨h0, fun x hx => hsc x hx, hpl⟩
  have hpn : (p.1, p.2) ∈ (L2H.cxH (L2.CX P w) P w K mg base ps qual scope f cdv A outer s H E p).pn := List.mem_singleton.mpr rfl
  have hz : Zc (.ref C) (some dd) p.2 := ⟨h1, h2⟩
  have hmm := List.mem_of_getElem? h0
  have hb : ∀ X : Cx, attributeBase (.Name sf p0) F X.env (eval (.Name sf p0) X.env) = eval (.Name sf p0) X.env := fun X => rfl
  refine ⟨_, pss_cons (ps_if (pt_cmpR op_eq (pe_xfP hpn Tx hnF hz h3 (pe_var XI.at0 (.inl (XI.loc _ hmm)) (XI.pl _ hmm).1 (XI.pl _ hmm).2) (hb _)) pe_str rfl) (pss_asgx hpn T hz h3 XI hr hno) pss_nil) pss_nil, ?_⟩
  have hs0 : (L2.start ps (.ref p.1 :: ws))[0]? = some (some (.ref p.1)) := rfl
  unfold markV at hm
  split at hm
  · rename_i x hx
    refine ⟨.ref p.1, hs0, rfl, rfl, dd, fs, .str x, rfl, hd, hx, rfl, _, rfl, ?_⟩
    show (if decide (V.str x = V.str c) = true then _ else _)
    by_cases hxc : x = c
    · rw [if_pos hxc] at hm
      rw [if_pos (by simp [hxc])]
      exact asgx_all hd hle hm q
    · rw [if_neg hxc] at hm
      cases hm
      rw [if_neg (by simp [hxc])]
      have : upd H dd (.xd fs) = H := by
        funext b
        by_cases hb : b = dd
        · rw [hb, upd_same, hd]
        · rw [upd_ne hb]
      rw [this] at q
      exact q
  · cases hm
end Cod

/-! # list.pop(i), tuple.index(text), xs[::-1] -/
namespace Cod
open PySem L2 PySem.Spec PyProof.Rows
section
variable {X : Cx} {L : Lk} {W : WX} {A : List Addr} {H : Hp}
theorem RDs.erase : ∀ {ds : List D} {vs : List V} (n : Nat), RDs L A H ds vs → RDs L A H (ds.eraseIdx n) (vs.eraseIdx n)
  | _, _, 0, .nil => .nil
  | _, _, _ + 1, .nil => .nil
  | _, _, 0, .cons _ q => q
  | _, _, n + 1, .cons p q => .cons p (RDs.erase n q)
noncomputable def popAtD (d : D) (ds : List D) (h : AH) : R D := match d, ds with
  | .loc n, [.int i] => match h[n]? with
    | some (.lst xs) => if (decide (0 ≤ i) && decide (i < 1000000)) = true then (match xs[i.toNat]? with
      | some y => .ok y (h.set n (.lst (xs.eraseIdx i.toNat)))
      | none => .no) else .no
    | _ => .no
  | _, _ => .no
theorem mt_popAtS : MtS X L W "list" "list.pop" popAtD := by
  refine ⟨_, mt_popAt, fun σ A h H x d xs ds Q rh rd r p => ?_⟩
  unfold popAtD at p
  split at p
  · rename_i n i
    cases rd with
    | @loc _ a ea =>
      cases r with
      | cons r1 r2 =>
        cases r2
        cases r1
        split at p
        · rename_i zs e0
          obtain ⟨vs, g1, rr⟩ := rh.get _ a _ ea e0
          split at p
          · rename_i hi
            simp only [Bool.and_eq_true, decide_eq_true_eq] at hi
            split at p
            · rename_i y ey
              obtain ⟨v, ev, rv⟩ := rr.get ey
              have hlt := (List.getElem?_eq_some_iff.mp ev).1
              refine ⟨a, vs, i, i.toNat, v, rfl, rfl, g1, by omega, by omega, ?_, ev, Po.putLst rh ea e0 g1 p (rr.erase _) rv⟩
              unfold seqIndex?
              simp only
              rw [if_neg (show ¬ i < 0 by omega), if_pos (by simp; omega)]
            · exact p.elim
          · exact p.elim
        · exact p.elim
  · exact p.elim
theorem mt_dpop2 : MtR X "dict.pop" (fun x xs H Q => ∃ a kvs k z, x = .ref a ∧ xs = [kV k, z] ∧ H a = some (.dK kvs) ∧ (∀ v, valV kvs k = some v → Q v (upd H a (.dK (dropK kvs k)))) ∧ (valV kvs k = none → Q z H)) := by
  intro pins s σ H x xs v us Q I rx rs h
  obtain ⟨a, kvs, k, z, rfl, rfl, g, q1, q2⟩ := h
  obtain rfl : v = Value.ref a := rx
  cases rs with
  | cons r1 r2 =>
    cases r2 with
    | @cons _ fv _ _ r2 r3 =>
      cases r3
      cases l : valV kvs k with
      | some v => exact d_pop I g r1 l (.inr ⟨fv, rfl⟩) fun w' s4 I4 rw' => ⟨v, _, I4, rw', q1 v l⟩
      | none => exact d_popD I g r1 l fun s4 I4 => ⟨z, H, I4, r2, q2 l⟩
/-- d.pop(k, z) -/
noncomputable def dpopD (d : D) (ds : List D) (h : AH) : R D := match dctAt h d with
  | some (n, kvs) => match ds with
    | [y, z] => match keyOf y with
      | some k => (match valD kvs k with
        | some v => .ok v (h.set n (.dct (dropD kvs k)))
        | none => .ok z h)
      | none => .no
    | _ => .no
  | none => .no
theorem mt_dpopS : MtS X L W "dict" "dict.pop" dpopD := by
  refine ⟨_, mt_dpop2, fun σ A h H x d xs ds Q rh rd r p => ?_⟩
  unfold dpopD at p
  split at p
  · rename_i n kvs e0
    obtain ⟨a, ws, rfl, e1, ea, rfl, g, rk⟩ := dctAt_ok rh rd e0
    split at p
    · cases r with
      | cons r1 r2 =>
        cases r2 with
        | cons r2 r3 =>
          cases r3
          split at p
          · rename_i k ek
            have ex := keyOf_ok r1 ek
            subst ex
            split at p
            · rename_i v ev
              obtain ⟨v', e3, r'⟩ := rk.val.1 v ev
              have mu : mutH (H a) := by rw [g]; trivial
              refine ⟨a, ws, k, _, rfl, rfl, g, fun u hu => ?_, fun hu => ?_⟩
              · rw [e3] at hu; cases hu
                exact p A _ _ (Le.put mu) (rh.put ea e1 rfl mu ⟨_, upd_same, RKs.mono (Le.put mu) rk.drop⟩) (RD.mono (Le.put mu) _ _ r')
              · rw [e3] at hu; cases hu
            · rename_i en
              refine ⟨a, ws, k, _, rfl, rfl, g, fun u hu => ?_, fun hu => ?_⟩
              · rw [rk.val.2 en] at hu; cases hu
              · exact Po.ok p rh r2
          · exact p.elim
    · exact p.elim
  · exact p.elim
noncomputable def txts : List D → Option (List Str)
  | [] => some []
  | .str x :: r => match txts r with
    | some l => some (x :: l)
    | none => none
  | _ => none
theorem RDs.txts : ∀ {ds : List D} {vs : List V} {l : List Str}, RDs L A H ds vs → Cod.txts ds = some l → vs = l.map V.str
  | _, _, _, .nil, e => by cases e; rfl
  | _, _, l, .cons (d := d) p q, e => by
    cases d with
    | str x =>
      unfold Cod.txts at e
      split at e
      · rename_i l' hl
        cases e
        cases p
        rw [RDs.txts q hl]
        rfl
      · cases e
    | _ => cases e
noncomputable def idxD (d : D) (ds : List D) (h : AH) : R D := match d, ds with
  | .tup xs, [.str z] => match Cod.txts xs with
    | some ys => match ys.findIdx? (fun y => decide (y = z)) with
      | some j => .ok (.int (j : Nat)) h
      | none => .no
    | none => .no
  | _, _ => .no
theorem mt_idxS (hK : X.K = L.K) : MtS X L W "tuple" "tuple.index" idxD := by
  refine ⟨_, mt_tup_index, fun σ A h H x d xs ds Q rh rd r p => ?_⟩
  unfold idxD at p
  split at p
  · rename_i zs z
    cases rd with
    | @tup a _ vs hs hr =>
      cases r with
      | cons r1 r2 =>
        cases r2
        cases r1
        split at p
        · rename_i ys hy
          split at p
          · rename_i j hj
            have := RDs.txts hr hy
            subst this
            rw [List.findIdx?_eq_some_iff_getElem] at hj
            obtain ⟨hl, h1, h2⟩ := hj
            refine ⟨a, ys, z, j, rfl, rfl, by rw [hK]; exact hs, by rw [List.getElem?_eq_getElem hl]; exact congrArg some (of_decide_eq_true h1), fun m hm e => ?_, Po.ok p rh (.int _)⟩
            have hml : m < ys.length := by omega
            rw [List.getElem?_eq_getElem hml] at e
            have := h2 m hm
            simp at this
            exact this (Option.some.inj e)
          · exact p.elim
        · exact p.elim
  · exact p.elim
/-- xs[::-1] -/
noncomputable def rvD (d : D) (h : AH) : R D := match d with
  | .loc n => match h[n]? with
    | some (.lst xs) => .ok (.loc h.length) (h ++ [.lst xs.reverse])
    | some (.frz xs) => .ok (.loc h.length) (h ++ [.lst xs.reverse])
    | _ => .no
  | _ => .no
theorem e_rv {e : Expr} {m : ED} {k : Nat} {p1 p2 p3 pos : Pos} (hK : X.K = L.K) (he : PE X e (tE L W m)) : PE X (.Subscript e (.Slice none none (some (.UnaryOp .USub (.Constant (.int 1) k p1) p2)) p3) pos) (tE L W (e1 rvD m)) := by
  refine PE.weak (pe_revL he) fun σ H Q ⟨A, δ, h, rs, rh, p⟩ => ⟨A, δ, h, rs, rh, (Po.bind p).imp fun x H1 ⟨A1, d, h1, l1, rh1, q, p1⟩ => ?_⟩
  rw [hK]
  unfold rvD at p1
  split at p1
  · rename_i n
    cases q with
    | @loc _ a ea =>
      split at p1
      · rename_i xs e0
        obtain ⟨vs, g1, rr⟩ := rh1.get _ a _ ea e0
        refine ⟨a, vs, rfl, SqL.of g1, fun q nq => ?_⟩
        exact p1 _ _ _ (Le.newA nq) (rh1.newO nq ⟨_, upd_same, RDs.mono (Le.newA nq) _ _ rr.reverse⟩) (.loc (by rw [← rh1.len]; simp))
      · rename_i xs e0
        obtain ⟨vs, g1, rr⟩ := rh1.get _ a _ ea e0
        refine ⟨a, vs, rfl, g1.sq, fun q nq => ?_⟩
        exact p1 _ _ _ (Le.newA nq) (rh1.newO nq ⟨_, upd_same, RDs.mono (Le.newA nq) _ _ rr.reverse⟩) (.loc (by rw [← rh1.len]; simp))
      · exact p1.elim
  · exact p1.elim
/-- C.index(e), C a tuple that the module has written -/
noncomputable def eGI (d : D) (a : AD) : ED := fun δ h => (a δ h).bind fun ds h1 => idxD d ds h1
theorem e_gidx {x : Str} {o : Obj} {a : Addr} {d : D} {e : Expr} {es : List Expr} {apos cpos p : Pos} {ma : AD} (hK : X.K = L.K) (hg : Gl X x) (hm : X.mg x = some (.ref a)) (rg : RG L d (.ref a)) (hdb : (x == ("__debug__" : Str)) = false) (hk : X.K.lookup a = some o) (hc : o.cls = .type "tuple") (hd : o.dict = none) (ha : PA X (e :: es) (tAr L W ma))
    (hbase : attributeBase (.Name x p) "index" X.env (eval (.Name x p) X.env) = eval (.Name x p) X.env)
    (hfew : ((backTo cpos (starEach (e :: es) X.env)).all (fun x => !x.1) && (backToKw cpos (keywordEach [] X.env)).all (fun x => x.1.isSome)
      && decide ((e :: es).length + ([] : List Keyword).length + (if ([] : List Keyword).isEmpty then 0 else 1) < 30)) = true)
    (hline : (apos.endLine == cpos.line) = true) (hs : starEach (e :: es) X.env = (false, eval e X.env) :: starEach es X.env) (hplain : (backTo cpos (starEach es X.env)).any (·.1) = false) :
    PE X (.Call (.Attribute (.Name x p) "index" apos) (e :: es) [] cpos) (tE L W (eGI d ma)) := by
  obtain ⟨rr, hm', hr⟩ := mt_idxS (X := X) (L := L) (W := W) hK
  refine PE.weak (pe_bm PySem.F.plainAttrs_tuple PySem.F.slot_tuple_index PySem.F.type_tuple_index hm' (pe_glob (v := .ref a) hg hm rfl hdb) ha hbase hfew hline hs hplain) fun σ H Q ⟨A, δ, h, rs, rh, p⟩ => ?_
  refine ⟨.inr (.inl ⟨rfl, o, hk, hc, hd⟩), A, δ, h, rs, rh, (Po.bind p).imp fun xs H2 ⟨A2, ds, h2, l2, rh2, q2, p2⟩ => hr σ A2 h2 H2 (.ref a) d xs ds Q rh2 (rg _ _) q2 p2⟩
end
end Cod

/-! # enumerate and zip over lists, tuples and texts in any mixture -/
namespace Cod
open PySem PySem.Spec PyProof.Rows L2

inductive Sr where
  | lst (a : Addr)
  | tup (a : Addr)
  | txt (x : Str)
noncomputable def Sr.val : Sr → V
  | .lst a => .ref a
  | .tup a => .ref a
  | .txt x => .str x
/-- what it holds now -/
noncomputable def Sr.now (K : PySem.W.Frag) (H : Hp) : Sr → List V → Prop
  | .lst a, xs => SqL K H a xs
  | .tup a, xs => SqT K H a xs
  | .txt x, xs => xs = x.cps.toList.map fun c => .str ⟨#[c]⟩
/-- its iterator at c stands at i -/
noncomputable def Sr.at (c : Addr) (i : Nat) (h : Heap) : Sr → Prop
  | .lst a => h.IsListIter c a i
  | .tup a => h.IsTupleIter c a i
  | .txt x => ∃ t, h.IsStrIter c (strIterType x) x t i
noncomputable def Sr.off (b : Addr) : Sr → Prop
  | .lst a => a ≠ b
  | .tup a => a ≠ b
  | .txt _ => True
theorem Sr.keep {S : Sr} {c : Addr} {i : Nat} {h h' : Heap} (p : S.at c i h) (k : ∀ o, h.get? c = some o → h'.get? c = some o) : S.at c i h' := by
  cases S with
  | lst a => exact Heap.IsListIter.at p k
  | tup a => exact Heap.IsTupleIter.at p k
  | txt x =>
    obtain ⟨t, o, e, q⟩ := p
    exact ⟨t, o, k o e, q⟩
theorem Sr.obj {S : Sr} {c : Addr} {i : Nat} {h : Heap} (p : S.at c i h) : ∃ o, h.get? c = some o ∧ ∀ v, o.data ≠ .cell v := by
  cases S with
  | lst a => obtain ⟨o, e, _, d⟩ := p; exact ⟨o, e, fun v q => by rw [d] at q; cases q⟩
  | tup a => obtain ⟨o, e, _, d⟩ := p; exact ⟨o, e, fun v q => by rw [d] at q; cases q⟩
  | txt x => obtain ⟨t, o, e, _, d⟩ := p; exact ⟨o, e, fun v q => by rw [d] at q; cases q⟩
section
variable {X : Cx} {pins : List (Addr × Obj)} {σ : L2.St} {H : Hp} {s : Shared}
theorem Sr.inj {S : Sr} {xs ys : List V} (I : Inv X pins σ H s) (h1 : S.now X.K H xs) (h2 : S.now X.K H ys) : xs = ys := by
  cases S with
  | lst a => exact I.list_inj h1 h2
  | tup a => exact I.tuple_inj h1 h2
  | txt x => exact Eq.trans h1 (Eq.symm h2)
/-- what the iterator draws next -/
theorem Sr.draws {S : Sr} {c : Addr} {i : Nat} {xs : List V} {A : Around} (I : Inv X pins σ H s) (hh : A.handled = none) (p : S.at c i s.heap) (off : S.off c) (hn : S.now X.K H xs) :
    ∃ (fp : List Addr) (Pv : Nat → Value → Prop) (Sg : Nat → Heap → Prop), Draws X.prog X.w A c fp xs.length Pv Sg ∧ c ∈ fp ∧ (∀ b, b ≠ c → S.off b → b ∉ fp) ∧ Sg i s.heap ∧ (∀ j u, Pv j u → ∃ x, xs[j]? = some x ∧ RelV x u) ∧ ∀ j h, Sg j h → S.at c j h := by
  cases S with
  | lst a =>
    obtain ⟨its, rv, pl, hz⟩ := I.list hn
    have hl := rv.length
    have Dr := Draws.list (prog := X.prog) (w := X.w) (A := A) hh c a off its.toArray
    rw [show its.toArray.size = xs.length by simp [hl]] at Dr
    refine ⟨[c, a], _, _, Dr, by simp, fun b h1 h2 => by simp [h1]; exact fun e => h2 e.symm, ⟨p, pl.isList⟩, fun j u hu => ?_, fun j h q => q.1⟩
    have hu' : its[j]? = some u := by simpa using hu
    have hj : j < xs.length := by rw [hl]; exact (List.getElem?_eq_some_iff.mp hu').1
    obtain ⟨u', e1, r⟩ := rv.get (List.getElem?_eq_getElem hj)
    rw [hu'] at e1
    cases e1
    exact ⟨xs[j], List.getElem?_eq_getElem hj, r⟩
  | tup a =>
    obtain ⟨its, rv, pl, hz⟩ := I.tuple hn
    have hl := rv.length
    have Dr := Draws.tuple (prog := X.prog) (w := X.w) (A := A) hh c a off its.toArray
    rw [show its.toArray.size = xs.length by simp [hl]] at Dr
    refine ⟨[c, a], _, _, Dr, by simp, fun b h1 h2 => by simp [h1]; exact fun e => h2 e.symm, ⟨p, pl⟩, fun j u hu => ?_, fun j h q => q.1⟩
    have hu' : its[j]? = some u := by simpa using hu
    have hj : j < xs.length := by rw [hl]; exact (List.getElem?_eq_some_iff.mp hu').1
    obtain ⟨u', e1, r⟩ := rv.get (List.getElem?_eq_getElem hj)
    rw [hu'] at e1
    cases e1
    exact ⟨xs[j], List.getElem?_eq_getElem hj, r⟩
  | txt x =>
    obtain ⟨t, p⟩ := p
    have hn : xs = x.cps.toList.map fun c => .str ⟨#[c]⟩ := hn
    subst hn
    have Dr := Draws.text (prog := X.prog) (w := X.w) (A := A) hh c x t
    rw [show x.cps.size = (x.cps.toList.map fun c => V.str ⟨#[c]⟩).length by simp] at Dr
    refine ⟨[c], _, _, Dr, by simp, fun b h1 h2 => by simp [h1], p, fun j u hu => ?_, fun j h q => ⟨t, q⟩⟩
    obtain ⟨ch, tk, e1, rfl⟩ := hu
    exact ⟨.str ⟨#[ch]⟩, by rw [List.getElem?_map]; simp [e1], ⟨tk, rfl⟩⟩
end
/-! ### enumerate -/
noncomputable def ItE (K : PySem.W.Frag) (S : Sr) : It :=
  ⟨fun i H => ∃ (xs : List V) (x : V), S.now K H xs ∧ xs[i]? = some x, fun i H v H' => ∃ T x, v = .ref T ∧ H T = none ∧ H' = upd H T (.tup [.int (i : Nat), x]) ∧ ∀ xs, S.now K H xs → xs[i]? = some x, fun i H => ∃ xs : List V, S.now K H xs ∧ xs.length = i⟩
theorem turn_E {P : Program} {w : World} {K : PySem.W.Frag} {elts : List Expr} {kk : Nat} {tpos : Pos} (S : Sr) (e c : Addr) :
    Turn P w K (.Tuple elts kk tpos) (ItE K S) [e, c] e (fun i h => (∃ old, IsEnum h e c ((i : Nat) : Int) old) ∧ S.at c i h ∧ e ≠ c ∧ S.off e ∧ S.off c) where
  mem := by simp
  obj := fun i h st b hb => by
    obtain ⟨⟨old, he⟩, hi, _⟩ := st
    have e' : b = e ∨ b = c := by simpa using hb
    rcases e' with rfl | rfl
    · exact ⟨_, he, fun v q => nomatch q⟩
    · exact Sr.obj hi
  keep := fun i h h' st k => let ⟨⟨old, he⟩, hi, r⟩ := st; ⟨⟨old, k e (by simp) _ he⟩, Sr.keep hi fun o q => k c (by simp) o q, r⟩
  item := by
    intro X hP hw hK hc i pins s σ H E I hf st hg
    subst hP hw hK
    obtain ⟨⟨old, he⟩, hit, hne, o1, o2⟩ := st
    obtain ⟨xs, x, hq, hx⟩ := hg
    have hi : i < xs.length := (List.getElem?_eq_some_iff.mp hx).1
    obtain ⟨fp, Pv, Sg, Dr, hm, hoff, hst, hP, hat⟩ := Sr.draws (A := X.A.in1) I (I.ok.hd hc) hit o2 hq
    have hel : e < s.heap.objs.size := Heap.lt_size he
    have hil : c < s.heap.objs.size := let ⟨_, q, _⟩ := Sr.obj hit; Heap.lt_size q
    refine wpAny_pyNext_enum_itemD Dr he hst hi hne (hoff e hne o1) fun u h' tk hPu ho hst' hT hsz hk => ?_
    obtain ⟨x', ex, ru⟩ := hP i u hPu
    rw [hx] at ex
    cases ex
    refine ⟨_, rfl, wpAny_letOwnedTupleGo_enum (s := { s with heap := h', toks := tk + 1 }) ho fun h'' he' sb => ?_⟩
    have hT2 : h''.get? s.heap.objs.size = some { cls := .type "tuple", data := .seq #[.int i tk, u] } := (sb.2 _ (Nat.ne_of_gt hel)).trans hT
    have new : ObjOk X.prog X.w (upd H s.heap.objs.size (.tup [.int (i : Nat), x])) h'' s.heap.objs.size (.tup [.int (i : Nat), x]) :=
      ⟨by show 2 ≤ sizeLine; decide, [.int i tk, u], .cons ⟨_, rfl⟩ (.cons ru .nil), ⟨_, hT2, rfl, _, rfl⟩⟩
    have I1 : Inv X pins σ (upd H s.heap.objs.size (.tup [.int (i : Nat), x])) { s with heap := h'', toks := tk + 1 } :=
      I.turnedNew (ch := [e, c]) (fun b ob hb q => (sb.2 b (fun z => hb (by simp [z]))).trans (hk b ob (fun z => hb (by simp [z])) (fun z => hb (by simp [z])) q)) hf (Nat.le_refl _) new
    refine ⟨.ref s.heap.objs.size, _, I1, rfl, ⟨_, x, rfl, I.hok.fresh (Nat.le_refl _), rfl, fun ys hy => by rw [Sr.inj I hy hq]; exact hx⟩, ⟨⟨u, ?_⟩, Sr.keep (hat _ _ hst') fun o q => (sb.2 c (Ne.symm hne)).trans q, hne, o1, o2⟩, fun b hb => ?_⟩
    · have e1 : ((i + 1 : Nat) : Int) = (i : Int) + 1 := by omega
      rw [e1]; exact he'
    · have hb' : b < s.heap.objs.size := by
        have e' : b = e ∨ b = c := by simpa using hb
        rcases e' with z | z
        · rw [z]; exact hel
        · rw [z]; exact hil
      rw [upd_ne (Nat.ne_of_lt hb')]
      exact (hf b hb).1
  done := by
    intro X hP hw hK hc i pins s σ H E I hf st hg
    subst hP hw hK
    obtain ⟨⟨old, he⟩, hit, hne, o1, o2⟩ := st
    obtain ⟨xs, hq, hx⟩ := hg
    subst hx
    obtain ⟨fp, Pv, Sg, Dr, hm, hoff, hst, hP, hat⟩ := Sr.draws (A := X.A.in1) I (I.ok.hd hc) hit o2 hq
    obtain ⟨f0, f1, f2, f3, f4, f5⟩ := hf c (by simp)
    exact wpAny_pyNext_enum_endD Dr he hst fun h' eb => ⟨rfl, I.turned (t' := s.toks) (fun b o hb q => eb b o hb q) f0 f1 f3 f4 f5⟩
  self := fun A i s Q E st h => let ⟨⟨_, he⟩, _⟩ := st; wpAny_pyIter_enum he h
/-! ### zip -/
structure ZA (z TI TO i1 i2 : Addr) (S1 S2 : Sr) : Prop where
  TIz : TI ≠ z
  TOz : TO ≠ z
  TITO : TI ≠ TO
  TIi1 : TI ≠ i1
  TIi2 : TI ≠ i2
  zi1 : z ≠ i1
  zi2 : z ≠ i2
  Ti1 : TO ≠ i1
  Ti2 : TO ≠ i2
  i12 : i1 ≠ i2
  z1 : S1.off z
  z2 : S2.off z
  T1 : S1.off TO
  T2 : S2.off TO
  a11 : S1.off i1
  a12 : S1.off i2
  a21 : S2.off i1
  a22 : S2.off i2
noncomputable def ItZ (K : PySem.W.Frag) (S1 S2 : Sr) : It :=
  ⟨fun i H => ∃ (xs ys : List V) (x y : V), S1.now K H xs ∧ S2.now K H ys ∧ xs[i]? = some x ∧ ys[i]? = some y,
    fun i H v H' => ∃ T x y, v = .ref T ∧ H T = none ∧ H' = upd H T (.tup [x, y]) ∧ (∀ xs, S1.now K H xs → xs[i]? = some x) ∧ ∀ ys, S2.now K H ys → ys[i]? = some y,
    fun i H => ∃ xs ys : List V, S1.now K H xs ∧ S2.now K H ys ∧ i ≤ xs.length ∧ i ≤ ys.length ∧ (i = xs.length ∨ i = ys.length)⟩
theorem turn_Z {P : Program} {w : World} {K : PySem.W.Frag} {elts : List Expr} {kk : Nat} {tpos : Pos} {S1 S2 : Sr} {z TI TO i1 i2 : Addr} (Z : ZA z TI TO i1 i2 S1 S2) :
    Turn P w K (.Tuple elts kk tpos) (ItZ K S1 S2) [z, TI, TO, i1, i2] z (fun i h => IsZip h z TI TO .none ∧ IsTupOf2 h TI (.ref i1) (.ref i2) ∧ (∃ x y, IsTupOf2 h TO x y) ∧ S1.at i1 i h ∧ S2.at i2 i h) where
  mem := by simp
  obj := fun i h st c hc => by
    obtain ⟨hz, hTI, ⟨x, y, hTO⟩, h1, h2⟩ := st
    have e' : c = z ∨ c = TI ∨ c = TO ∨ c = i1 ∨ c = i2 := by simpa using hc
    rcases e' with rfl | rfl | rfl | rfl | rfl
    · exact ⟨_, hz, fun v q => nomatch q⟩
    · exact ⟨_, hTI, fun v q => nomatch q⟩
    · exact ⟨_, hTO, fun v q => nomatch q⟩
    · exact Sr.obj h1
    · exact Sr.obj h2
  keep := fun i h h' st k => by
    obtain ⟨hz, hTI, ⟨x, y, hTO⟩, h1, h2⟩ := st
    exact ⟨k z (by simp) _ hz, k TI (by simp) _ hTI, ⟨x, y, k TO (by simp) _ hTO⟩, Sr.keep h1 fun o q => k i1 (by simp) o q, Sr.keep h2 fun o q => k i2 (by simp) o q⟩
  item := by
    intro X hP hw hK hc i pins s σ H E I hf st hg
    subst hP hw hK
    obtain ⟨hz, hTI, ⟨x0, y0, hTO⟩, h1, h2⟩ := st
    obtain ⟨xs, ys, x, y, hqx, hqy, hx, hy⟩ := hg
    have hi1 : i < xs.length := (List.getElem?_eq_some_iff.mp hx).1
    have hi2 : i < ys.length := (List.getElem?_eq_some_iff.mp hy).1
    obtain ⟨fp1, Pv1, Sg1, Dr1, hm1, hoff1, hst1, hP1, hat1⟩ := Sr.draws (A := X.A.in1) I (I.ok.hd hc) h1 Z.a11 hqx
    obtain ⟨fp2, Pv2, Sg2, Dr2, hm2, hoff2, hst2, hP2, hat2⟩ := Sr.draws (A := X.A.in1) I (I.ok.hd hc) h2 Z.a22 hqy
    have S : ZipSep2 z TI TO i1 i2 fp1 fp2 := ⟨Z.TIz, Z.TOz, Z.TITO, Z.TIi1, hm1, hoff1 _ Z.zi1 Z.z1, hoff1 _ Z.Ti1 Z.T1, Z.TIi2, hm2, hoff2 _ Z.zi2 Z.z2, hoff2 _ Z.Ti2 Z.T2, hoff2 _ Z.i12 Z.a21, hoff1 _ (Ne.symm Z.i12) Z.a12⟩
    have hzl : z < s.heap.objs.size := Heap.lt_size hz
    refine wpAny_pyNext_zipD2_item S Dr1 Dr2 hz hTI hTO hst1 hst2 hi1 hi2 fun u u2 h' tk p1 p2 z' TO' h1' h2' hT hsz hk => ?_
    obtain ⟨_, ex1, ru⟩ := hP1 i u p1
    rw [hx] at ex1
    cases ex1
    obtain ⟨_, ex2, ru2⟩ := hP2 i u2 p2
    rw [hy] at ex2
    cases ex2
    refine ⟨_, rfl, wpAny_letOwnedTupleGo_zip (s := { s with heap := h', toks := tk }) z' fun h'' z'' sb => ?_⟩
    have hT2 : h''.get? s.heap.objs.size = some { cls := .type "tuple", data := .seq #[u, u2] } := (sb.2 _ (Nat.ne_of_gt hzl)).trans hT
    have new : ObjOk X.prog X.w (upd H s.heap.objs.size (.tup [x, y])) h'' s.heap.objs.size (.tup [x, y]) :=
      ⟨by show 2 ≤ sizeLine; decide, [u, u2], .cons ru (.cons ru2 .nil), ⟨_, hT2, rfl, _, rfl⟩⟩
    have I1 : Inv X pins σ (upd H s.heap.objs.size (.tup [x, y])) { s with heap := h'', toks := tk } :=
      I.turnedNew (t' := tk) (ch := [z, TI, TO, i1, i2]) (fun c o hb q => (sb.2 c (fun q' => hb (by simp [q']))).trans (hk c o (fun q' => hb (by simp [q'])) (fun q' => hb (by simp [q'])) (fun q' => hb (by simp [q'])) (fun q' => hb (by simp [q'])) q)) hf (Nat.le_refl _) new
    refine ⟨.ref s.heap.objs.size, _, I1, rfl, ⟨_, x, y, rfl, I.hok.fresh (Nat.le_refl _), rfl, fun l hl => by rw [Sr.inj I hl hqx]; exact hx, fun l hl => by rw [Sr.inj I hl hqy]; exact hy⟩, ⟨z'', ?_, ⟨u, u2, ?_⟩, ?_, ?_⟩, fun c hcm => ?_⟩
    · exact (sb.2 _ Z.TIz).trans (hk _ _ Z.TIz Z.TITO Z.TIi1 Z.TIi2 hTI)
    · exact (sb.2 _ Z.TOz).trans TO'
    · exact Sr.keep (hat1 _ _ h1') fun o q => (sb.2 _ (Ne.symm Z.zi1)).trans q
    · exact Sr.keep (hat2 _ _ h2') fun o q => (sb.2 _ (Ne.symm Z.zi2)).trans q
    · have hlt : c < s.heap.objs.size := by
        have e' : c = z ∨ c = TI ∨ c = TO ∨ c = i1 ∨ c = i2 := by simpa using hcm
        rcases e' with rfl | rfl | rfl | rfl | rfl
        · exact hzl
        · exact Heap.lt_size hTI
        · exact Heap.lt_size hTO
        · obtain ⟨_, e1, _⟩ := Sr.obj h1; exact Heap.lt_size e1
        · obtain ⟨_, e2, _⟩ := Sr.obj h2; exact Heap.lt_size e2
      rw [upd_ne (Nat.ne_of_lt hlt)]
      exact (hf c hcm).1
  done := by
    intro X hP hw hK hc i pins s σ H E I hf st hg
    subst hP hw hK
    obtain ⟨hz, hTI, ⟨x0, y0, hTO⟩, h1, h2⟩ := st
    obtain ⟨xs, ys, hqx, hqy, hl1, hl2, hend⟩ := hg
    obtain ⟨fp1, Pv1, Sg1, Dr1, hm1, hoff1, hst1, hP1, hat1⟩ := Sr.draws (A := X.A.in1) I (I.ok.hd hc) h1 Z.a11 hqx
    obtain ⟨fp2, Pv2, Sg2, Dr2, hm2, hoff2, hst2, hP2, hat2⟩ := Sr.draws (A := X.A.in1) I (I.ok.hd hc) h2 Z.a22 hqy
    have S : ZipSep2 z TI TO i1 i2 fp1 fp2 := ⟨Z.TIz, Z.TOz, Z.TITO, Z.TIi1, hm1, hoff1 _ Z.zi1 Z.z1, hoff1 _ Z.Ti1 Z.T1, Z.TIi2, hm2, hoff2 _ Z.zi2 Z.z2, hoff2 _ Z.Ti2 Z.T2, hoff2 _ Z.i12 Z.a21, hoff1 _ (Ne.symm Z.i12) Z.a12⟩
    exact wpAny_pyNext_zipD2_end S Dr1 Dr2 hz hTI hTO hst1 hst2 hl1 hl2 hend fun h' tk hk => ⟨rfl, I.turnedL (t' := tk) (ch := [z, TI, TO, i1, i2]) (fun c o hb q =>
      hk c o (fun q' => hb (by simp [q'])) (fun q' => hb (by simp [q'])) (fun q' => hb (by simp [q'])) (fun q' => hb (by simp [q'])) q) hf⟩
  self := fun A i s Q E st h => wpAny_pyIter_zip st.1 h
section
variable {X : Cx} {pins : List (Addr × Obj)} {σ : L2.St} {H : Hp} {s : Shared}
theorem Sr.begins {S : Sr} {xs : List V} {u : Value} (I : Inv X pins σ H s) (hn : S.now X.K H xs) (ru : RelV S.val u) :
    ∃ (o : Obj) (Hc : Heap → Prop), Begins u o Hc ∧ Hc s.heap ∧ (∀ h c, h.get? c = some o → S.at c 0 h) ∧ ∀ b, s.heap.objs.size ≤ b → S.off b := by
  cases S with
  | lst a =>
    obtain ⟨its, rv, pl, hz⟩ := I.list hn
    obtain rfl : u = Value.ref a := ru
    have la : a < s.heap.objs.size := pl.lt
    exact ⟨_, _, begins_list a its.toArray, pl.isList, fun h c e => ⟨_, e, rfl, rfl⟩, fun b hb => Nat.ne_of_lt (Nat.lt_of_lt_of_le la hb)⟩
  | tup a =>
    obtain ⟨its, rv, pl, hz⟩ := I.tuple hn
    obtain rfl : u = Value.ref a := ru
    have la : a < s.heap.objs.size := by obtain ⟨o, e, _⟩ := pl; exact Heap.lt_size e
    exact ⟨_, _, begins_tuple a its.toArray, pl, fun h c e => ⟨_, e, rfl, rfl⟩, fun b hb => Nat.ne_of_lt (Nat.lt_of_lt_of_le la hb)⟩
  | txt x =>
    obtain ⟨t, rfl⟩ := ru
    exact ⟨_, _, begins_text x t, trivial, fun h c e => ⟨t, _, e, rfl, rfl⟩, fun b hb => trivial⟩
end
set_option maxHeartbeats 1000000 in
theorem meets_enum1 {v : Value} {o : Obj} {Hc : Heap → Prop} (B : Begins v o Hc) :
    Meets (Builtin.«enumerate.__new__» ⟨[.type "enumerate", v], []⟩) (fun _ R s => Hc s.heap ∧
      R (.ok (.ret (.ref (s.heap.push o).objs.size))) { s with heap := (s.heap.push o).push { cls := .type "enumerate", data := .fields #[.none, .bool false, .ref s.heap.objs.size, rawInt 0, .none, .none] } }) :=
  .of_wp fun prog w A R s h => by
    obtain ⟨hp, g, d, tk, os⟩ := s; obtain ⟨h1, h⟩ := h
    have hsub := sub_enumerate
    have q1 : ∀ {A' : Around} {E : Value → Shared → Prop} {Q : Value → Shared → Prop}, Q (.ref hp.objs.size) ⟨hp.push o, g, d, tk, os⟩ → wpAny (model prog w) A' (pyIter v) Q E ⟨hp, g, d, tk, os⟩ :=
      fun q => B.iter prog w _ _ ⟨hp, g, d, tk, os⟩ _ h1 q
    wp_walk using q1
    refine wpAny_stack_any fun st => wpAny_pure ?_
    split
    · rename_i c _ _ _ _ _
      cases (c == Value.type "enumerate") <;> (wp_walk using q1; exact ⟨_, rfl, h⟩)
    · wp_walk using q1
      exact ⟨_, rfl, h⟩
theorem call_enum1 {prog : Program} {w : World} {A : Around} {E : Value → Shared → Prop} {s : Shared} {v : Value} {o : Obj} {Hc : Heap → Prop} {Q : Value → Shared → Prop} (B : Begins v o Hc) (h1 : Hc s.heap)
    (h : ∀ h', IsEnum h' (s.heap.objs.size + 1) s.heap.objs.size 0 .none → h'.get? s.heap.objs.size = some o → (∀ b o, s.heap.get? b = some o → h'.get? b = some o) → Q (.ref (s.heap.objs.size + 1)) { s with heap := h' }) :
    wpAny (model prog w) A (call (.type "enumerate") [v]) Q E s := by
  refine callType_new F.called_enumerate (by decide) (F.typeCall_enumerate_1 _) (F.newCall_enumerate_1 _) (fun obj => F.args_object_init_2 obj _) F.entry_enumerate_new (meets_enum1 B) ⟨h1, ?_⟩
  have hz : (s.heap.push o).objs.size = s.heap.objs.size + 1 := Heap.size_push ..
  show _ ∧ _
  rw [hz]
  have he : IsEnum ((s.heap.push o).push { cls := .type "enumerate", data := .fields #[.none, .bool false, .ref s.heap.objs.size, rawInt 0, .none, .none] }) (s.heap.objs.size + 1) s.heap.objs.size 0 .none := by
    have := Heap.get?_push_size (s.heap.push o) (o := { cls := .type "enumerate", data := .fields #[.none, .bool false, .ref s.heap.objs.size, rawInt 0, .none, .none] }) rfl
    rw [hz] at this; exact this
  exact ⟨⟨_, he, rfl⟩, h _ he (Heap.get?_push_of_some _ (Heap.get?_push_size _ B.free)) fun b o x => Heap.get?_push_of_some _ (Heap.get?_push_of_some _ x)⟩
theorem za {S1 S2 : Sr} (n : Nat) (h1 : ∀ b : Nat, n ≤ b → S1.off b) (h2 : ∀ b : Nat, n ≤ b → S2.off b) : ZA (n + 4 : Nat) (n + 2 : Nat) (n + 3 : Nat) n (n + 1 : Nat) S1 S2 :=
  ⟨by intro (e : (n + 2 : Nat) = n + 4); omega, by intro (e : (n + 3 : Nat) = n + 4); omega, by intro (e : (n + 2 : Nat) = n + 3); omega, by intro (e : (n + 2 : Nat) = n); omega, by intro (e : (n + 2 : Nat) = n + 1); omega,
    by intro (e : (n + 4 : Nat) = n); omega, by intro (e : (n + 4 : Nat) = n + 1); omega, by intro (e : (n + 3 : Nat) = n); omega, by intro (e : (n + 3 : Nat) = n + 1); omega, by intro (e : (n : Nat) = n + 1); omega,
    h1 _ (by omega), h2 _ (by omega), h1 _ (by omega), h2 _ (by omega), h1 _ (by omega), h1 _ (by omega), h2 _ (by omega), h2 _ (by omega)⟩
theorem le5 {n c : Nat} (h : c = n + 4 ∨ c = n + 2 ∨ c = n + 3 ∨ c = n ∨ c = n + 1) : n ≤ c := by omega
theorem le2 {n c : Nat} (h : c = n + 1 ∨ c = n) : n ≤ c := by omega
noncomputable def iEnumS (K : PySem.W.Frag) (ta : TA) : TI := fun σ H R => ta σ H fun vs H1 => ∃ (S : Sr) (xs : List V), vs = [S.val] ∧ S.now K H1 xs ∧ R (ItE K S) H1
theorem pi_E {X : Cx} {e : Expr} {ta : TA} {p pos tpos : Pos} {elts : List Expr} {kk : Nat} (hg : Gl X "enumerate") (hm : X.mg "enumerate" = none) (ha : PA X [e] ta) (hs : starEach [e] X.env = [(false, eval e X.env)]) :
    PI X (.Tuple elts kk tpos) (.Call (.Name "enumerate" p) [e] [] pos) (iEnumS X.K ta) := by
  refine ⟨fun pins s σ H R I h => ?_⟩
  refine Call_ (ld_blt I hg hm boot_enumerate (PyProof.Rows.callWith_type1 (thn (ha.run pos pins s σ H _ I h) fun us s1 ⟨vs, H1, I1, r1, q1⟩ => ?_) hs rfl))
  obtain ⟨S, xs, ex, hq, q⟩ := q1
  subst ex
  cases r1 with
  | cons r rr =>
    cases rr
    obtain ⟨o, Hc, B, hc, hat, hoff⟩ := Sr.begins I1 hq r
    refine call_enum1 B hc fun h' he hit hk => wpAny_pyIter_enum he ?_
    have I2 : Inv X pins σ H1 { s1 with heap := h' } := I1.kept (t' := s1.toks) hk
    refine ⟨s1.heap.objs.size + 1, [s1.heap.objs.size + 1, s1.heap.objs.size], _, _, H1, rfl, I2, turn_E S (s1.heap.objs.size + 1) s1.heap.objs.size, ⟨⟨.none, he⟩, hat _ _ hit, Nat.succ_ne_self _, hoff _ (Nat.le_add_right _ _), hoff _ (Nat.le_refl _)⟩, fun b hb => ?_, q⟩
    have e' : b = s1.heap.objs.size + 1 ∨ b = s1.heap.objs.size := by simpa using hb
    have hle : s1.heap.objs.size ≤ b := le2 e'
    exact I1.fpOk hle (I1.hok.fresh hle)
noncomputable def iZipS (K : PySem.W.Frag) (ta : TA) : TI := fun σ H R => ta σ H fun vs H1 => ∃ (S1 S2 : Sr) (xs ys : List V), vs = [S1.val, S2.val] ∧ S1.now K H1 xs ∧ S2.now K H1 ys ∧ R (ItZ K S1 S2) H1
theorem pi_Z {X : Cx} {e e2 : Expr} {ta : TA} {p pos tpos : Pos} {elts : List Expr} {kk : Nat} (hg : Gl X "zip") (hm : X.mg "zip" = none) (ha : PA X [e, e2] ta)
    (hs : starEach [e, e2] X.env = (false, eval e X.env) :: starEach [e2] X.env) (hpl : (backTo pos (starEach [e2] X.env)).any (·.1) = false) :
    PI X (.Tuple elts kk tpos) (.Call (.Name "zip" p) [e, e2] [] pos) (iZipS X.K ta) := by
  refine ⟨fun pins s σ H R I h => ?_⟩
  refine Call_ (ld_blt I hg hm PyProof.Rows.boot_zip (PyProof.Rows.callWith_type1 (thn (ha.run pos pins s σ H _ I h) fun us s1 ⟨vs, H1, I1, r1, q1⟩ => ?_) hs hpl))
  obtain ⟨S1, S2, xs, ys, ex, hqx, hqy, q⟩ := q1
  subst ex
  cases r1 with
  | cons r rr =>
    cases rr with
    | cons r' rr =>
      cases rr
      obtain ⟨o1, Hc1, B1, hc1, hat1, hoff1⟩ := Sr.begins I1 hqx r
      obtain ⟨o2, Hc2, B2, hc2, hat2, hoff2⟩ := Sr.begins I1 hqy r'
      refine zip_begins2 B1 B2 hc1 hc2 fun h' hz hTI hTO h1 h2 hsz hk => wpAny_pyIter_zip hz ?_
      have I2 : Inv X pins σ H1 { s1 with heap := h' } := I1.kept (t' := s1.toks) hk
      refine ⟨s1.heap.objs.size + 4, [s1.heap.objs.size + 4, s1.heap.objs.size + 2, s1.heap.objs.size + 3, s1.heap.objs.size, s1.heap.objs.size + 1], _, _, H1, rfl, I2,
        turn_Z (za s1.heap.objs.size hoff1 hoff2), ⟨hz, hTI, ⟨_, _, hTO⟩, hat1 _ _ h1, hat2 _ _ h2⟩, fun c hcm => ?_, q⟩
      have e' : c = s1.heap.objs.size + 4 ∨ c = s1.heap.objs.size + 2 ∨ c = s1.heap.objs.size + 3 ∨ c = s1.heap.objs.size ∨ c = s1.heap.objs.size + 1 := by simpa using hcm
      have hle : s1.heap.objs.size ≤ c := le5 e'
      exact I1.fpOk hle (I1.hok.fresh hle)
end Cod

namespace Cod
open PySem L2

/-! ### what is walked -/
/-- a source of items -/
inductive Sg where
  | lst (n : Nat)
  | items (xs : List D)
inductive Itg where
  | items (xs : List D)
  | lst (n : Nat)
  | enum (s : Sg)
  | zip (s t : Sg)
  | rev (n k : Nat)
noncomputable def lstAt (h : AH) (n : Nat) : Option (List D) := match h[n]? with
  | some (.lst xs) => some xs
  | some (.frz xs) => some xs
  | _ => none
noncomputable def sgAt (h : AH) : Sg → Option (List D)
  | .lst n => lstAt h n
  | .items xs => some xs
noncomputable def nxtI : Itg → Nat → AH → Option (Option D)
  | .items xs, i, _ => some xs[i]?
  | .lst n, i, h => match lstAt h n with
    | some xs => some xs[i]?
    | none => none
  | .enum s, i, h => match sgAt h s with
    | some xs => if i ≤ xs.length then some (xs[i]?.map fun x => .tup [.int (i : Nat), x]) else none
    | none => none
  | .zip s t, i, h => match sgAt h s, sgAt h t with
    | some xs, some ys => if i ≤ xs.length ∧ i ≤ ys.length then (match xs[i]?, ys[i]? with
      | some x, some y => some (some (.tup [x, y]))
      | _, _ => some none) else none
    | _, _ => none
  | .rev n k, i, h => if i < k then (match lstAt h n with
    | some xs => match xs[k - 1 - i]? with
      | some x => some (some x)
      | none => none
    | none => none) else some none
noncomputable def cntI (it : Itg) (h : AH) : Nat := match it with
  | .items xs => xs.length
  | .lst n => ((lstAt h n).getD []).length
  | .enum s => ((sgAt h s).getD []).length
  | .zip s _ => ((sgAt h s).getD []).length
  | .rev _ k => k
section
variable {L : Lk} {A : List Addr} {H : Hp}
theorem lstAt_ok {h : AH} {n : Nat} {a : Addr} {xs : List D} (rh : RH L A h H) (ea : A[n]? = some a) (e : lstAt h n = some xs) : ∃ vs, SqL L.K H a vs ∧ RDs L A H xs vs := by
  unfold lstAt at e
  split at e
  · rename_i e0
    obtain ⟨vs, g1, r1⟩ := rh.get _ a _ ea e0
    cases e; exact ⟨vs, SqL.of g1, r1⟩
  · rename_i e0
    obtain ⟨vs, g1, r1⟩ := rh.get _ a _ ea e0
    cases e; exact ⟨vs, g1.sq, r1⟩
  · cases e
theorem lstAt_one {h : AH} {n : Nat} {a : Addr} {xs : List D} {ws : List V} (rh : RH L A h H) (ea : A[n]? = some a) (e : lstAt h n = some xs) (hq : SqL L.K H a ws) : ∃ vs, SqL L.K H a vs ∧ RDs L A H xs vs := lstAt_ok rh ea e
/-- J is how it lies -/
noncomputable def ItOk (L : Lk) (A : List Addr) (H : Hp) (it : Itg) (J : L2.It) : Prop := ∀ A2 H2 h2 i, Le A H A2 H2 → RH L A2 h2 H2 →
  (nxtI it i h2 = some none → J.stop i H2) ∧
  (∀ d, nxtI it i h2 = some (some d) → J.go i H2 ∧ ∀ x H', J.yld i H2 x H' → ∃ A', Le A2 H2 A' H' ∧ RH L A' h2 H' ∧ RD L A' H' d x)
theorem it_lst {n : Nat} {a : Addr} (ea : A[n]? = some a) : ItOk L A H (.lst n) (Itl L.K a) := by
  intro A2 H2 h2 i l rh
  have ea := l.at ea
  refine ⟨fun e => ?_, fun d e => ?_⟩
  · simp only [nxtI] at e
    split at e
    · rename_i xs e0
      obtain ⟨vs, hq, hr⟩ := lstAt_ok rh ea e0
      refine ⟨vs, hq, ?_⟩
      have := List.getElem?_eq_none_iff.mp (Option.some.inj e)
      rw [← hr.length]; exact this
    · cases e
  · simp only [nxtI] at e
    split at e
    · rename_i xs e0
      obtain ⟨vs, hq, hr⟩ := lstAt_ok rh ea e0
      obtain ⟨v, ev, rv⟩ := hr.get (Option.some.inj e)
      refine ⟨⟨vs, v, hq, ev⟩, fun x H' ⟨eH, hy⟩ => ?_⟩
      subst eH
      have := hy vs hq
      rw [ev] at this
      cases this
      exact ⟨A2, Le.refl _ _, rh, rv⟩
    · cases e
/-- how a source lies -/
noncomputable def SgOk (L : Lk) (A : List Addr) (H : Hp) (sg : Sg) (S : Sr) : Prop := ∀ A2 H2 h2 xs, Le A H A2 H2 → RH L A2 h2 H2 → sgAt h2 sg = some xs → ∃ vs, S.now L.K H2 vs ∧ RDs L A2 H2 xs vs
theorem it_enum {sg : Sg} {S : Sr} (ok : SgOk L A H sg S) : ItOk L A H (.enum sg) (ItE L.K S) := by
  intro A2 H2 h2 i l rh
  refine ⟨fun e => ?_, fun d e => ?_⟩
  · simp only [nxtI] at e
    split at e
    · rename_i xs e0
      obtain ⟨vs, hq, hr⟩ := ok A2 H2 h2 xs l rh e0
      split at e
      · rename_i hi
        refine ⟨vs, hq, ?_⟩
        have := List.getElem?_eq_none_iff.mp (Option.map_eq_none_iff.mp (Option.some.inj e))
        rw [← hr.length]; omega
      · cases e
    · cases e
  · simp only [nxtI] at e
    split at e
    · rename_i xs e0
      obtain ⟨vs, hq, hr⟩ := ok A2 H2 h2 xs l rh e0
      split at e
      · have e := Option.some.inj e
        simp only [Option.map_eq_some_iff] at e
        obtain ⟨y, ey, rfl⟩ := e
        obtain ⟨v, ev, rv⟩ := hr.get ey
        refine ⟨⟨vs, v, hq, ev⟩, fun x H' ⟨T, z, ex, nT, eH, hy⟩ => ?_⟩
        subst eH ex
        have := hy vs hq
        rw [ev] at this
        cases this
        exact ⟨A2, Le.new nT, rh.newI nT, .tup (SqT.of upd_same) (.cons (.int _) (.cons (RD.mono (Le.new nT) _ _ rv) .nil))⟩
      · cases e
    · cases e
theorem it_zip {sg tg : Sg} {S T : Sr} (ok1 : SgOk L A H sg S) (ok2 : SgOk L A H tg T) : ItOk L A H (.zip sg tg) (ItZ L.K S T) := by
  intro A2 H2 h2 i l rh
  refine ⟨fun e => ?_, fun d e => ?_⟩
  · simp only [nxtI] at e
    split at e
    · rename_i xs ys e0 e1
      obtain ⟨vs, hq, hr⟩ := ok1 A2 H2 h2 xs l rh e0
      obtain ⟨ws, hq', hr'⟩ := ok2 A2 H2 h2 ys l rh e1
      split at e
      · rename_i hi
        refine ⟨vs, ws, hq, hq', ?_⟩
        rw [← hr.length, ← hr'.length]
        refine ⟨hi.1, hi.2, ?_⟩
        split at e
        · cases e
        · rename_i hn
          by_cases h1 : i = xs.length
          · exact .inl h1
          · by_cases h2 : i = ys.length
            · exact .inr h2
            · exact (hn xs[i] ys[i] (List.getElem?_eq_getElem (by omega)) (List.getElem?_eq_getElem (by omega))).elim
      · cases e
    · cases e
  · simp only [nxtI] at e
    split at e
    · rename_i xs ys e0 e1
      obtain ⟨vs, hq, hr⟩ := ok1 A2 H2 h2 xs l rh e0
      obtain ⟨ws, hq', hr'⟩ := ok2 A2 H2 h2 ys l rh e1
      split at e
      · split at e
        · rename_i x y ex ey
          cases e
          obtain ⟨v, ev, rv⟩ := hr.get ex
          obtain ⟨w, ew, rw'⟩ := hr'.get ey
          refine ⟨⟨vs, ws, v, w, hq, hq', ev, ew⟩, fun x H' ⟨T, z1, z2, ex, nT, eH, hy1, hy2⟩ => ?_⟩
          subst eH ex
          have t1 := hy1 vs hq
          have t2 := hy2 ws hq'
          rw [ev] at t1
          rw [ew] at t2
          cases t1; cases t2
          exact ⟨A2, Le.new nT, rh.newI nT, .tup (SqT.of upd_same) (.cons (RD.mono (Le.new nT) _ _ rv) (.cons (RD.mono (Le.new nT) _ _ rw') .nil))⟩
        · cases e
      · cases e
    · cases e
/-- the source of a value -/
noncomputable def sgD (h : AH) : D → Option Sg
  | .tup xs => some (.items xs)
  | .loc n => match lstAt h n with
    | some _ => some (.lst n)
    | none => none
  | .str x => some (.items (x.cps.toList.map fun c => .str ⟨#[c]⟩))
  | _ => none
theorem rds_signs : ∀ cs : List Nat, RDs L A H (cs.map fun c => .str ⟨#[c]⟩) (cs.map fun c => .str ⟨#[c]⟩)
  | [] => .nil
  | c :: r => .cons (.str _) (rds_signs r)
theorem sgD_ok {h : AH} {d : D} {v : V} {sg : Sg} (rh : RH L A h H) (r : RD L A H d v) (e : sgD h d = some sg) : ∃ S vs, v = Sr.val S ∧ S.now L.K H vs ∧ SgOk L A H sg S := by
  unfold sgD at e
  split at e
  · cases e
    cases r with
    | @tup a xs vs hs hr =>
      refine ⟨.tup a, vs, rfl, hs, fun A2 H2 h2 ys l rh2 ey => ?_⟩
      cases ey
      exact ⟨vs, l.sqT hs, RDs.mono l _ _ hr⟩
  · rename_i n
    cases r with
    | @loc _ a ea =>
      split at e
      · rename_i xs e0
        cases e
        obtain ⟨vs, hq, hr⟩ := lstAt_ok rh ea e0
        exact ⟨.lst a, vs, rfl, hq, fun A2 H2 h2 ys l rh2 ey => lstAt_ok rh2 (l.at ea) ey⟩
      · cases e
  · rename_i x
    cases e
    cases r
    refine ⟨.txt x, _, rfl, rfl, fun A2 H2 h2 ys l rh2 ey => ?_⟩
    cases ey
    exact ⟨_, rfl, rds_signs _⟩
  · cases e
theorem it_rev {n k : Nat} {a : Addr} (ea : A[n]? = some a) : ItOk L A H (.rev n k) (Itv L.K a k) := by
  intro A2 H2 h2 i l rh
  have ea := l.at ea
  refine ⟨fun e => ?_, fun d e => ?_⟩
  · simp only [nxtI] at e
    split at e
    · split at e
      · split at e
        · cases e
        · cases e
      · cases e
    · rename_i hn
      exact Nat.le_of_not_lt hn
  · simp only [nxtI] at e
    split at e
    · rename_i hi
      split at e
      · rename_i xs e0
        obtain ⟨vs, hq, hr⟩ := lstAt_ok rh ea e0
        split at e
        · rename_i y ey
          cases e
          obtain ⟨v, ev, rv⟩ := hr.get ey
          refine ⟨⟨hi, vs, v, hq, ev⟩, fun x H' ⟨eH, hy⟩ => ?_⟩
          subst eH
          have := hy vs hq
          rw [ev] at this
          cases this
          exact ⟨A2, Le.refl _ _, rh, rv⟩
        · cases e
      · cases e
    · cases e
theorem it_tup {a : Addr} {xs : List D} {vs : List V} (hs : SqT L.K H a vs) (hr : RDs L A H xs vs) (uniq : ∀ H2, Le A H A H2 → ∀ ws, SqT L.K H2 a ws → ws = vs) : ItOk L A H (.items xs) (Itt L.K a) := by
  intro A2 H2 h2 i l rh
  have hs2 := l.sqT hs
  have hr2 := RDs.mono l _ _ hr
  refine ⟨fun e => ⟨vs, hs2, ?_⟩, fun d e => ?_⟩
  · have := List.getElem?_eq_none_iff.mp (Option.some.inj e)
    rw [← hr.length]; exact this
  · obtain ⟨v, ev, rv⟩ := hr2.get (Option.some.inj e)
    refine ⟨⟨vs, v, hs2, ev⟩, fun x H' ⟨eH, hy⟩ => ?_⟩
    subst eH
    have := hy vs hs2
    rw [ev] at this
    cases this
    exact ⟨A2, Le.refl _ _, rh, rv⟩
theorem it_range {lo : Int} {n : Nat} : ItOk L A H (.items ((List.range n).map fun i => .int (lo + (i : Nat)))) (Itr lo n) := by
  intro A2 H2 h2 i l rh
  refine ⟨fun e => ?_, fun d e => ?_⟩
  · have := List.getElem?_eq_none_iff.mp (Option.some.inj e)
    show n ≤ i
    simpa using this
  · have e := Option.some.inj e
    rw [List.getElem?_map, Option.map_eq_some_iff] at e
    obtain ⟨j, ej, rfl⟩ := e
    obtain ⟨hj, rfl⟩ := List.getElem?_eq_some_iff.mp ej
    simp only [List.length_range] at hj
    refine ⟨hj, fun x H' ⟨eH, ex⟩ => ?_⟩
    subst eH ex
    rw [List.getElem_range]
    exact ⟨A2, Le.refl _ _, rh, .int _⟩
theorem it_str {x : Str} : ItOk L A H (.items (x.cps.toList.map fun c => .str ⟨#[c]⟩)) (Its x) := by
  intro A2 H2 h2 i l rh
  refine ⟨fun e => ?_, fun d e => ?_⟩
  · have := List.getElem?_eq_none_iff.mp (Option.some.inj e)
    show x.cps.size ≤ i
    simpa using this
  · have e := Option.some.inj e
    rw [List.getElem?_map, Option.map_eq_some_iff] at e
    obtain ⟨c, ec, rfl⟩ := e
    have hc : x.cps[i]? = some c := by simpa using ec
    refine ⟨(Array.getElem?_eq_some_iff.mp hc).1, fun v H' ⟨eH, c', ec', ev⟩ => ?_⟩
    subst eH ev
    rw [hc] at ec'
    cases ec'
    exact ⟨A2, Le.refl _ _, rh, .str _⟩
end

section
variable {L : Lk} {A : List Addr} {H : Hp}
theorem it_keys {a : Addr} {ob : Obj} {ws : List (Key × V)} {kvs : List (Key × D)} (g : H a = some (.frz ob (.dK ws))) (r : RKs L A H kvs ws) : ItOk L A H (.items (kvs.map fun p => keyD p.1)) (Itk a ob ws) := by
  intro A2 H2 h2 i l rh
  have g2 := l.fz _ _ _ g
  have hk : kvs.map (·.1) = ws.map (·.1) := r.keys
  have hl : kvs.length = ws.length := r.length
  refine ⟨fun e => ?_, fun d e => ?_⟩
  · have := List.getElem?_eq_none_iff.mp (Option.some.inj e)
    rw [List.length_map] at this
    exact ⟨g2, by omega⟩
  · have e := Option.some.inj e
    rw [List.getElem?_map, Option.map_eq_some_iff] at e
    obtain ⟨⟨k, d0⟩, e1, rfl⟩ := e
    have hi : i < kvs.length := (List.getElem?_eq_some_iff.mp e1).1
    refine ⟨⟨g2, by omega⟩, fun x H' ⟨eH, k', v', e2, ex⟩ => ?_⟩
    subst eH ex
    have : (kvs.map (·.1))[i]? = (ws.map (·.1))[i]? := by rw [hk]
    rw [List.getElem?_map, List.getElem?_map, e1, e2] at this
    cases this
    exact ⟨A2, Le.refl _ _, rh, keyD_rd k⟩
end
noncomputable abbrev ID := Sl → AH → R Itg
noncomputable def tI (L : Lk) (W : WX) (m : ID) : TI := fun σ H Rr => ∃ A δ h, RS L A H δ σ ∧ RH L A h H ∧ Po L W σ A H (ItOk L) (m δ h) Rr
theorem PI.weak {X : Cx} {tg e : Expr} {t t' : TI} (h : PI X tg e t) (w : ∀ σ H Q, t' σ H Q → t σ H Q) : PI X tg e t' := ⟨fun pins s σ H Q I q => h.run pins s σ H Q I (w σ H Q q)⟩
noncomputable def iSeqD (d : D) (h : AH) : R Itg := match d with
  | .tup xs => .ok (.items xs) h
  | .loc n => match lstAt h n with
    | some _ => .ok (.lst n) h
    | none => match h[n]? with
      | some (.lck kvs) => .ok (.items (kvs.map fun p => keyD p.1)) h
      | _ => .no
  | .str x => .ok (.items (x.cps.toList.map fun c => .str ⟨#[c]⟩)) h
  | _ => .no
noncomputable def iSeq (m : ED) : ID := fun δ h => (m δ h).bind iSeqD
section
variable {X : Cx} {L : Lk} {W : WX} {tg : Expr}
/-- for x in e: a list, a tuple or a text -/
theorem i_seq {e : Expr} {m : ED} (hK : X.K = L.K) (he : PE X e (tE L W m)) : PI X tg e (tI L W (iSeq m)) := by
  refine ⟨fun pins s σ H Rr I ⟨A, δ, h, rs, rh, p⟩ => ?_⟩
  refine thn (he.run pins s σ H _ I ⟨A, δ, h, rs, rh, Po.bind p⟩) fun u s1 ⟨v, H1, I1, ru, A1, d, h1, l, rh1, q, p1⟩ => ?_
  have fp : ∀ b ∈ [s1.heap.objs.size], FpOk X pins H1 b := fun b hb => by
    have e : b = s1.heap.objs.size := by simpa using hb
    subst e
    exact I1.fpOk (Nat.le_refl _) (I1.hok.fresh (Nat.le_refl _))
  unfold iSeqD at p1
  split at p1
  · cases q with
    | @tup a xs vs hs hr =>
      cases ru
      rw [← hK] at hs
      obtain ⟨its, rv, pp, hz⟩ := I1.tuple hs
      refine wpAny_pyIter_tuple (show s1.heap.IsTuple a its.toArray from pp) ?_
      refine ⟨s1.heap.objs.size, [s1.heap.objs.size], _, _, H1, rfl, I1.kept (t' := s1.toks) fun b o e => Heap.get?_push_of_some _ e, turn_tuple a _, ⟨_, Heap.get?_push_size _ rfl, rfl, rfl⟩, fp, ?_⟩
      refine p1 A1 _ H1 (Le.refl _ _) rh1 ?_
      rw [hK]
      rw [hK] at hs
      refine fun A2 H2 h2 i l2 rh2 => ?_
      have hs2 := l2.sqT hs
      have hr2 := RDs.mono l2 _ _ hr
      refine ⟨fun e => ⟨vs, hs2, ?_⟩, fun d e => ?_⟩
      · have := List.getElem?_eq_none_iff.mp (Option.some.inj e)
        rw [← hr.length]; exact this
      · obtain ⟨v, ev, rv⟩ := hr2.get (Option.some.inj e)
        refine ⟨⟨vs, v, hs2, ev⟩, fun x H' ⟨eH, hy⟩ => ?_⟩
        subst eH
        have := hy vs hs2
        rw [ev] at this
        cases this
        exact ⟨A2, Le.refl _ _, rh2, rv⟩
  · cases q with
    | @loc n a ea =>
      cases ru
      split at p1
      · rename_i xs e0
        obtain ⟨vs, hq, hr⟩ := lstAt_ok rh1 ea e0
        rw [← hK] at hq
        obtain ⟨its, rv, pp, hz⟩ := I1.list hq
        refine wpAny_pyIter_list pp.isList ?_
        refine ⟨s1.heap.objs.size, [s1.heap.objs.size], _, _, H1, rfl, I1.kept (t' := s1.toks) fun b o e => Heap.get?_push_of_some _ e, turn_list a _, ⟨_, Heap.get?_push_size _ rfl, rfl, rfl⟩, fp, ?_⟩
        refine p1 A1 _ H1 (Le.refl _ _) rh1 ?_
        rw [hK]
        exact it_lst ea
      · split at p1
        · rename_i kvs e0
          obtain ⟨ws, ⟨ob, g⟩, r⟩ := rh1.get _ a _ ea e0
          obtain ⟨hs, hgd, hx, es, ep, vs, hdt, hsz, kv, hm⟩ := I1.frzK g
          refine iter_keys hs hgd hx hdt (pi_one (tk := s1.toks) I1 _ (turn_keys _ hdt) ⟨_, Heap.get?_push_size _ rfl, rfl, ?_⟩ (p1 A1 _ H1 (Le.refl _ _) rh1 (it_keys g r)))
          rw [hsz] <;> rfl
        · exact p1.elim
  · rename_i x
    cases q
    obtain ⟨t, rfl⟩ := ru
    have q : Rr (Its x) H1 := p1 A1 _ H1 (Le.refl _ _) rh1 it_str
    cases ha : x.cps.all (· < 128)
    · exact wpAny_pyIter_wide ha (pi_one (tk := s1.toks) I1 _ (turn_str _ x t "str_iterator" (.inr rfl)) ⟨_, Heap.get?_push_size _ rfl, rfl, rfl⟩ q)
    · exact wpAny_pyIter_ascii ha (pi_one (tk := s1.toks) I1 _ (turn_str _ x t "str_ascii_iterator" (.inl rfl)) ⟨_, Heap.get?_push_size _ rfl, rfl, rfl⟩ q)
  · exact p1.elim
noncomputable def big (j : Int) : Bool := decide (-4611686018427387904 ≤ j) && decide (j < 4611686018427387904)
theorem big_ok {j : Int} (h : big j = true) : -(2 ^ 62) ≤ j ∧ j < 2 ^ 62 := by
  unfold big at h
  simp only [Bool.and_eq_true, decide_eq_true_eq] at h
  have e : (2 : Int) ^ 62 = 4611686018427387904 := by decide
  rw [e]
  exact h
noncomputable def rng (lo hi : Int) : Itg := .items ((List.range (hi - lo).toNat).map fun i => .int (lo + (i : Nat)))
noncomputable def iRng1D (ds : List D) (h : AH) : R Itg := match ds with
  | [.int j] => if big j = true then .ok (rng 0 j) h else .no
  | _ => .no
noncomputable def iRng2D (ds : List D) (h : AH) : R Itg := match ds with
  | [.int i, .int j] => if big i = true ∧ big j = true then .ok (rng i j) h else .no
  | _ => .no
noncomputable def iArg (g : List D → AH → R Itg) (m : AD) : ID := fun δ h => (m δ h).bind g
theorem i_range1 {a : Expr} {m : AD} {p pos : Pos} (hg : Gl X "range") (hm : X.mg "range" = none) (ha : PA X [a] (tAr L W m)) (hs : starEach [a] X.env = [(false, eval a X.env)]) : PI X tg (.Call (.Name "range" p) [a] [] pos) (tI L W (iArg iRng1D m)) := by
  refine PI.weak (pi_range1 hg hm ha hs) fun σ H Q ⟨A, δ, h, rs, rh, p⟩ => ⟨A, δ, h, rs, rh, (Po.bind p).imp fun vs H1 ⟨A1, ds, h1, l, rh1, q, p1⟩ => ?_⟩
  unfold iRng1D at p1
  split at p1
  · rename_i j
    cases q with
    | cons q1 q2 =>
      cases q2; cases q1
      split at p1
      · rename_i hb
        refine ⟨_, rfl, (big_ok hb).1, (big_ok hb).2, p1 A1 _ H1 (Le.refl _ _) rh1 ?_⟩
        have e : (j - 0 : Int) = j := by omega
        unfold rng
        rw [e]
        exact it_range
      · exact p1.elim
  · exact p1.elim
theorem i_range2 {a b : Expr} {m : AD} {p pos : Pos} (hg : Gl X "range") (hm : X.mg "range" = none) (ha : PA X [a, b] (tAr L W m)) (hs : starEach [a, b] X.env = [(false, eval a X.env), (false, eval b X.env)]) (hs2 : starEach [b] X.env = [(false, eval b X.env)]) :
    PI X tg (.Call (.Name "range" p) [a, b] [] pos) (tI L W (iArg iRng2D m)) := by
  refine PI.weak (pi_range2 hg hm ha hs hs2) fun σ H Q ⟨A, δ, h, rs, rh, p⟩ => ⟨A, δ, h, rs, rh, (Po.bind p).imp fun vs H1 ⟨A1, ds, h1, l, rh1, q, p1⟩ => ?_⟩
  unfold iRng2D at p1
  split at p1
  · rename_i i j
    cases q with
    | cons q1 q2 =>
      cases q2 with
      | cons q2 q3 =>
        cases q3; cases q1; cases q2
        split at p1
        · rename_i hb
          exact ⟨_, _, rfl, ⟨(big_ok hb.1).1, (big_ok hb.1).2, (big_ok hb.2).1, (big_ok hb.2).2⟩, p1 A1 _ H1 (Le.refl _ _) rh1 it_range⟩
        · exact p1.elim
  · exact p1.elim
noncomputable def iEnumD (ds : List D) (h : AH) : R Itg := match ds with
  | [d] => match sgD h d with
    | some s => .ok (.enum s) h
    | none => .no
  | _ => .no
theorem i_enum {e : Expr} {m : AD} {p pos tpos : Pos} {elts : List Expr} {kk : Nat} (hK : X.K = L.K) (hg : Gl X "enumerate") (hm : X.mg "enumerate" = none) (ha : PA X [e] (tAr L W m)) (hs : starEach [e] X.env = [(false, eval e X.env)]) :
    PI X (.Tuple elts kk tpos) (.Call (.Name "enumerate" p) [e] [] pos) (tI L W (iArg iEnumD m)) := by
  refine PI.weak (pi_E hg hm ha hs) fun σ H Q ⟨A, δ, h, rs, rh, p⟩ => ⟨A, δ, h, rs, rh, (Po.bind p).imp fun vs H1 ⟨A1, ds, h1, l, rh1, q, p1⟩ => ?_⟩
  unfold iEnumD at p1
  split at p1
  · cases q with
    | cons q1 q2 =>
      cases q2
      split at p1
      · rename_i sg e0
        obtain ⟨S, ws, rfl, hn, ok⟩ := sgD_ok rh1 q1 e0
        rw [hK]
        exact ⟨S, ws, rfl, hn, p1 A1 _ H1 (Le.refl _ _) rh1 (it_enum ok)⟩
      · exact p1.elim
  · exact p1.elim
noncomputable def iZipD (ds : List D) (h : AH) : R Itg := match ds with
  | [d, e] => match sgD h d, sgD h e with
    | some s, some t => .ok (.zip s t) h
    | _, _ => .no
  | _ => .no
theorem i_zip {e e2 : Expr} {m : AD} {p pos tpos : Pos} {elts : List Expr} {kk : Nat} (hK : X.K = L.K) (hg : Gl X "zip") (hm : X.mg "zip" = none) (ha : PA X [e, e2] (tAr L W m))
    (hs : starEach [e, e2] X.env = (false, eval e X.env) :: starEach [e2] X.env) (hpl : (backTo pos (starEach [e2] X.env)).any (·.1) = false) :
    PI X (.Tuple elts kk tpos) (.Call (.Name "zip" p) [e, e2] [] pos) (tI L W (iArg iZipD m)) := by
  refine PI.weak (pi_Z hg hm ha hs hpl) fun σ H Q ⟨A, δ, h, rs, rh, p⟩ => ⟨A, δ, h, rs, rh, (Po.bind p).imp fun vs H1 ⟨A1, ds, h1, l, rh1, q, p1⟩ => ?_⟩
  unfold iZipD at p1
  split at p1
  · cases q with
    | cons q1 q2 =>
      cases q2 with
      | cons q2 q3 =>
        cases q3
        split at p1
        · rename_i sg tg e0 e1
          obtain ⟨S, ws, rfl, hn, ok⟩ := sgD_ok rh1 q1 e0
          obtain ⟨T, zs, rfl, hn2, ok2⟩ := sgD_ok rh1 q2 e1
          rw [hK]
          exact ⟨S, T, ws, zs, rfl, hn, hn2, p1 A1 _ H1 (Le.refl _ _) rh1 (it_zip ok ok2)⟩
        · exact p1.elim
  · exact p1.elim
noncomputable def iRevD (d : D) (h : AH) : R Itg := match d with
  | .loc n => match lstAt h n with
    | some xs => .ok (.rev n xs.length) h
    | none => .no
  | .tup xs => .ok (.items xs.reverse) h
  | _ => .no
noncomputable def iRev (m : ED) : ID := fun δ h => (m δ h).bind iRevD
theorem i_rev {e : Expr} {m : ED} {p pos : Pos} (hK : X.K = L.K) (hg : Gl X "reversed") (hm : X.mg "reversed" = none) (he : PE X e (tE L W m)) (hs : starEach [e] X.env = (false, eval e X.env) :: starEach [] X.env) :
    PI X tg (.Call (.Name "reversed" p) [e] [] pos) (tI L W (iRev m)) := by
  refine PI.weak (_root_.RT.pi_revA hg hm he hs) fun σ H Q ⟨A, δ, h, rs, rh, p⟩ => ⟨A, δ, h, rs, rh, (Po.bind p).imp fun v H1 ⟨A1, d, h1, l, rh1, q, p1⟩ => ?_⟩
  unfold iRevD at p1
  split at p1
  · cases q with
    | @loc _ a ea =>
      split at p1
      · rename_i xs e0
        obtain ⟨vs, hq, hr⟩ := lstAt_ok rh1 ea e0
        rw [hK]
        refine ⟨a, vs, rfl, .inl ⟨hq, p1 A1 _ H1 (Le.refl _ _) rh1 ?_⟩⟩
        rw [← hr.length]
        exact it_rev ea
      · exact p1.elim
  · cases q with
    | @tup a xs vs hs hr =>
      rw [hK]
      refine ⟨a, vs, rfl, .inr ⟨hs, p1 A1 _ H1 (Le.refl _ _) rh1 fun A2 H2 h2 i l2 rh2 => ?_⟩⟩
      have hs2 := l2.sqT hs
      have hr2 := RDs.mono l2 _ _ hr
      refine ⟨fun e => ?_, fun d e => ?_⟩
      · have := List.getElem?_eq_none_iff.mp (Option.some.inj e)
        rw [List.length_reverse] at this
        show vs.length ≤ i
        rw [← hr.length]; exact this
      · obtain ⟨v, ev, rv⟩ := hr2.reverse.get (Option.some.inj e)
        have hi : i < vs.length := by have := (List.getElem?_eq_some_iff.mp ev).1; simpa using this
        have ev' : vs[vs.length - 1 - i]? = some v := by rw [← ev, List.getElem?_reverse hi]
        refine ⟨⟨hi, vs, v, hs2, ev'⟩, fun x H' ⟨eH, hy⟩ => ?_⟩
        subst eH
        have := hy vs hs2
        rw [ev'] at this
        cases this
        exact ⟨A2, Le.refl _ _, rh2, rv⟩
  · exact p1.elim

/-! ### for, while -/
noncomputable def forG (body : SD) (tg : Tg) (it : Itg) : Nat → Nat → Sl → AH → RT
  | 0, i, δ, h => match nxtI it i h with
    | some none => .nx δ h
    | _ => .no
  | f + 1, i, δ, h => match nxtI it i h with
    | none => .no
    | some none => .nx δ h
    | some (some d) => match asgT tg d δ with
      | none => .no
      | some δ1 => match body δ1 h with
        | .nx δ2 h2 => forG body tg it f (i + 1) δ2 h2
        | .ct δ2 h2 => forG body tg it f (i + 1) δ2 h2
        | .bk δ2 h2 => .nx δ2 h2
        | .rt d h2 => .rt d h2
        | .ex c fs δ2 h2 => .ex c fs δ2 h2
        | .no => .no
noncomputable def sFor (mi : ID) (tg : Tg) (body : SD) : SD := fun δ h => (mi δ h).thn δ fun it h1 => forG body tg it (cntI it h1) 0 δ h1
theorem s_for {iter te : Expr} {body : List Stmt} {mi : ID} {tg' : Tg} {mb : SD} {pos : Pos} (hp : PassesOwn (model X.prog X.w) X.A X.env X.xe) (hc : X.calm = true) (hi : PI X te iter (tI L W mi)) (hg : PG X te (tG L tg')) (hb : PSs X body (tS L W mb))
    (hs : ∀ x, foldedSetIterable iter X.env x = pure x) : PS X (.For te iter body [] pos) (tS L W (sFor mi tg' mb)) := by
  refine PS.weak (ps_for hp hc hi hg hb hs) fun E σ H ⟨A, δ, h, rs, rh, p⟩ => ?_
  refine ⟨A, δ, h, rs, rh, (PoS.thn rs p).imp fun J H1 ⟨A1, it, h1, l1, rh1, ok, p1⟩ => ?_⟩
  refine ⟨fun i m σ' H' => ∃ A' δ' h', Le A1 H1 A' H' ∧ RS L A' H' δ' σ' ∧ RH L A' h' H' ∧ PoS L W A' H' (forG mb tg' it m i δ' h') E, ⟨cntI it h1, A1, δ, h1, Le.refl _ _, rs.mono l1, rh1, p1⟩, ?_⟩
  rintro i m σ2 H2 ⟨A2, δ2, h2, l2, rs2, rh2, p2⟩
  obtain ⟨stop, go⟩ := ok A2 H2 h2 i l2 rh2
  cases m with
  | zero =>
    unfold forG at p2
    split at p2
    · rename_i en
      exact .inl ⟨stop en, PoS.nxt p2 rs2 rh2⟩
    · exact p2.elim
  | succ f =>
    unfold forG at p2
    split at p2
    · exact p2.elim
    · rename_i en
      exact .inl ⟨stop en, PoS.nxt p2 rs2 rh2⟩
    · rename_i d en
      obtain ⟨g1, g2⟩ := go d en
      refine .inr ⟨g1, fun σ' H' => ∃ A' δ' h', Le A1 H1 A' H' ∧ RS L A' H' δ' σ' ∧ RH L A' h' H' ∧ PoS L W A' H' (forG mb tg' it f (i + 1) δ' h') E, fun σ' H' hN => ⟨f, Nat.lt_succ_self f, hN⟩, fun x H' hy => ?_⟩
      obtain ⟨A3, l3, rh3, rd3⟩ := g2 x H' hy
      refine ⟨A3, δ2, h2, d, rs2.mono l3, rh3, rd3, ?_⟩
      cases ea : asgT tg' d δ2 with
      | none => rw [ea] at p2; exact p2
      | some δ3 =>
        rw [ea] at p2
        intro σ' rs' _
        refine ⟨A3, δ3, h2, rs', rh3, ?_⟩
        have p3 := PoS.le l3 p2
        have l13 := l2.trans l3
        cases eb : mb δ3 h2 with
        | nx δ4 h4 => simp only [eb] at p3; exact fun A' σ' H' l rs rh => ⟨A', δ4, h4, l13.trans l, rs, rh, PoS.le l p3⟩
        | ct δ4 h4 => simp only [eb] at p3; exact fun A' σ' H' l rs rh => ⟨A', δ4, h4, l13.trans l, rs, rh, PoS.le l p3⟩
        | bk δ4 h4 => simp only [eb] at p3; exact p3
        | rt d4 h4 => simp only [eb] at p3; exact p3
        | ex c fs δ4 h4 => simp only [eb] at p3; exact p3
        | no => simp only [eb] at p3; exact p3
noncomputable def whG (c : BD) (body : SD) : Nat → Sl → AH → RT
  | 0, _, _ => .no
  | f + 1, δ, h => (c δ h).thn δ fun b h1 => if b = true then (match body δ h1 with
      | .nx δ2 h2 => whG c body f δ2 h2
      | .ct δ2 h2 => whG c body f δ2 h2
      | .bk δ2 h2 => .nx δ2 h2
      | .rt d h2 => .rt d h2
      | .ex c fs δ2 h2 => .ex c fs δ2 h2
      | .no => .no) else .nx δ h1
theorem s_while {c : Expr} {body : List Stmt} {mc : BD} {mb : SD} {pos : Pos} (fuel : Nat) (hp : PassesOwn (model X.prog X.w) X.A X.env X.xe) (hc : PT X c (tBo L W mc)) (hb : PSs X body (tS L W mb)) : PS X (.While c body [] pos) (tS L W (whG mc mb fuel)) := by
  refine PS.weak (ps_while hp hc hb) fun E σ H ⟨A, δ, h, rs, rh, p⟩ => ?_
  refine ⟨fun m σ' H' => ∃ A' δ' h', RS L A' H' δ' σ' ∧ RH L A' h' H' ∧ PoS L W A' H' (whG mc mb m δ' h') E, ⟨fuel, A, δ, h, rs, rh, p⟩, ?_⟩
  rintro m σ2 H2 ⟨A2, δ2, h2, rs2, rh2, p2⟩
  cases m with
  | zero => exact p2.elim
  | succ f =>
    unfold whG at p2
    refine ⟨A2, δ2, h2, rs2, rh2, (PoS.thn rs2 p2).imp fun b H3 ⟨A3, b', h3, l3, rh3, q, p3⟩ => ?_⟩
    cases q
    cases b with
    | false => exact PoS.nxt p3 (rs2.mono l3) rh3
    | true =>
      rw [if_pos rfl] at p3 ⊢
      refine ⟨fun σ' H' => ∃ A' δ' h', RS L A' H' δ' σ' ∧ RH L A' h' H' ∧ PoS L W A' H' (whG mc mb f δ' h') E, fun σ' H' hN => ⟨f, Nat.lt_succ_self f, hN⟩, A3, δ2, h3, rs2.mono l3, rh3, ?_⟩
      cases eb : mb δ2 h3 with
      | nx δ4 h4 => simp only [eb] at p3; exact fun A' σ' H' l rs rh => ⟨A', δ4, h4, rs, rh, PoS.le l p3⟩
      | ct δ4 h4 => simp only [eb] at p3; exact fun A' σ' H' l rs rh => ⟨A', δ4, h4, rs, rh, PoS.le l p3⟩
      | bk δ4 h4 => simp only [eb] at p3; exact p3
      | rt d4 h4 => simp only [eb] at p3; exact p3
      | ex c fs δ4 h4 => simp only [eb] at p3; exact p3
      | no => simp only [eb] at p3; exact p3

/-! ### list comprehensions -/
noncomputable def lcG (elt : ED) (test : BD) (tg : Tg) (it : Itg) (N : Nat) (δ : Sl) : Nat → Nat → AH → R D
  | 0, i, h => match nxtI it i h with
    | some none => .ok (.loc N) h
    | _ => .no
  | f + 1, i, h => match nxtI it i h with
    | none => .no
    | some none => .ok (.loc N) h
    | some (some d) => match asgT tg d δ with
      | none => .no
      | some δ1 => match test δ1 h with
        | .ok true h1 => (match elt δ1 h1 with
          | .ok y h2 => (match h2[N]? with
            | some (.lst acc) => if acc.length < lim then lcG elt test tg it N δ f (i + 1) (h2.set N (.lst (acc ++ [y]))) else .no
            | _ => .no)
          | _ => .no)
        | .ok false h1 => lcG elt test tg it N δ f (i + 1) h1
        | _ => .no
noncomputable def eLc (mi : ID) (tg : Tg) (test : BD) (elt : ED) (vs : List Nat) : ED := fun δ h => (mi δ h).bind fun it h1 => lcG elt test tg it h1.length (dwipe δ vs) (cntI it h1) 0 (h1 ++ [.lst []])
noncomputable abbrev W0 : WX := fun _ _ _ _ => False
theorem Le.anew {A : List Addr} {H : Hp} {p : Addr} {u : HO} (np : H p = none) : Le A H (A ++ [p]) (upd H p u) := Le.newA np
theorem lc_of {mi : ID} {tg' : Tg} {mt : BD} {me : ED} {vs : List Nat} (hv : ∀ i ∈ tgS tg', i ∈ vs) (σ : L2.St) (H : Hp) (Q : VK) : tE L W (eLc mi tg' mt me vs) σ H Q → tLc (tI L W mi) (tG L tg') (tBo L W0 mt) (tE L W0 me) vs σ H Q := by
  rintro ⟨A, δ, h, rs, rh, p⟩
  refine ⟨A, δ, h, rs, rh, (Po.bind p).imp fun J H1 ⟨A1, it, h1, l1, rh1, ok, p1⟩ => fun Dd nD => ?_⟩
  have rhD : RH L (A1 ++ [Dd]) (h1 ++ [.lst []]) (upd H1 Dd (.lst [])) := rh1.newO nD ⟨[], upd_same, .nil⟩
  have lD : Le A1 H1 (A1 ++ [Dd]) (upd H1 Dd (.lst [])) := Le.newA nD
  have eD : ∀ {A' : List Addr} {H' : Hp}, Le (A1 ++ [Dd]) (upd H1 Dd (.lst [])) A' H' → A'[h1.length]? = some Dd := fun l => l.at (by rw [← rh1.len]; simp)
  refine ⟨fun i m H' => ∃ A' h', Le (A1 ++ [Dd]) (upd H1 Dd (.lst [])) A' H' ∧ RH L A' h' H' ∧ Po L W σ A' H' (RD L) (lcG me mt tg' it h1.length (dwipe δ vs) m i h') Q, ⟨cntI it h1, _, _, Le.refl _ _, rhD, Po.le lD p1⟩, ?_⟩
  rintro i m H2 ⟨A2, h2, l2, rh2, p2⟩
  obtain ⟨stop, go⟩ := ok A2 H2 h2 i (lD.trans l2) rh2
  have rs2 : RS L A2 H2 (dwipe δ vs) (L2.wipe σ vs) := (rs.mono (l1.trans (lD.trans l2))).wipe vs
  cases m with
  | zero =>
    unfold lcG at p2
    split at p2
    · rename_i en
      exact .inl ⟨stop en, Po.ok p2 rh2 (.loc (eD l2))⟩
    · exact p2.elim
  | succ f =>
    unfold lcG at p2
    split at p2
    · exact p2.elim
    · rename_i en
      exact .inl ⟨stop en, Po.ok p2 rh2 (.loc (eD l2))⟩
    · rename_i d en
      obtain ⟨g1, g2⟩ := go d en
      refine .inr ⟨g1, fun H' => ∃ A' h', Le (A1 ++ [Dd]) (upd H1 Dd (.lst [])) A' H' ∧ RH L A' h' H' ∧ Po L W σ A' H' (RD L) (lcG me mt tg' it h1.length (dwipe δ vs) f (i + 1) h') Q, fun H' hN => ⟨f, Nat.lt_succ_self f, hN⟩, fun x H' hy => ?_⟩
      obtain ⟨A3, l3, rh3, rd3⟩ := g2 x H' hy
      refine ⟨A3, dwipe δ vs, h2, d, rs2.mono l3, rh3, rd3, ?_⟩
      cases ea : asgT tg' d (dwipe δ vs) with
      | none => rw [ea] at p2; exact p2.elim
      | some δ3 =>
        rw [ea] at p2
        intro σ' rs' hw
        refine ⟨(hw vs hv).trans (wipe_wipe σ vs), A3, δ3, h2, rs', rh3, ?_⟩
        have p3 := Po.le l3 p2
        cases et : mt δ3 h2 with
        | no => simp only [et] at p3; exact p3.elim
        | ex c fs h4 => simp only [et] at p3; exact p3.elim
        | ok b h4 =>
          intro A4 b' H4 l4 rh4 eb
          cases eb
          cases b with
          | false =>
            simp only [et] at p3
            rw [if_neg Bool.false_ne_true]
            exact ⟨A4, h4, l2.trans (l3.trans l4), rh4, Po.le l4 p3⟩
          | true =>
            simp only [et] at p3
            rw [if_pos rfl]
            refine ⟨A4, δ3, h4, rs'.mono l4, rh4, ?_⟩
            cases ee : me δ3 h4 with
            | no => simp only [ee] at p3; exact p3.elim
            | ex c fs h5 => simp only [ee] at p3; exact p3.elim
            | ok y h5 =>
              intro A5 y' H5 l5 rh5 ry
              simp only [ee] at p3
              have l25 := l2.trans (l3.trans (l4.trans l5))
              cases e6 : h5[h1.length]? with
              | none => simp only [e6] at p3; exact p3.elim
              | some o =>
                simp only [e6] at p3
                obtain ro := rh5.get _ _ _ (eD l25) e6
                cases o with
                | lst acc =>
                  obtain ⟨ws, g5, r5⟩ := ro
                  simp only at p3
                  split at p3
                  · rename_i hz
                    have mu : mutH (H5 Dd) := by rw [g5]; trivial
                    refine ⟨ws, g5, by rw [← r5.length]; exact lim_lt hz, A5, h5.set h1.length (.lst (acc ++ [y])), l25.trans (Le.put mu), rh5.put (eD l25) e6 rfl mu ⟨_, upd_same, RDs.mono (Le.put mu) _ _ (r5.append (.cons ry .nil))⟩, Po.le (l4.trans (l5.trans (Le.put mu))) p3⟩
                  · exact p3.elim
                | frz _ => exact p3.elim
                | dct _ => exact p3.elim
                | lck _ => exact p3.elim
                | ins _ _ => exact p3.elim
                | exn _ _ => exact p3.elim
                | ded => exact p3.elim
/-! ### list comprehensions of two clauses -/
noncomputable def lcN (elt : ED) (test : BD) (tg : Tg) (it : Itg) (N : Nat) (δ : Sl) : Nat → Nat → AH → Option AH
  | 0, i, h => match nxtI it i h with
    | some none => some h
    | _ => none
  | f + 1, i, h => match nxtI it i h with
    | none => none
    | some none => some h
    | some (some d) => match asgT tg d δ with
      | none => none
      | some δ1 => match test δ1 h with
        | .ok true h1 => (match elt δ1 h1 with
          | .ok y h2 => (match h2[N]? with
            | some (.lst acc) => if acc.length < lim then lcN elt test tg it N δ f (i + 1) (h2.set N (.lst (acc ++ [y]))) else none
            | _ => none)
          | _ => none)
        | .ok false h1 => lcN elt test tg it N δ f (i + 1) h1
        | _ => none
noncomputable def lc2G (elt : ED) (test test1 : BD) (tg tg1 : Tg) (it : Itg) (mi1 : ID) (N : Nat) (δ : Sl) (vs1 : List Nat) : Nat → Nat → AH → R D
  | 0, i, h => match nxtI it i h with
    | some none => .ok (.loc N) h
    | _ => .no
  | f + 1, i, h => match nxtI it i h with
    | none => .no
    | some none => .ok (.loc N) h
    | some (some d) => match asgT tg d δ with
      | none => .no
      | some δ1 => match test δ1 h with
        | .ok true h1 => (match mi1 δ1 h1 with
          | .ok it1 h2 => (match lcN elt test1 tg1 it1 N (dwipe δ1 vs1) (cntI it1 h2) 0 h2 with
            | some h3 => lc2G elt test test1 tg tg1 it mi1 N δ vs1 f (i + 1) h3
            | none => .no)
          | _ => .no)
        | .ok false h1 => lc2G elt test test1 tg tg1 it mi1 N δ vs1 f (i + 1) h1
        | _ => .no
noncomputable def eLc2 (mi : ID) (tg : Tg) (test : BD) (mi1 : ID) (tg1 : Tg) (test1 : BD) (elt : ED) (vs vs1 : List Nat) : ED := fun δ h => (mi δ h).bind fun it h1 => lc2G elt test test1 tg tg1 it mi1 h1.length (dwipe δ vs) vs1 (cntI it h1) 0 (h1 ++ [.lst []])
theorem lc2_of {mi mi1 : ID} {tg' tg1 : Tg} {mt mt1 : BD} {me : ED} {vs vs1 : List Nat} (hv : ∀ i ∈ tgS tg', i ∈ vs) (hv1 : ∀ i ∈ tgS tg1, i ∈ vs1) (σ : L2.St) (H : Hp) (Q : VK) : tE L W (eLc2 mi tg' mt mi1 tg1 mt1 me vs vs1) σ H Q → tLc2 (tI L W mi) (tG L tg') (tBo L W0 mt) (tI L W0 mi1) (tG L tg1) (tBo L W0 mt1) (tE L W0 me) vs vs1 σ H Q := by
  rintro ⟨A, δ, h, rs, rh, p⟩
  refine ⟨A, δ, h, rs, rh, (Po.bind p).imp fun J H1 ⟨A1, it, h1, l1, rh1, ok, p1⟩ => fun Dd nD => ?_⟩
  have rhD : RH L (A1 ++ [Dd]) (h1 ++ [.lst []]) (upd H1 Dd (.lst [])) := rh1.newO nD ⟨[], upd_same, .nil⟩
  have lD : Le A1 H1 (A1 ++ [Dd]) (upd H1 Dd (.lst [])) := Le.newA nD
  have eD : ∀ {A' : List Addr} {H' : Hp}, Le (A1 ++ [Dd]) (upd H1 Dd (.lst [])) A' H' → A'[h1.length]? = some Dd := fun l => l.at (by rw [← rh1.len]; simp)
  refine ⟨fun i m H' => ∃ A' h', Le (A1 ++ [Dd]) (upd H1 Dd (.lst [])) A' H' ∧ RH L A' h' H' ∧ Po L W σ A' H' (RD L) (lc2G me mt mt1 tg' tg1 it mi1 h1.length (dwipe δ vs) vs1 m i h') Q, ⟨cntI it h1, _, _, Le.refl _ _, rhD, Po.le lD p1⟩, ?_⟩
  rintro i m H2 ⟨A2, h2, l2, rh2, p2⟩
  obtain ⟨stop, go⟩ := ok A2 H2 h2 i (lD.trans l2) rh2
  have rs2 : RS L A2 H2 (dwipe δ vs) (L2.wipe σ vs) := (rs.mono (l1.trans (lD.trans l2))).wipe vs
  cases m with
  | zero =>
    unfold lc2G at p2
    split at p2
    · rename_i en
      exact .inl ⟨stop en, Po.ok p2 rh2 (.loc (eD l2))⟩
    · exact p2.elim
  | succ f =>
    unfold lc2G at p2
    split at p2
    · exact p2.elim
    · rename_i en
      exact .inl ⟨stop en, Po.ok p2 rh2 (.loc (eD l2))⟩
    · rename_i d en
      obtain ⟨g1, g2⟩ := go d en
      refine .inr ⟨g1, fun H' => ∃ A' h', Le (A1 ++ [Dd]) (upd H1 Dd (.lst [])) A' H' ∧ RH L A' h' H' ∧ Po L W σ A' H' (RD L) (lc2G me mt mt1 tg' tg1 it mi1 h1.length (dwipe δ vs) vs1 f (i + 1) h') Q, fun H' hN => ⟨f, Nat.lt_succ_self f, hN⟩, fun x H' hy => ?_⟩
      obtain ⟨A3, l3, rh3, rd3⟩ := g2 x H' hy
      refine ⟨A3, dwipe δ vs, h2, d, rs2.mono l3, rh3, rd3, ?_⟩
      cases ea : asgT tg' d (dwipe δ vs) with
      | none => rw [ea] at p2; exact p2.elim
      | some δ3 =>
        rw [ea] at p2
        intro σ' rs' hw
        refine ⟨(hw vs hv).trans (wipe_wipe σ vs), A3, δ3, h2, rs', rh3, ?_⟩
        have p3 := Po.le l3 p2
        cases et : mt δ3 h2 with
        | no => simp only [et] at p3; exact p3.elim
        | ex c fs h4 => simp only [et] at p3; exact p3.elim
        | ok b h4 =>
          intro A4 b' H4 l4 rh4 eb
          cases eb
          cases b with
          | false =>
            simp only [et] at p3
            rw [if_neg Bool.false_ne_true]
            exact ⟨A4, h4, l2.trans (l3.trans l4), rh4, Po.le l4 p3⟩
          | true =>
            simp only [et] at p3
            rw [if_pos rfl]
            refine ⟨A4, δ3, h4, rs'.mono l4, rh4, ?_⟩
            cases e5 : mi1 δ3 h4 with
            | no => simp only [e5] at p3; exact p3.elim
            | ex c fs h5 => simp only [e5] at p3; exact p3.elim
            | ok it1 h5 =>
              intro A5 J1 H5 l5 rh5 ok1
              simp only [e5] at p3
              have l25 := l2.trans (l3.trans (l4.trans l5))
              have rs5 : RS L A5 H5 δ3 σ' := rs'.mono (l4.trans l5)
              have l35 := l4.trans l5
              -- what is wanted behind the inner loop
              have goal : ∀ (A6 : List Addr) (H6 : Hp) (h6 : AH), Le A5 H5 A6 H6 → RH L A6 h6 H6 → (∃ h3, lcN me mt1 tg1 it1 h1.length (dwipe δ3 vs1) (cntI it1 h5) 0 h5 = some h3) → True := fun _ _ _ _ _ _ => trivial
              cases e6 : lcN me mt1 tg1 it1 h1.length (dwipe δ3 vs1) (cntI it1 h5) 0 h5 with
              | none => simp only [e6] at p3; exact p3.elim
              | some hE =>
                simp only [e6] at p3
                refine ⟨fun j k H' => ∃ A' h', Le A5 H5 A' H' ∧ RH L A' h' H' ∧ lcN me mt1 tg1 it1 h1.length (dwipe δ3 vs1) k j h' = some hE, ⟨cntI it1 h5, A5, h5, Le.refl _ _, rh5, e6⟩, ?_⟩
                rintro j k H7 ⟨A7, h7, l7, rh7, e7⟩
                obtain ⟨stop1, go1⟩ := ok1 A7 H7 h7 j l7 rh7
                have rs7 : RS L A7 H7 (dwipe δ3 vs1) (L2.wipe σ' vs1) := (rs5.mono l7).wipe vs1
                have fin : hE = h7 → ∃ A' h', Le (A1 ++ [Dd]) (upd H1 Dd (.lst [])) A' H7 ∧ RH L A' h' H7 ∧ Po L W σ A' H7 (RD L) (lc2G me mt mt1 tg' tg1 it mi1 h1.length (dwipe δ vs) vs1 f (i + 1) h') Q := fun e => by
                  subst e
                  exact ⟨A7, hE, l25.trans l7, rh7, Po.le (l35.trans l7) p3⟩
                cases k with
                | zero =>
                  unfold lcN at e7
                  split at e7
                  · rename_i en1
                    cases e7
                    exact .inl ⟨stop1 en1, fin rfl⟩
                  · cases e7
                | succ f1 =>
                  unfold lcN at e7
                  split at e7
                  · cases e7
                  · rename_i en1
                    cases e7
                    exact .inl ⟨stop1 en1, fin rfl⟩
                  · rename_i d1 en1
                    obtain ⟨g3, g4⟩ := go1 d1 en1
                    refine .inr ⟨g3, fun H' => ∃ A' h', Le A5 H5 A' H' ∧ RH L A' h' H' ∧ lcN me mt1 tg1 it1 h1.length (dwipe δ3 vs1) f1 (j + 1) h' = some hE, fun H' hN => ⟨f1, Nat.lt_succ_self f1, hN⟩, fun x1 H8 hy1 => ?_⟩
                    obtain ⟨A8, l8, rh8, rd8⟩ := g4 x1 H8 hy1
                    refine ⟨A8, dwipe δ3 vs1, h7, d1, rs7.mono l8, rh8, rd8, ?_⟩
                    cases ea1 : asgT tg1 d1 (dwipe δ3 vs1) with
                    | none => rw [ea1] at e7; cases e7
                    | some δ4 =>
                      rw [ea1] at e7
                      intro σ4 rs4 hw4
                      refine ⟨(hw4 vs1 hv1).trans (wipe_wipe σ' vs1), A8, δ4, h7, rs4, rh8, ?_⟩
                      cases et1 : mt1 δ4 h7 with
                      | no => simp only [et1] at e7; cases e7
                      | ex c fs h9 => simp only [et1] at e7; cases e7
                      | ok b1 h9 =>
                        intro A9 b1' H9 l9 rh9 eb1
                        cases eb1
                        cases b1 with
                        | false =>
                          simp only [et1] at e7
                          rw [if_neg Bool.false_ne_true]
                          exact ⟨A9, h9, l7.trans (l8.trans l9), rh9, e7⟩
                        | true =>
                          simp only [et1] at e7
                          rw [if_pos rfl]
                          refine ⟨A9, δ4, h9, rs4.mono l9, rh9, ?_⟩
                          cases ee : me δ4 h9 with
                          | no => simp only [ee] at e7; cases e7
                          | ex c fs hx => simp only [ee] at e7; cases e7
                          | ok y hx =>
                            intro Ax y' Hx lx rhx ry
                            simp only [ee] at e7
                            have lAll := l7.trans (l8.trans (l9.trans lx))
                            cases eo : hx[h1.length]? with
                            | none => simp only [eo] at e7; cases e7
                            | some o =>
                              simp only [eo] at e7
                              obtain ro := rhx.get _ _ _ (eD (l25.trans lAll)) eo
                              cases o with
                              | lst acc =>
                                obtain ⟨ws, gw, rw'⟩ := ro
                                simp only at e7
                                split at e7
                                · rename_i hz
                                  have mu : mutH (Hx Dd) := by rw [gw]; trivial
                                  refine ⟨ws, gw, by rw [← rw'.length]; exact lim_lt hz, Ax, hx.set h1.length (.lst (acc ++ [y])), lAll.trans (Le.put mu), rhx.put (eD (l25.trans lAll)) eo rfl mu ⟨_, upd_same, RDs.mono (Le.put mu) _ _ (rw'.append (.cons ry .nil))⟩, e7⟩
                                · cases e7
                              | frz _ => cases e7
                              | dct _ => cases e7
                              | lck _ => cases e7
                              | ins _ _ => cases e7
                              | exn _ _ => cases e7
                              | ded => cases e7
end
end Cod

/-! # a dict that is locked while it is walked -/
namespace Cod
open PySem L2
structure Lw (A : List Addr) (H : Hp) (A' : List Addr) (H' : Hp) : Prop where
  ap : ∃ B, A' = A ++ B
  tp : ∀ b xs, H b = some (.tup xs) → H' b = some (.tup xs)
  fz : ∀ b o u, H b = some (.frz o u) → (∀ ws, u ≠ .dK ws) → H' b = some (.frz o u)
  xd : ∀ b ws, H b = some (.xd ws) → H' b = some (.xd ws)
theorem Lw.sqT {K : PySem.W.Frag} {A A' : List Addr} {H H' : Hp} {a : Addr} {xs : List V} (l : Lw A H A' H') (h : SqT K H a xs) : SqT K H' a xs := by
  rcases h with (h | ⟨o, h⟩) | h
  · exact .inl (.inl (l.tp _ _ h))
  · exact .inl (.inr ⟨o, l.fz _ _ _ h fun _ z => nomatch z⟩)
  · exact .inr h
theorem Lw.at {A A' : List Addr} {H H' : Hp} {n : Nat} {a : Addr} (l : Lw A H A' H') (h : A[n]? = some a) : A'[n]? = some a := by
  obtain ⟨⟨B, rfl⟩, _, _, _⟩ := l
  rw [List.getElem?_append_left (List.getElem?_eq_some_iff.mp h).1]
  exact h
mutual
theorem RD.monoW {L : Lk} {A A' : List Addr} {H H' : Hp} (l : Lw A H A' H') : ∀ (d : D) (v : V), RD L A H d v → RD L A' H' d v
  | .non, _, h => by cases h; exact .non
  | .bl _, _, h => by cases h; exact .bl _
  | .int _, _, h => by cases h; exact .int _
  | .str _, _, h => by cases h; exact .str _
  | .ty _, _, h => by cases h; exact .ty _
  | .fn _, _, h => by cases h; exact .fn _
  | .cl _, _, h => by cases h; exact .cl _
  | .loc _, _, h => by cases h with | loc e => exact .loc (l.at e)
  | .tup xs, _, h => by cases h with | tup e q => exact .tup (l.sqT e) (RDs.monoW l xs _ q)
  | .kd ks xs, _, h => by cases h with | kd e q => exact .kd e (RDs.monoW l xs _ q)
theorem RDs.monoW {L : Lk} {A A' : List Addr} {H H' : Hp} (l : Lw A H A' H') : ∀ (ds : List D) (vs : List V), RDs L A H ds vs → RDs L A' H' ds vs
  | [], _, h => by cases h; exact .nil
  | d :: ds, _, h => by cases h with | cons p q => exact .cons (RD.monoW l d _ p) (RDs.monoW l ds _ q)
end
section
variable {L : Lk} {A A' : List Addr} {H H' : Hp}
theorem RKs.monoW {κ : Type} (l : Lw A H A' H') : ∀ {ds : List (κ × D)} {vs : List (κ × V)}, RKs L A H ds vs → RKs L A' H' ds vs
  | _, _, .nil => .nil
  | _, _, .cons p q => .cons (RD.monoW l _ _ p) (RKs.monoW l q)
theorem RX.monoW (l : Lw A H A' H') {fs : List (Str × D)} {d : Option Addr} (h : RX L A H fs d) : RX L A' H' fs d := by
  cases d with
  | none => exact h
  | some a => obtain ⟨ws, e, r⟩ := h; exact ⟨ws, l.xd _ _ e, RKs.monoW l r⟩
theorem Kfz.monoW {a : Addr} {o : O} (l : Lw A H A' H') (h : Kfz L A H a o) : Kfz L A' H' a o := by
  rcases h with ⟨xs, vs, e, k, r⟩ | ⟨c, fs, d, e, k, r⟩ | e
  · exact .inl ⟨xs, vs, e, k, RDs.monoW l _ _ r⟩
  · exact .inr (.inl ⟨c, fs, d, e, k, RX.monoW l r⟩)
  · exact .inr (.inr e)
theorem RO.monoW {a : Addr} {o : O} (l : Lw A H A' H') (e : H' a = H a) (h : RO L A H a o) : RO L A' H' a o := by
  cases o with
  | lst xs => obtain ⟨vs, q, r⟩ := h; exact ⟨vs, e.trans q, RDs.monoW l _ _ r⟩
  | frz xs =>
    obtain ⟨vs, ⟨ob, q⟩ | q, r⟩ := h
    · exact ⟨vs, .inl ⟨ob, e.trans q⟩, RDs.monoW l _ _ r⟩
    · exact ⟨vs, .inr q, RDs.monoW l _ _ r⟩
  | dct xs => obtain ⟨vs, q, r⟩ := h; exact ⟨vs, e.trans q, RKs.monoW l r⟩
  | lck xs => obtain ⟨vs, ⟨ob, q⟩, r⟩ := h; exact ⟨vs, ⟨ob, e.trans q⟩, RKs.monoW l r⟩
  | ins c xs => obtain ⟨dx, vs, q, r⟩ := h; exact ⟨dx, vs, e.trans q, RKs.monoW l r⟩
  | exn c fs => obtain ⟨d, q, r⟩ := h; exact ⟨d, q, RX.monoW l r⟩
  | ded => trivial
theorem RS.monoW {δ : Sl} {σ : L2.St} (l : Lw A H A' H') (r : RS L A H δ σ) : RS L A' H' δ σ :=
  ⟨r.len, fun i d e => let ⟨v, e1, q⟩ := r.get i d e; ⟨v, e1, RD.monoW l _ _ q⟩⟩
theorem Lw.unlock {a : Addr} {od : Obj} {ws : List (Key × V)} {u : HO} (g : H a = some (.frz od (.dK ws))) : Lw A H A (upd H a u) :=
  ⟨⟨[], by simp⟩, fun b xs e => by rw [upd_ne fun z => by rw [z, g] at e; cases e]; exact e, fun b o u e n => by rw [upd_ne fun z => by rw [z, g] at e; cases e; exact n ws rfl]; exact e, fun b ws e => by rw [upd_ne fun z => by rw [z, g] at e; cases e]; exact e⟩
theorem RH.unlock {h : AH} {n : Nat} {a : Addr} {od : Obj} {ws : List (Key × V)} {kvs : List (Key × D)} (r : RH L A h H) (e : A[n]? = some a) (e0 : h[n]? = some (.lck kvs)) (g : H a = some (.frz od (.dK ws))) : RH L A (h.set n (.dct kvs)) (upd H a (.dK ws)) := by
  have hn : n < h.length := (List.getElem?_eq_some_iff.mp e0).1
  have lw : Lw A H A (upd H a (.dK ws)) := Lw.unlock g
  have kf : ∀ {k : Nat} {w : O}, k ≠ n → A[k]? = some a → h[k]? = some w → Kfz L A (upd H a (.dK ws)) a w := fun {k w} hk e1 e2 => by
    rcases r.ap k n a w _ e1 e e2 e0 with z | z | z
    · exact absurd z hk
    · exact z.monoW lw
    · have := z.rdo; cases this
  refine ⟨by simp [r.len], fun k l b w v e1 e2 e3 e4 => ?_, fun k b w e1 e2 => ?_, fun P hP => ?_⟩
  · by_cases hk : k = n
    · by_cases hl : l = n
      · exact .inl (hk.trans hl.symm)
      · subst hk
        rw [e] at e1; cases e1
        rw [List.getElem?_set_ne (Ne.symm hl)] at e4
        exact .inr (.inr (kf hl e2 e4))
    · rw [List.getElem?_set_ne (Ne.symm hk)] at e3
      by_cases hl : l = n
      · subst hl
        rw [e] at e2; cases e2
        exact .inr (.inl (kf hk e1 e3))
      · rw [List.getElem?_set_ne (Ne.symm hl)] at e4
        exact (r.ap k l b w v e1 e2 e3 e4).imp id (Or.imp (·.monoW lw) (·.monoW lw))
  · by_cases hk : k = n
    · subst hk
      rw [e] at e1; cases e1
      rw [List.getElem?_set_self hn] at e2
      cases e2
      obtain ⟨ws', ⟨ob, g'⟩, r1⟩ := r.get _ _ _ e e0
      rw [g] at g'
      cases g'
      exact ⟨ws, upd_same, RKs.monoW lw r1⟩
    · rw [List.getElem?_set_ne (Ne.symm hk)] at e2
      by_cases hb : b = a
      · subst hb; exact (kf hk e1 e2).ro
      · exact (r.get k b w e1 e2).monoW lw (upd_ne hb)
  · refine (r.tab P hP).kept fun b u z hu => ?_
    rw [upd_ne fun y => by
      rw [y, g] at z
      rcases hu with ⟨ps, rfl⟩ | ⟨c, Q, rfl⟩
      · cases z
      · cases z]
    exact z
end
/-- the dict that a part of the program tells, ahead of it -/
noncomputable def lckN (m : ED) (δ : Sl) (h : AH) : Option (Nat × List (Key × D)) := match m δ h with
  | .ok (.loc n) _ => match h[n]? with
    | some (.dct kvs) => some (n, kvs)
    | _ => none
  | _ => none
noncomputable def unlk (n : Nat) (h : AH) : Option AH := match h[n]? with
  | some (.lck kvs) => some (h.set n (.dct kvs))
  | _ => none
noncomputable def unlkS (n : Nat) : RT → RT
  | .nx δ h => match unlk n h with
    | some h' => .nx δ h'
    | none => .no
  | .rt d h => match unlk n h with
    | some h' => .rt d h'
    | none => .no
  | _ => .no
noncomputable def lockS (mk : ED) (m : SD) : SD := fun δ h => match lckN mk δ h with
  | some (n, kvs) => unlkS n (m δ (h.set n (.lck kvs)))
  | none => m δ h
noncomputable def unlkE (n : Nat) : R D → R D
  | .ok d h => match unlk n h with
    | some h' => .ok d h'
    | none => .no
  | _ => .no
noncomputable def lockE (mk : ED) (m : ED) : ED := fun δ h => match lckN mk δ h with
  | some (n, kvs) => unlkE n (m δ (h.set n (.lck kvs)))
  | none => m δ h
theorem lckN_at {m : ED} {δ : Sl} {h : AH} {n : Nat} {kvs : List (Key × D)} (e : lckN m δ h = some (n, kvs)) : h[n]? = some (.dct kvs) := by
  unfold lckN at e
  split at e
  · split at e
    · cases e; assumption
    · cases e
  · cases e
section
variable {X : Cx} {L : Lk} {W : WX}
theorem unlk_ok {A A' : List Addr} {H H' : Hp} {h' h2 : AH} {n : Nat} {a : Addr} {od : Obj} {ws : List (Key × V)} (ea : A[n]? = some a) (g : H a = some (.dK ws)) (l : Le A (upd H a (.frz od (.dK ws))) A' H') (rh : RH L A' h' H') (e : unlk n h' = some h2) :
    H' a = some (.frz od (.dK ws)) ∧ Le A H A' (upd H' a (.dK ws)) ∧ RH L A' h2 (upd H' a (.dK ws)) ∧ Lw A' H' A' (upd H' a (.dK ws)) := by
  have g' : H' a = some (.frz od (.dK ws)) := l.fz _ _ _ upd_same
  unfold unlk at e
  split at e
  · rename_i kvs e0
    cases e
    refine ⟨g', ⟨l.ap, fun b xs z => ?_, fun b o u z => ?_, fun b xs z => ?_⟩, rh.unlock (l.at ea) e0 g', Lw.unlock g'⟩
    · have hb : b ≠ a := fun y => by rw [y, g] at z; cases z
      rw [upd_ne hb]; exact l.tp _ _ (by rw [upd_ne hb]; exact z)
    · have hb : b ≠ a := fun y => by rw [y, g] at z; cases z
      rw [upd_ne hb]; exact l.fz _ _ _ (by rw [upd_ne hb]; exact z)
    · have hb : b ≠ a := fun y => by rw [y, g] at z; cases z
      rw [upd_ne hb]; exact l.xd _ _ (by rw [upd_ne hb]; exact z)
  · cases e
theorem s_lock {st : Stmt} {m : SD} (mk : ED) (hs : PS X st (tS L W m)) : PS X st (tS L W (lockS mk m)) := by
  refine ⟨fun pins s σ H D I ⟨A, δ, h, rs, rh, p⟩ => ?_⟩
  unfold lockS at p
  split at p
  · rename_i n kvs e
    have e0 := lckN_at e
    obtain ⟨a, ea, ws, g, r⟩ := rh.addr e0
    have mu : mutH (H a) := by rw [g]; trivial
    refine (ps_lock hs).run pins s σ H D I ⟨a, .dK ws, g, trivial, fun od => ⟨A, δ, h.set n (.lck kvs), rs.mono (Le.put mu), rh.put ea e0 rfl mu ⟨ws, ⟨od, upd_same⟩, RKs.mono (Le.put mu) r⟩, ?_⟩⟩
    generalize m δ (h.set n (.lck kvs)) = t at p
    cases t with
    | nx δ' h' =>
      simp only [unlkS] at p
      split at p
      · rename_i h2 eu
        intro A' σ' H' l rs' rh'
        obtain ⟨g', l2, rh2, lw⟩ := unlk_ok ea g l rh' eu
        exact ⟨g', p A' σ' _ l2 (rs'.monoW lw) rh2⟩
      · exact p.elim
    | rt d h' =>
      simp only [unlkS] at p
      split at p
      · rename_i h2 eu
        intro A' v H' l rh' rd
        obtain ⟨g', l2, rh2, lw⟩ := unlk_ok ea g l rh' eu
        exact ⟨g', p A' v _ l2 rh2 (RD.monoW lw _ _ rd)⟩
      · exact p.elim
    | bk δ' h' => exact p.elim
    | ct δ' h' => exact p.elim
    | ex c fs δ' h' => exact p.elim
    | no => exact p.elim
  · exact hs.run pins s σ H D I ⟨A, δ, h, rs, rh, p⟩
theorem e_lock {e : Expr} {m : ED} (mk : ED) (he : PE X e (tE L W m)) : PE X e (tE L W (lockE mk m)) := by
  refine ⟨fun pins s σ H Q I ⟨A, δ, h, rs, rh, p⟩ => ?_⟩
  unfold lockE at p
  split at p
  · rename_i n kvs e
    have e0 := lckN_at e
    obtain ⟨a, ea, ws, g, r⟩ := rh.addr e0
    have mu : mutH (H a) := by rw [g]; trivial
    refine (pe_lock he).run pins s σ H Q I ⟨a, .dK ws, g, trivial, fun od => ⟨A, δ, h.set n (.lck kvs), rs.mono (Le.put mu), rh.put ea e0 rfl mu ⟨ws, ⟨od, upd_same⟩, RKs.mono (Le.put mu) r⟩, ?_⟩⟩
    generalize m δ (h.set n (.lck kvs)) = t at p
    cases t with
    | ok d h' =>
      simp only [unlkE] at p
      split at p
      · rename_i h2 eu
        intro A' v H' l rh' rd
        obtain ⟨g', l2, rh2, lw⟩ := unlk_ok ea g l rh' eu
        exact ⟨g', p A' v _ l2 rh2 (RD.monoW lw _ _ rd)⟩
      · exact p.elim
    | ex c fs h' => exact p.elim
    | no => exact p.elim
  · exact he.run pins s σ H Q I ⟨A, δ, h, rs, rh, p⟩
end
end Cod

/-! # dict comprehensions -/
namespace Cod
open PySem L2
variable {L : Lk} {W : WX}
noncomputable def dcG (ek ev : ED) (test : BD) (tg : Tg) (it : Itg) (N : Nat) (δ : Sl) : Nat → Nat → AH → R D
  | 0, i, h => match nxtI it i h with
    | some none => .ok (.loc N) h
    | _ => .no
  | f + 1, i, h => match nxtI it i h with
    | none => .no
    | some none => .ok (.loc N) h
    | some (some d) => match asgT tg d δ with
      | none => .no
      | some δ1 => match test δ1 h with
        | .ok true h1 => (match ek δ1 h1 with
          | .ok y h2 => (match ev δ1 h2 with
            | .ok z h3 => (match keyOf y, h3[N]? with
              | some k, some (.dct acc) => if acc.length < lim then dcG ek ev test tg it N δ f (i + 1) (h3.set N (.dct (putD acc k z))) else .no
              | _, _ => .no)
            | _ => .no)
          | _ => .no)
        | .ok false h1 => dcG ek ev test tg it N δ f (i + 1) h1
        | _ => .no
noncomputable def eDc (mi : ID) (tg : Tg) (test : BD) (ek ev : ED) (vs : List Nat) : ED := fun δ h => (mi δ h).bind fun it h1 => dcG ek ev test tg it h1.length (dwipe δ vs) (cntI it h1) 0 (h1 ++ [.dct []])
theorem dc_of {mi : ID} {tg' : Tg} {mt : BD} {mk mv : ED} {vs : List Nat} (hv : ∀ i ∈ tgS tg', i ∈ vs) (σ : L2.St) (H : Hp) (Q : VK) : tE L W (eDc mi tg' mt mk mv vs) σ H Q → tDc (tI L W mi) (tG L tg') (tBo L W0 mt) (tE L W0 mk) (tE L W0 mv) vs σ H Q := by
  rintro ⟨A, δ, h, rs, rh, p⟩
  refine ⟨A, δ, h, rs, rh, (Po.bind p).imp fun J H1 ⟨A1, it, h1, l1, rh1, ok, p1⟩ => fun Dd nD => ?_⟩
  have rhD : RH L (A1 ++ [Dd]) (h1 ++ [.dct []]) (upd H1 Dd (.dK [])) := rh1.newO nD ⟨[], upd_same, .nil⟩
  have lD : Le A1 H1 (A1 ++ [Dd]) (upd H1 Dd (.dK [])) := Le.newA nD
  have eD : ∀ {A' : List Addr} {H' : Hp}, Le (A1 ++ [Dd]) (upd H1 Dd (.dK [])) A' H' → A'[h1.length]? = some Dd := fun l => l.at (by rw [← rh1.len]; simp)
  refine ⟨fun i m H' => ∃ A' h', Le (A1 ++ [Dd]) (upd H1 Dd (.dK [])) A' H' ∧ RH L A' h' H' ∧ Po L W σ A' H' (RD L) (dcG mk mv mt tg' it h1.length (dwipe δ vs) m i h') Q, ⟨cntI it h1, _, _, Le.refl _ _, rhD, Po.le lD p1⟩, ?_⟩
  rintro i m H2 ⟨A2, h2, l2, rh2, p2⟩
  obtain ⟨stop, go⟩ := ok A2 H2 h2 i (lD.trans l2) rh2
  have rs2 : RS L A2 H2 (dwipe δ vs) (L2.wipe σ vs) := (rs.mono (l1.trans (lD.trans l2))).wipe vs
  cases m with
  | zero =>
    unfold dcG at p2
    split at p2
    · rename_i en
      exact .inl ⟨stop en, Po.ok p2 rh2 (.loc (eD l2))⟩
    · exact p2.elim
  | succ f =>
    unfold dcG at p2
    split at p2
    · exact p2.elim
    · rename_i en
      exact .inl ⟨stop en, Po.ok p2 rh2 (.loc (eD l2))⟩
    · rename_i d en
      obtain ⟨g1, g2⟩ := go d en
      refine .inr ⟨g1, fun H' => ∃ A' h', Le (A1 ++ [Dd]) (upd H1 Dd (.dK [])) A' H' ∧ RH L A' h' H' ∧ Po L W σ A' H' (RD L) (dcG mk mv mt tg' it h1.length (dwipe δ vs) f (i + 1) h') Q, fun H' hN => ⟨f, Nat.lt_succ_self f, hN⟩, fun x H' hy => ?_⟩
      obtain ⟨A3, l3, rh3, rd3⟩ := g2 x H' hy
      refine ⟨A3, dwipe δ vs, h2, d, rs2.mono l3, rh3, rd3, ?_⟩
      cases ea : asgT tg' d (dwipe δ vs) with
      | none => rw [ea] at p2; exact p2.elim
      | some δ3 =>
        rw [ea] at p2
        intro σ' rs' hw
        refine ⟨(hw vs hv).trans (wipe_wipe σ vs), A3, δ3, h2, rs', rh3, ?_⟩
        have p3 := Po.le l3 p2
        cases et : mt δ3 h2 with
        | no => simp only [et] at p3; exact p3.elim
        | ex c fs h4 => simp only [et] at p3; exact p3.elim
        | ok b h4 =>
          intro A4 b' H4 l4 rh4 eb
          cases eb
          cases b with
          | false =>
            simp only [et] at p3
            rw [if_neg Bool.false_ne_true]
            exact ⟨A4, h4, l2.trans (l3.trans l4), rh4, Po.le l4 p3⟩
          | true =>
            simp only [et] at p3
            rw [if_pos rfl]
            refine ⟨A4, δ3, h4, rs'.mono l4, rh4, ?_⟩
            cases ee : mk δ3 h4 with
            | no => simp only [ee] at p3; exact p3.elim
            | ex c fs h5 => simp only [ee] at p3; exact p3.elim
            | ok y h5 =>
              intro A5 y' H5 l5 rh5 ry
              simp only [ee] at p3
              refine ⟨A5, δ3, h5, rs'.mono (l4.trans l5), rh5, ?_⟩
              cases ez : mv δ3 h5 with
              | no => simp only [ez] at p3; exact p3.elim
              | ex c fs h6 => simp only [ez] at p3; exact p3.elim
              | ok z h6 =>
                intro A6 z' H6 l6 rh6 rz
                simp only [ez] at p3
                have l26 := l2.trans (l3.trans (l4.trans (l5.trans l6)))
                split at p3
                · rename_i k acc hk e6
                  obtain ⟨ws, g6, r6⟩ := rh6.get _ _ _ (eD l26) e6
                  split at p3
                  · rename_i hz
                    have mu : mutH (H6 Dd) := by rw [g6]; trivial
                    refine ⟨ws, k, keyOf_ok ry hk, g6, by rw [← r6.length]; exact lim_lt hz, A6, h6.set h1.length (.dct (putD acc k z)), l26.trans (Le.put mu), rh6.put (eD l26) e6 rfl mu ⟨_, upd_same, RKs.mono (Le.put mu) (r6.put rz)⟩, Po.le (l4.trans (l5.trans (l6.trans (Le.put mu)))) p3⟩
                  · exact p3.elim
                · exact p3.elim
end Cod

namespace Cod
open PySem L2 PyProof.Rows

noncomputable abbrev Fn := Nat → List D → AH → R D
noncomputable def spOf (L : Lk) (n : Nat) (F : List D → AH → R D) : Sp := fun vs H Q E => vs.length = n ∧ ∃ A ds h, RH L A h H ∧ RDs L A H ds vs ∧ Po L (fun c d _ H => E c d H) [] A H (RD L) (F ds h) Q
noncomputable def callD (n : Nat) (F : List D → AH → R D) (ds : List D) (h : AH) : R D := if ds.length = n then F ds h else .no
section
variable {X : Cx} {L : Lk} {W : WX}
theorem Po.wish {α β : Type} {rel : List Addr → Hp → α → β → Prop} {σ σ' : L2.St} {A : List Addr} {H : Hp} {r : R α} {Q : β → Hp → Prop} {W' : WX} (p : Po L W σ A H rel r Q) (h : ∀ c d H, W c d σ H → W' c d σ' H) : Po L W' σ' A H rel r Q := by
  cases r with
  | ok a h' => exact p
  | ex c fs h' => exact fun A' dd H' l r q => h _ _ _ (p A' dd H' l r q)
  | no => exact p
theorem e_call {k i n : Nat} {f : Addr} {fd : FuncData} {ps : List Str} {F : List D → AH → R D} {x : Str} {m : AD} {e : Expr} {es : List Expr} {p pos : Pos} (G : FnOk X.prog X.w X.K X.mg X.base (L2.CX X.prog X.w) k f fd ps (spOf L n F)) (hr : Room k X.A) (hg : Gl X x) (hm : X.mg x = some (.ref f)) (hk : PySem.W.keepIn X.K (.ref f) = true) (hb : Binds X.K fd ps [])
    (tk : Takes X W) (ha : PA X (e :: es) (tAr L W m)) (hdb : (x == ("__debug__" : Str)) = false) (he : starEach (e :: es) X.env = (false, eval e X.env) :: starEach es X.env) (hpl : (backTo pos (starEach es X.env)).any (·.1) = false) :
    PE X (.Call (.Name x p) (e :: es) [] pos) (tE L W (eA (callD n F) m)) := by
  refine PE.weak (pe_callS (E := WE W) G hr hg hm hk hb (passAt tk) ha hdb he hpl) fun σ H Q ⟨A, δ, h, rs, rh, p⟩ => ?_
  refine ⟨A, δ, h, rs, rh, (Po.bind p).imp fun vs H1 ⟨A1, ds, h1, l, rh1, q, p1⟩ => ?_⟩
  unfold callD at p1
  split at p1
  · rename_i hn
    exact ⟨by rw [← q.length]; exact hn, A1, ds, h1, rh1, q, Po.wish p1 fun c d H hw => hw⟩
  · exact p1.elim
theorem e_call0 {k i n : Nat} {f : Addr} {fd : FuncData} {ps : List Str} {F : List D → AH → R D} {x : Str} {p pos : Pos} (G : FnOk X.prog X.w X.K X.mg X.base (L2.CX X.prog X.w) k f fd ps (spOf L n F)) (hr : Room k X.A) (hg : Gl X x) (hm : X.mg x = some (.ref f)) (hk : PySem.W.keepIn X.K (.ref f) = true) (hb : Binds X.K fd ps [])
    (tk : Takes X W) (hdb : (x == ("__debug__" : Str)) = false) :
    PE X (.Call (.Name x p) [] [] pos) (tE L W (eA (callD n F) aNil)) := by
  refine ⟨fun pins s σ H Q I ⟨A, δ, h, rs, rh, p⟩ => ?_⟩
  refine wpAny_Call_Name_kw (ld_glob I hg hm ?_ hdb)
  refine PySem.W.callWith_K0 I.kIn hk (run_fnS (us := []) (vs := []) (E := WE W) G hr hb (passAt tk σ) I .nil ?_)
  have p1 : Po L W σ A H (RD L) (callD n F [] h) Q := p
  unfold callD at p1
  split at p1
  · rename_i hn
    exact ⟨hn, A, [], h, rh, .nil, Po.wish p1 fun c d H hw => hw⟩
  · exact p1.elim
end
/-- a body as a function -/
noncomputable def startD (n : Nat) (ds : List D) : Sl := ds.map some ++ List.replicate (n - ds.length) none
noncomputable def fnD (n : Nat) (m : SD) (ds : List D) (h : AH) : R D := match m (startD n ds) h with
  | .rt d h' => .ok d h'
  | .nx _ h' => .ok .non h'
  | .ex c fs _ h' => .ex c fs h'
  | _ => .no
theorem RDs.strt {L : Lk} {A : List Addr} {H : Hp} {ds : List D} {vs : List V} (r : RDs L A H ds vs) (N : List Str) : RS L A H (startD N.length ds) (L2.start N vs) := by
  unfold startD L2.start
  have hl := r.length
  refine ⟨by simp [hl], fun i d e => ?_⟩
  by_cases hi : i < ds.length
  · rw [List.getElem?_append_left (by simpa using hi), List.getElem?_map] at e
    cases e1 : ds[i]? with
    | none => rw [e1] at e; cases e
    | some d' =>
      rw [e1] at e
      cases e
      obtain ⟨v, ev, rv⟩ := r.get e1
      exact ⟨v, by rw [List.getElem?_append_left (by simp; omega), List.getElem?_map, ev]; rfl, rv⟩
  · rw [List.getElem?_append_right (by simpa using hi), List.getElem?_replicate] at e
    split at e <;> cases e
section
variable {P : Program} {w : World} {L : Lk} {mg : Str → Option Value} {base : Heap}
theorem fn_ok {x qual : Str} {st : Stmt} {f : Addr} {fd : FuncData} {N ps : List Str} {k : Nat} {m : SD} (F : Fun L.K x qual st f fd) (S : FnScope N ps (defScope st))
    (hbody : ∀ (cdv : Value), fd.code = cdv → ∀ (A : Around) (outer : List Env) (s : Shared) (H : Hp) (E : XK), Room k (A.deeper (envOfC qual (defScope st) s.heap.objs.size f cdv)) →
      PSs (cxOf (L2.CX P w) P w L.K mg base N qual (defScope st) f cdv A outer s H E) (defBody st) (tS L (fun cls d _ H => E cls d H) m)) :
    FnOk P w L.K mg base (L2.CX P w) (k + 1) f fd ps (spOf L ps.length (fnD N.length m)) := by
  obtain ⟨oc, od, kV, doc, pm, an, cdv, ct, osl, rfl, lk, hcd⟩ := F.ex
  refine fn_of lk hcd S (fun vs H Q E h => h.1) fun A outer s H vs Q E hr ⟨hl, A1, ds, h1, rh, rd, p⟩ => ⟨_, hbody cdv rfl A outer s H E hr, A1, startD N.length ds, h1, rd.strt N, rh, ?_⟩
  unfold fnD at p
  cases e : m (startD N.length ds) h1 with
  | rt d h' => simp only [e] at p; exact p
  | nx δ h' => simp only [e] at p; exact fun A' σ' H' l rs rh => p A' .non H' l rh .non
  | bk δ h' => simp only [e] at p; exact p.elim
  | ct δ h' => simp only [e] at p; exact p.elim
  | ex c fs δ h' => simp only [e] at p; exact fun A' σ' dd H' l rs rh q => p A' dd H' l rh q
  | no => simp only [e] at p; exact p.elim
end
/-- the running code object: its table is told by the heap; d: it is one of those in T -/
noncomputable def CodK (X : Cx) (T : List Addr) (d : Bool) : Prop := ∃ c, X.env.code = .ref c ∧ (∃ P0, X.base.BuiltinsAt X.mg P0) ∧ (d = true → ∃ P ∈ T, PySem.W.CodeHd X.base c P) ∧ ∀ (pins : List (Addr × Obj)) (σ : L2.St) (H : Hp) (s : Shared), Inv X pins σ H s → (∀ P ∈ T, TabD H P) →
  ∃ (P : Addr) (ps : Array Value), PySem.W.CodeHd s.heap c P ∧ H P = some (.tbl ps) ∧ TriplesOk ps.toList ∧ (d = true → P ∈ T)
/-! ### own classes: their fields and methods -/
noncomputable def lookC (cls : List (Nat × List Str)) (c : Nat) (f : Str) : Bool := match cls.lookup c with
  | some l => decide (f ∈ l)
  | none => false
noncomputable def ClsOk (K : PySem.W.Frag) (L : Lk) (cls : List (Nat × List Str)) : Prop := ∀ c f, lookC cls c f = true → Cls K (L.cA c) ∧ NoAttr K (L.cA c) f
noncomputable abbrev Mth := List ((Nat × Str) × Nat × Nat)
/-- each method as it stands in its class -/
noncomputable def MthOk (X : Cx) (L : Lk) (fn : Fn) (k : Nat) (mth : Mth) : Prop := ∀ c m i np, mth.lookup (c, m) = some (i, np) → ∃ fd ps, Cls X.K (L.cA c) ∧ Meth X.K (L.cA c) m (L.fA i) ∧ Binds X.K fd ps [] ∧ FnOk X.prog X.w X.K X.mg X.base (L2.CX X.prog X.w) k (L.fA i) fd ps (spOf L np (fn i))
/-! ### how a place of the text is seen -/
inductive Gi where
  | fn (i n : Nat)
  | cls (c i n : Nat)
  | val (d : D)
  | exc (c n : Nat) (fs : Option (List (Str × Src)))
structure Gm where
  N : List Str
  names : List (Str × NameKind)
  top : Str → Bool
  glb : List (Str × Gi)
  blt : List Str
  nest : Nat
  gx : Bool
  tab : List ((Nat × Nat) × Bool)
  xf : List (Nat × List Str)
  df : Bool
  g1 : Bool
  dk : List Str
  mth : Mth
  cls : List (Nat × List Str)
  xm : List ((Nat × Str) × MkI)
/-- a method of an own exception class, called where a suite holds the exception -/
noncomputable def XmOk (P : Program) (w : World) (K : PySem.W.Frag) (mg : Str → Option Value) (base : Heap) (C : Addr) (m : Str) (i : MkI) : Prop := ∃ f fd ps, XfC K C ∧ XMeth K C m f ∧ Binds K fd ps [] ∧ ps.length = i.n + 1 ∧ FnM P w K mg base (L2.CX P w) 1 f fd ps (spK i C)
structure Ok (Γ : Gm) (fn : Fn) (k : Nat) (X : Cx) (L : Lk) (W : WX) : Prop where
  hN : X.N = Γ.N
  nd : X.N.Nodup
  names : X.env.scope.names = Γ.names
  kind : X.env.scope.kind = .function
  calm : X.calm = true
  tk : Takes X W
  own : PassesOwn (model X.prog X.w) X.A X.env X.xe
  room : Room (3 * k + Γ.nest) X.A
  hK : X.K = L.K
  hw : X.w = L.w
  top : ∀ x, Γ.top x = true → X.fn x = true
  gfn : ∀ x i n, Γ.glb.lookup x = some (.fn i n) → ∃ fd ps, X.mg x = some (.ref (L.fA i)) ∧ PySem.W.keepIn X.K (.ref (L.fA i)) = true ∧ Binds X.K fd ps [] ∧ FnOk X.prog X.w X.K X.mg X.base (L2.CX X.prog X.w) (3 * k) (L.fA i) fd ps (spOf L n (fn i))
  gval : ∀ x d, Γ.glb.lookup x = some (.val d) → ∃ v u, X.mg x = some u ∧ RelV v u ∧ RG L d v
  gblt : ∀ x, x ∈ Γ.blt → X.mg x = none
  cod : Γ.gx = true → CodK X L.tb Γ.g1
  gexc : ∀ x c n fs, Γ.glb.lookup x = some (.exc c n fs) → XOk X.prog X.w X.K X.mg X.base (L.cA c) x n fs
  xtab : XTab X.K L Γ.tab Γ.xf
  xn : L.xn = none
  gtup : ∀ x xs, Γ.glb.lookup x = some (.val (.tup xs)) → ∃ (a : Addr) (o : Obj), X.mg x = some (.ref a) ∧ RG L (.tup xs) (.ref a) ∧ X.K.lookup a = some o ∧ o.cls = .type "tuple" ∧ o.dict = none
  stk : Γ.df = true → X.stack = X.env :: X.outer ∧ X.env.frame = some X.env.locals ∧ X.ex = []
  gxm : ∀ c m i, Γ.xm.lookup (c, m) = some i → XmOk X.prog X.w X.K X.mg X.base (L.cA c) m i
  dfg : Γ.df = true → Γ.g1 = true
  gcls : ClsOk X.K L Γ.cls
  gmth : MthOk X L fn (3 * k) Γ.mth
  gmk : ∀ x c i n, Γ.glb.lookup x = some (.cls c i n) → ∃ fd ps, X.mg x = some (.ref (L.cA c)) ∧ Mk X.K (L.cA c) (L.fA i) ∧ Binds X.K fd ps [] ∧ FnOk X.prog X.w X.K X.mg X.base (L2.CX X.prog X.w) (3 * k) (L.fA i) fd ps (spOf L n (fn i))
structure CE (Γ : Gm) (fn : Fn) (e : Expr) where
  m : ED
  ok : ∀ {k : Nat} {X : Cx} {L : Lk} {W : WX}, Ok Γ fn k X L W → PE X e (tE L W m)
structure CB (Γ : Gm) (fn : Fn) (e : Expr) where
  m : BD
  ok : ∀ {k : Nat} {X : Cx} {L : Lk} {W : WX}, Ok Γ fn k X L W → PT X e (tBo L W m)
structure CBw (Γ : Gm) (fn : Fn) (e : Expr) where
  m : BD
  ok : ∀ {k : Nat} {X : Cx} {L : Lk} {W : WX}, Ok Γ fn k X L W → PW X e (tBo L W m)
structure CA (Γ : Gm) (fn : Fn) (es : List Expr) where
  m : AD
  ok : ∀ {k : Nat} {X : Cx} {L : Lk} {W : WX}, Ok Γ fn k X L W → PA X es (tAr L W m)
  star : ∀ {k : Nat} {X : Cx} {L : Lk} {W : WX}, Ok Γ fn k X L W → ∀ p : Pos, (backTo p (starEach es X.env)).any (·.1) = false ∧ (backTo p (starEach es X.env)).all (fun x => !x.1) = true
structure CPr (Γ : Gm) (fn : Fn) (pos : Pos) (keys : List (Option Expr)) (values : List Expr) where
  m : List (ED × ED)
  ok : ∀ {k : Nat} {X : Cx} {L : Lk} {W : WX}, Ok Γ fn k X L W → PPs X pos keys values (m.map fun p => (tE L W p.1, tE L W p.2))
structure CO (Γ : Gm) (fn : Fn) (e : Option Expr) where
  m : OD
  ok : ∀ {k : Nat} {X : Cx} {L : Lk} {W : WX}, Ok Γ fn k X L W → PO X e (tOp' L W m)
structure CG (Γ : Gm) (e : Expr) where
  tg : Tg
  ok : ∀ {fn : Fn} {k : Nat} {X : Cx} {L : Lk} {W : WX}, Ok Γ fn k X L W → PG X e (tG L tg)
structure CGs (Γ : Gm) (es : List Expr) where
  ts : List Tg
  ok : ∀ {fn : Fn} {k : Nat} {X : Cx} {L : Lk} {W : WX}, Ok Γ fn k X L W → PGs X es (tGs L ts)
  len : ∀ env : Env, (assignEach es env).length = ts.length ∧ (assignEach es env).findIdx? (·.1) = none
structure CI (Γ : Gm) (fn : Fn) (tg e : Expr) where
  m : ID
  ok : ∀ {k : Nat} {X : Cx} {L : Lk} {W : WX}, Ok Γ fn k X L W → PI X tg e (tI L W m)
structure CS (Γ : Gm) (fn : Fn) (s : Stmt) where
  m : SD
  ok : ∀ {k : Nat} {X : Cx} {L : Lk} {W : WX}, Ok Γ fn k X L W → PS X s (tS L W m)
structure CSs (Γ : Gm) (fn : Fn) (s : List Stmt) where
  m : SD
  ok : ∀ {k : Nat} {X : Cx} {L : Lk} {W : WX}, Ok Γ fn k X L W → PSs X s (tS L W m)
end Cod

namespace Cod
open PySem L2 PyProof.Rows

/-! ### texts in their order -/
noncomputable def leS (x y : Str) : Bool := !PySem.Spec.ltCps y.cps.toList x.cps.toList
theorem leS_iff {x y : Str} : leS x y = true ↔ x.cps.toList ≤ y.cps.toList := by
  unfold leS
  rw [ltCps_eq]
  simp only [Bool.not_eq_true', decide_eq_false_iff_not]
  exact List.not_lt
theorem leS_trans {x y z : Str} (a : leS x y = true) (b : leS y z = true) : leS x z = true := leS_iff.mpr (List.le_trans (leS_iff.mp a) (leS_iff.mp b))
theorem leS_total (x y : Str) : leS x y = true ∨ leS y x = true := by
  rcases List.le_total x.cps.toList y.cps.toList with h | h
  · exact .inl (leS_iff.mpr h)
  · exact .inr (leS_iff.mpr h)
theorem leS_anti {x y : Str} (a : leS x y = true) (b : leS y x = true) : x = y := by
  have e := List.le_antisymm (leS_iff.mp a) (leS_iff.mp b)
  cases x with | mk cx => cases y with | mk cy =>
  rw [show cx = cy from Array.toList_inj.mp e]
noncomputable def insS (x : Str) : List Str → List Str
  | [] => [x]
  | y :: r => if leS x y = true then x :: y :: r else y :: insS x r
noncomputable def srtS : List Str → List Str
  | [] => []
  | x :: r => insS x (srtS r)
theorem insS_perm (x : Str) : ∀ l : List Str, (insS x l).Perm (x :: l)
  | [] => List.Perm.refl _
  | y :: r => by
    unfold insS
    split
    · exact List.Perm.refl _
    · exact ((insS_perm x r).cons y).trans (List.Perm.swap x y r)
theorem srtS_perm : ∀ l : List Str, (srtS l).Perm l
  | [] => List.Perm.refl _
  | x :: r => (insS_perm x _).trans ((srtS_perm r).cons x)
theorem insS_pw (x : Str) : ∀ l : List Str, l.Pairwise (fun a b => leS a b = true) → (insS x l).Pairwise (fun a b => leS a b = true)
  | [], _ => List.pairwise_singleton _ _
  | y :: r, h => by
    have h' := List.pairwise_cons.mp h
    unfold insS
    split
    · rename_i e
      refine List.pairwise_cons.mpr ⟨fun z hz => ?_, h⟩
      rcases List.mem_cons.mp hz with rfl | hz
      · exact e
      · exact leS_trans e (h'.1 z hz)
    · rename_i e
      refine List.pairwise_cons.mpr ⟨fun z hz => ?_, insS_pw x r h'.2⟩
      rcases List.mem_cons.mp ((insS_perm x r).mem_iff.mp hz) with rfl | hz
      · exact (leS_total _ _).resolve_left e
      · exact h'.1 z hz
theorem srtS_pw : ∀ l : List Str, (srtS l).Pairwise (fun a b => leS a b = true)
  | [] => List.Pairwise.nil
  | x :: r => insS_pw x _ (srtS_pw r)
theorem rise_pw : ∀ (p : Str) (l : List Str), risingS p l = true → (p :: l).Pairwise (fun a b => leS a b = true)
  | p, [], _ => List.pairwise_singleton _ _
  | p, x :: r, h => by
    unfold risingS at h
    rw [Bool.and_eq_true] at h
    have ih := rise_pw x r h.2
    have hpx : leS p x = true := h.1
    refine List.pairwise_cons.mpr ⟨fun z hz => ?_, ih⟩
    rcases List.mem_cons.mp hz with rfl | hz
    · exact hpx
    · exact leS_trans hpx ((List.pairwise_cons.mp ih).1 z hz)
theorem srtS_eq {ys xs : List Str} (hp : ys.Perm xs) (hs : sortedS ys = true) : ys = srtS xs := by
  refine List.Perm.eq_of_pairwise (le := fun a b => leS a b = true) (fun a b _ _ => leS_anti) ?_ (srtS_pw xs) (hp.trans (srtS_perm xs).symm)
  cases ys with
  | nil => exact List.Pairwise.nil
  | cons y r => exact rise_pw y r hs
/-! ### sorted of texts -/
section
variable {prog : Program} {w : World} {A : Around} {E : Value → Shared → Prop} {s : Shared}
theorem collT {l : Addr} {o : Obj} {xs : Array Value} {m : Nat} {Q : List Value → Shared → Prop} (ho : s.heap.get? l = some o) (hc : o.cls = .type "tuple") (hd : o.data = .seq xs m) (hz : xs.size ≤ sizeLine)
    (q : Q xs.toList { s with heap := (s.heap.push (seqObj "list" #[] 0)).update s.heap.objs.size (Obj.mapSeq fun y => y ++ xs) }) : wpAny (model prog w) A (collect (.ref l)) Q E s := by
  unfold collect
  refine wpAny_bind (wpAny_runValue (codeAny_builtin entry_proto_collect' ?_))
  refine wpAny_bind (wpAny_newList (wpAny_pure ⟨Code.quiet_builtin _ (by decide +kernel), codeAny_builtin entry_list_iadd' ?_⟩))
  have ho1 : (s.heap.push (seqObj "list" #[] 0)).get? l = some o := Heap.get?_push_of_some _ ho
  have hS : (s.heap.push (seqObj "list" #[] 0)).get? s.heap.objs.size = some (seqObj "list" #[] 0) := Heap.get?_push_size _ rfl
  unfold Builtin.«list.__iadd__»
  show wpAny _ _ (Builtin.List.listExtendWith (.ref s.heap.objs.size) (.ref l) (.ref s.heap.objs.size)) _ _ _
  unfold Builtin.List.listExtendWith
  refine wpAny_bind (wpAny_typeOf (T := "tuple") ⟨o, ho1, hc⟩ ?_)
  have htt : (Value.type "tuple" == Value.type "tuple") = true := by decide +kernel
  rw [if_pos (by rw [htt, Bool.or_true])]
  refine wpAny_bind (listItems_at ho1 hd ?_)
  refine wpAny_bind (listItems_at (xs := #[]) (n := 0) hS rfl ?_)
  rw [if_neg (by simp)]
  refine wpAny_bind (listUpdate_at (xs := #[]) (n := 0) hS rfl ?_ (Nat.zero_le _) (by show (#[] ++ xs).size ≤ sizeLine + 1; rw [Array.size_append]; simp; omega))
  refine wpAny_pure ?_
  refine wpAny_bind (wpAny_load (get?_update_seq hS _) ?_)
  show wpAny _ _ (pure ((#[] : Array Value) ++ xs).toList) Q E _
  rw [Array.empty_append]
  exact wpAny_pure q
theorem sortT {l : Addr} {vs : List Value} {ss : List Str} {Q : Value → Shared → Prop} (hl : IsTup s.heap l vs.toArray) (hS : StrsAre vs ss) (h64 : vs.length < 64)
    (h : ∀ (out : Array Value) (ys : List Str), StrsAre out.toList ys → ys.Perm ss → sortedS ys = true → Q (.ref (s.heap.objs.size + 1)) { s with heap := sortedAll s.heap vs out }) :
    wpAny (model prog w) A (call (.builtin "sorted") [.ref l]) Q E s := by
  obtain ⟨o, ho, hc, m, hd⟩ := hl
  have hz : vs.toArray.size ≤ sizeLine := by rw [List.size_toArray, sizeLine_eq]; omega
  refine Calls.call_function_entry kind_sorted plain_sorted entry_sorted (args_sorted1 _) ?_
  unfold Builtin.«sorted»
  refine wpAny_bind (m := checkCount "sorted" 1 1 _) (wpAny_pure ?_)
  refine wpAny_bind (collT ho hc hd hz ?_)
  rw [show vs.toArray.toList = vs from rfl]
  refine wpAny_bind (wpAny_newList ?_)
  generalize hg : (s.heap.push (seqObj "list" #[] 0)).update s.heap.objs.size (Obj.mapSeq fun y => y ++ vs.toArray) = g
  have hsz : g.objs.size = s.heap.objs.size + 1 := by rw [← hg, Heap.size_update, size_push']
  have hoL : (g.push (seqObj "list" vs.toArray 0)).get? (s.heap.objs.size + 1) = some (seqObj "list" vs.toArray 0) := by rw [← hsz]; exact Heap.get?_push_size _ rfl
  show wpAny _ _ _ _ _ { s with heap := g.push (seqObj "list" vs.toArray 0) }
  rw [hsz]
  refine wpAny_bind (wpAny_holding (wpAny_call_entry slot_list_sort ⟨_, hoL, rfl⟩ entry_list_sort
    (list_sort_treeK strKind_oneLt hoL hS.keysOf (fun v1 v2 r e => keyKind_strs (by rw [← e]; exact hS)) h64 fun st' p1 p2 => ⟨_, rfl, ?_⟩) (args_list_sort _)))
  obtain ⟨ys, y1, y2, y3⟩ := sorted_out_str hS p1 p2
  have := h _ ys y1 y2 y3
  unfold sortedAll at this
  rw [hg] at this
  exact wpAny_pure ⟨_, rfl, this⟩
end
section
variable {X : Cx} {L : Lk} {W : WX}
noncomputable def rSortT (K : PySem.W.Frag) : List V → Hp → VK → Prop := fun vs H Q => ∃ (a : Addr) (xs : List Str), vs = [V.ref a] ∧ SqT K H a (xs.map V.str) ∧ xs.length < 64 ∧
  ∀ (ys : List Str) (p : Addr), ys.Perm xs → sortedS ys = true → H p = none → Q (.ref p) (upd H p (.lst (ys.map V.str)))
theorem cr_sortT : CallR X (.builtin "sorted") (rSortT X.K) := by
  intro pins s σ H vs us Q I r h
  obtain ⟨a, xs, rfl, hs, h64, q⟩ := h
  obtain ⟨its, rv, hl, _⟩ := I.tuple hs
  rw [Vals.ref1 r]
  have hl0 := rv.length
  rw [List.length_map] at hl0
  refine sortT hl rv.strs (by omega) fun out ys y1 y2 y3 => ?_
  obtain ⟨ep, he⟩ := sortedAll_at s.heap its out
  have hlen : (ys.map V.str).length ≤ sizeLine := by rw [List.length_map, y2.length_eq, sizeLine_eq]; omega
  refine ⟨.ref _, upd H (s.heap.objs.size + 1) (.lst (ys.map V.str)), ?_, rfl, q ys _ y2 y3 (I.hok.fresh (Nat.le_succ _))⟩
  exact I.laid (t' := s.toks) (fun _ _ => sortedAll_old) (Nat.le_succ _) ⟨hlen, out.toList, ep, vals_of_strs y1, he⟩
noncomputable def strsO : List D → Option (List Str)
  | [] => some []
  | .str x :: r => match strsO r with
    | some l => some (x :: l)
    | none => none
  | _ => none
theorem strsO_ok {A : List Addr} {H : Hp} : ∀ {ds : List D} {ss : List Str} {vs : List V}, strsO ds = some ss → RDs L A H ds vs → vs = ss.map V.str
  | [], ss, vs, e, r => by cases e; cases r; rfl
  | d :: ds, ss, vs, e, r => by
    cases r with
    | @cons _ v _ vs' r1 r2 =>
      cases d with
      | str x =>
        unfold strsO at e
        split at e
        · rename_i l el
          cases e
          cases r1
          rw [strsO_ok el r2]
          rfl
        · cases e
      | _ => cases e
theorem RDs_strs {A : List Addr} {H : Hp} : ∀ ss : List Str, RDs L A H (ss.map D.str) (ss.map V.str)
  | [] => .nil
  | x :: r => .cons (.str x) (RDs_strs r)
noncomputable def insI (x : Int) : List Int → List Int
  | [] => [x]
  | y :: r => if x ≤ y then x :: y :: r else y :: insI x r
noncomputable def srtI : List Int → List Int
  | [] => []
  | x :: r => insI x (srtI r)
theorem insI_perm (x : Int) : ∀ l : List Int, (insI x l).Perm (x :: l)
  | [] => .refl _
  | y :: r => by
    unfold insI
    split
    · exact .refl _
    · exact ((insI_perm x r).cons y).trans (.swap x y r)
theorem srtI_perm : ∀ l : List Int, (srtI l).Perm l
  | [] => .nil
  | x :: r => (insI_perm x _).trans ((srtI_perm r).cons x)
theorem insI_pw (x : Int) : ∀ l : List Int, l.Pairwise (· ≤ ·) → (insI x l).Pairwise (· ≤ ·)
  | [], _ => by simp [insI]
  | y :: r, h => by
    unfold insI
    rw [List.pairwise_cons] at h
    split
    · rename_i hx
      refine List.pairwise_cons.mpr ⟨fun z hz => ?_, List.pairwise_cons.mpr h⟩
      rcases List.mem_cons.mp hz with rfl | hz
      · exact hx
      · have := h.1 z hz; omega
    · rename_i hx
      refine List.pairwise_cons.mpr ⟨fun z hz => ?_, insI_pw x r h.2⟩
      rcases List.mem_cons.mp ((insI_perm x r).mem_iff.mp hz) with rfl | hz
      · omega
      · exact h.1 z hz
theorem srtI_pw : ∀ l : List Int, (srtI l).Pairwise (· ≤ ·)
  | [] => .nil
  | x :: r => insI_pw x _ (srtI_pw r)
theorem srtI_eq {ys xs : List Int} (hp : ys.Perm xs) (hs : ys.Pairwise (· ≤ ·)) : ys = srtI xs :=
  List.Perm.eq_of_pairwise (le := fun a b => a ≤ b) (fun a b _ _ h1 h2 => Int.le_antisymm h1 h2) hs (srtI_pw xs) (hp.trans (srtI_perm xs).symm)
noncomputable def keysI : List Key → Option (List Int)
  | [] => some []
  | .inl i :: r => match keysI r with
    | some l => some (i :: l)
    | none => none
  | _ => none
theorem keysI_ok : ∀ {ks : List Key} {ns : List Int}, keysI ks = some ns → ks = ns.map Sum.inl
  | [], _, e => by cases e; rfl
  | .inl i :: r, _, e => by
    unfold keysI at e
    split at e
    · rename_i l el
      cases e
      rw [keysI_ok el]; rfl
    · cases e
  | .inr _ :: _, _, e => by cases e
noncomputable def keysS : List Key → Option (List Str)
  | [] => some []
  | .inr i :: r => match keysS r with
    | some l => some (i :: l)
    | none => none
  | _ => none
theorem keysS_ok : ∀ {ks : List Key} {ns : List Str}, keysS ks = some ns → ks = ns.map Sum.inr
  | [], _, e => by cases e; rfl
  | .inr i :: r, _, e => by
    unfold keysS at e
    split at e
    · rename_i l el
      cases e
      rw [keysS_ok el]; rfl
    · cases e
  | .inl _ :: _, _, e => by cases e
noncomputable def sortedD (ds : List D) (h : AH) : R D := match ds with
  | [d] => match intsAt h d with
    | some ns => .ok (.loc h.length) (h ++ [.lst ((srtI ns).map D.int)])
    | none => match seqD h d with
      | some xs => match strsO xs with
        | some ss => if ss.length < 64 then .ok (.loc h.length) (h ++ [.lst ((srtS ss).map D.str)]) else .no
        | none => .no
      | none => match dctAt h d with
        | some (_, kvs) => match keysI (kvs.map (·.1)) with
          | some ns => if ns.length < 64 then .ok (.loc h.length) (h ++ [.lst ((srtI ns).map D.int)]) else .no
          | none => match keysS (kvs.map (·.1)) with
            | some ss => if ss.length < 64 then .ok (.loc h.length) (h ++ [.lst ((srtS ss).map D.str)]) else .no
            | none => .no
        | none => .no
  | _ => .no
theorem ca_sorted (hK : X.K = L.K) (hc : X.calm = true) : CaS X L W (.builtin "sorted") sortedD := by
  refine ⟨_, (cr_sortedS).or ((cr_sortT).or ((cr_sortedI).or ((call_sortedDI hc).or (call_sortedD hc)))), fun σ A h H xs ds Q rh r p => ?_⟩
  unfold sortedD at p
  rw [hK]
  split at p
  · cases r with
    | cons r1 r2 =>
      cases r2
      split at p
      · rename_i ns e0
        obtain ⟨a, rfl, hs⟩ := intsAt_ok rh r1 e0
        refine .inr (.inr (.inl ⟨a, ns, rfl, hs, fun ns' q h1 h2 nq => ?_⟩))
        rw [srtI_eq h1 h2]
        exact Po.newLst p rh (RDs.ints _) nq
      · split at p
        · rename_i xs e0
          obtain ⟨a, vs, rfl, hs, hr⟩ := seqD_ok rh r1 e0
          split at p
          · rename_i ss es
            have ev := strsO_ok es hr
            subst ev
            split at p
            · rename_i h64
              have fin : ∀ (ys : List Str) (q : Addr), ys.Perm ss → sortedS ys = true → H q = none → Q (.ref q) (upd H q (.lst (ys.map V.str))) := fun ys q h1 h2 nq => by
                rw [srtS_eq h1 h2]
                exact Po.newLst p rh (RDs_strs _) nq
              rcases hs with hs | hs
              · exact .inl ⟨a, ss, rfl, hs, h64, fin⟩
              · exact .inr (.inl ⟨a, ss, rfl, hs, h64, fin⟩)
            · exact p.elim
          · exact p.elim
        · split at p
          · rename_i n kvs e0
            obtain ⟨a, ws, _, _, _, rfl, g, rk⟩ := dctAt_ok rh r1 e0
            have hk := rk.keys
            split at p
            · rename_i ns en
              split at p
              · rename_i h64
                refine .inr (.inr (.inr (.inl ⟨a, ws, ns, rfl, .inl g, by rw [← hk]; exact keysI_ok en, h64, fun ys q h1 h2 nq => ?_⟩)))
                rw [srtI_eq h1 h2]
                exact Po.newLst p rh (RDs.ints _) nq
              · exact p.elim
            · split at p
              · rename_i ss en
                split at p
                · rename_i h64
                  refine .inr (.inr (.inr (.inr ⟨a, ws, ss, rfl, .inl g, by rw [← hk]; exact keysS_ok en, h64, fun ys q h1 h2 nq => ?_⟩)))
                  rw [srtS_eq h1 h2]
                  exact Po.newLst p rh (RDs_strs _) nq
                · exact p.elim
              · exact p.elim
          · exact p.elim
  · exact p.elim
noncomputable def KDAll (K : PySem.W.Frag) (a : Addr) : List Str → List V → Prop
  | [], [] => True
  | k :: ks, v :: vs => (∃ u, PySem.W.nsIn K a k = some (some u) ∧ RelV v u) ∧ KDAll K a ks vs
  | _, _ => False
theorem KDAll.len {K : PySem.W.Frag} {a : Addr} : ∀ {ks : List Str} {vs : List V}, KDAll K a ks vs → ks.length = vs.length
  | [], [], _ => rfl
  | _ :: _, _ :: _, h => by simp [KDAll.len h.2]
  | [], _ :: _, h => h.elim
  | _ :: _, [], h => h.elim
theorem KDAll.at {K : PySem.W.Frag} {a : Addr} : ∀ {ks : List Str} {vs : List V}, KDAll K a ks vs → ∀ (i : Nat) (k : Str) (v : V), ks[i]? = some k → vs[i]? = some v → ∃ u, PySem.W.nsIn K a k = some (some u) ∧ RelV v u
  | [], _, _, i, k, v, e, _ => by simp at e
  | _ :: _, [], h, _, _, _, _, _ => h.elim
  | _ :: _, _ :: _, h, 0, k, v, e1, e2 => by simp at e1 e2; subst e1 e2; exact h.1
  | _ :: ks, _ :: vs, h, i + 1, k, v, e1, e2 => KDAll.at (ks := ks) (vs := vs) h.2 i k v (by simpa using e1) (by simpa using e2)
/-- a dict of the written part -/
theorem dictK {a : Addr} {es : Array DictEntry} {n : Nat} {ks : List Str} {vs : List V} {ds : List D} (hk : L.K.lookup a = some ⟨.type "dict", none, .dict es n, #[]⟩) (lit : PySem.W.KeysLit L.w.params es.toList) (low : (a == sysModules) = false) (h : KDAll L.K a ks vs) (hr : ∀ A H, RDs L A H ds vs) : ∀ A H, RD L A H (.kd ks ds) (.ref a) :=
  fun A H => .kd ⟨es, n, hk, lit, low, h.len, h.at⟩ (hr A H)
/-- a tuple of the written part -/
theorem tupK {p : Addr} {od : Option Addr} {its : Array Value} {n : Nat} {sl : Array (Option Value)} {vs : List V} {ds : List D} (hk : L.K.lookup p = some ⟨.type "tuple", od, .seq its n, sl⟩) (hz : its.size ≤ sizeLine) (hv : Vals vs its.toList) (hr : ∀ A H, RDs L A H ds vs) : RG L (.tup ds) (.ref p) :=
  fun A H => .tup (.inr ⟨_, its, n, hk, rfl, rfl, hz, hv⟩) (hr A H)
end
end Cod

namespace Cod
open PySem L2 PyProof.Rows

/-! ### generator expressions: the generator's side -/
/-- one turn of the generator -/
noncomputable def tTurn (J : L2.It) (g : TG) (te : TE) (vs : List Nat) (i : Nat) (σ : L2.St) (H : Hp) (Q : Option V → Hp → Prop) : Prop :=
  (J.stop i H ∧ Q none H) ∨ (J.go i H ∧ ∀ x H1, J.yld i H x H1 → g x σ H1 fun σ2 H2 => L2.wipe σ2 vs = σ ∧ te σ2 H2 fun y H3 => Q (some y) H3)
/-- what pulls: its state, what an item makes of it, its own objects -/
structure Con (C : Type) where
  upd : C → V → Option (C ⊕ V)
  fin : C → Hp → VK → Prop
  pn : C → List (Addr × Obj) → Prop
noncomputable def conT {C : Type} (M : Con C) (J : L2.It) (g : TG) (te : TE) (vs : List Nat) (σ : L2.St) (Q : VK) : Nat → Nat → C → Hp → Prop
  | 0, i, c, H => tTurn J g te vs i σ H fun o H' => o = none ∧ M.fin c H' Q
  | n + 1, i, c, H => tTurn J g te vs i σ H fun o H' => match o with
    | none => M.fin c H' Q
    | some y => ∃ r, M.upd c y = some r ∧ match r with
      | .inl c' => conT M J g te vs σ Q n (i + 1) c' H'
      | .inr v => Q v H'
/-- while the generator sleeps only the consumer's own objects change -/
structure Slp (SA : List Addr) (sp : List (Addr × Obj)) (s s' : Shared) : Prop where
  os : s'.os = s.os
  bare : AllBare s'.gens
  keep : ∀ b o, b ∉ SA → s.heap.get? b = some o → s'.heap.get? b = some o
  there : ∀ b ∈ SA, ∃ o, s'.heap.get? b = some o
  pins : ∀ p ∈ sp, p.1 ∈ SA ∧ s'.heap.get? p.1 = some p.2 ∧ ∀ v, p.2.data ≠ .cell v
/-- the consumer's objects stand apart from the generator's frame -/
noncomputable def Apt (X : Cx) (SA : List Addr) : Prop := ∀ b ∈ SA, X.s_0.heap.objs.size ≤ b ∧ b ≠ X.env.locals ∧ b ∉ X.fs ∧ (∀ x c, X.env.cells.lookup x = some c → c ≠ b) ∧ ∀ p ∈ X.pn, p.1 ≠ b
theorem Inv.slept {X : Cx} {SA : List Addr} {ip sp sp' : List (Addr × Obj)} {σ : L2.St} {H : Hp} {s s' : Shared} (hA : Apt X SA) (hS : ∀ b ∈ SA, H b = none) (hip : ∀ p ∈ ip, p.1 ∉ SA) (I : Inv X (sp ++ ip) σ H s) (z : Slp SA sp' s s') : Inv X (sp' ++ ip) σ H s' := by
  have I0 : Inv X ip σ H s := I.pins_of fun p hp => I.pin p (List.mem_append_right _ (List.mem_append_right _ hp))
  obtain ⟨z1, z2, z3, z4, z5⟩ := z
  obtain ⟨hh, g, d, t, o⟩ := s'
  have ho : o = s.os := z1
  subst ho
  have nt : ∀ b u, H b = some u → b ∉ SA := fun b u q hb => by rw [hS b hb] at q; cases q
  have J : Inv X ip σ H { s with heap := hh, gens := g, drawn := d, toks := t } := by
    refine I0.step (g' := g) (t' := t) (d' := d) (ch := SA) (fun b hb => ?_) (fun b ob _ _ hc q _ => z3 b ob hc q) (fun b ob _ _ hc q _ => ⟨ob.slots, z3 b ob hc q⟩) (fun _ _ _ _ n => n) (fun b ob hc q => ⟨ob, z3 b ob hc q⟩)
      (fun _ _ q => q) (fun _ _ _ q => q) (fun b ps q => ⟨#[], by rw [q]; simp⟩) (fun m hm => ?_) (fun b u q => ?_) z2
    · obtain ⟨h1, h2, h3, h4, h5⟩ := hA b hb
      refine ⟨.inr h1, h2, h4, fun p hp e => ?_⟩
      rcases List.mem_append.mp hp with hp | hp
      · exact h5 p hp e
      · exact hip p hp (e ▸ hb)
    · obtain ⟨ob, es, ep, ho, r⟩ := hm
      exact ⟨ob, es, ep, z3 _ ob (fun hb => (hA _ hb).2.1 rfl) ho, r⟩
    · refine (I0.hok b u q).stay (fun c v hc y => z3 c v ?_ y) (fun _ y => y) fun _ _ y => y
      rcases hc with y | y
      · rw [y]; exact nt b u q
      · exact nt c _ y
  refine J.pins_of fun p hp => ?_
  rcases List.mem_append.mp hp with hp | hp
  · obtain ⟨h1, h2, h3⟩ := z5 p hp
    exact ⟨h2, hS _ h1, (hA _ h1).2.1, (hA _ h1).2.2.1, h3⟩
  · exact J.pin p (List.mem_append_right _ hp)
theorem wipe_some {σ : L2.St} {i : Nat} {v : V} : ∀ {vs : List Nat}, (L2.wipe σ vs)[i]? = some (some v) → σ[i]? = some (some v)
  | [], h => h
  | w :: vs, h => by
    have h' : ((L2.wipe σ vs).set w none)[i]? = some (some v) := h
    rw [List.getElem?_set] at h'
    split at h'
    · split at h' <;> cases h'
    · exact wipe_some h'
structure Gx {C : Type} (X : Cx) (A : Around) (tg iter elt : Expr) (scope : Scope) (pos : Pos) (J : L2.It) (fp : List Addr) (it : Addr) (tn : Nat → Heap → Prop) (g : TG) (te : TE) (vs : List Nat) (σ : L2.St) (SA : List Addr) (M : Con C) : Prop where
  over : A.over (.compLoop (.GeneratorExp elt [⟨tg, iter, [], 0⟩] scope pos) 0 (.ref it) .none X.env) [] = X.A
  calm : X.calm = true
  xe : ∀ v s, ¬ X.xe v s
  tr : Turn X.prog X.w X.K tg J fp it tn
  fpk : ∀ b ∈ fp, b ≠ X.env.locals ∧ b ∉ X.fs ∧ (b ∈ X.ex ∨ X.s_0.heap.objs.size ≤ b) ∧ (∀ x c, X.env.cells.lookup x = some c → c ≠ b) ∧ (∀ p ∈ X.pn, p.1 ≠ b) ∧ b ∉ SA
  pg : PG X tg g
  pe : PE X elt te
  apt : Apt X SA
  msp : ∀ c sp, M.pn c sp → sp.map (·.1) = SA
  co : X.env.scope.isCoroutine = false
noncomputable def GxR' {C : Type} (X : Cx) (M : Con C) (Q : VK) : GenEnd := fun n s₀ r s => r = .ok .next ∧ ∃ c sp σ' H, M.pn c sp ∧ (∀ p ∈ sp, s₀.heap.get? p.1 = some p.2) ∧ Inv X sp σ' H s ∧ M.fin c H Q
noncomputable def GxY {C : Type} (X : Cx) (M : Con C) (SA : List Addr) (Q : VK) : Protocol := fun n s₀ v s kap => ∃ c y sp ip σ' H r, M.pn c sp ∧ (∀ p ∈ sp, s₀.heap.get? p.1 = some p.2) ∧ Inv X (sp ++ ip) σ' H s ∧ RelV y v ∧ M.upd c y = some r ∧ match r with
  | .inl c' => ∀ sp' s', M.pn c' sp' → Slp SA sp' s s' → kap (.send .none) s'
  | .inr v' => Q v' H
section
variable {C : Type} {X : Cx} {A : Around} {tg iter elt : Expr} {scope : Scope} {pos : Pos} {J : L2.It} {fp : List Addr} {it : Addr} {tn : Nat → Heap → Prop} {g : TG} {te : TE} {vs : List Nat} {σ : L2.St} {SA : List Addr} {M : Con C} {Q : VK}
theorem Gx.fpOk (G : Gx X A tg iter elt scope pos J fp it tn g te vs σ SA M) {c : C} {sp : List (Addr × Obj)} (hp : M.pn c sp) {H : Hp} (h : ∀ b ∈ fp, H b = none) : ∀ b ∈ fp, FpOk X sp H b := fun b hb => by
  obtain ⟨h1, h2, h3, h4, h5, h6⟩ := G.fpk b hb
  refine ⟨h b hb, h1, h2, h3, h4, fun p hp' e => ?_⟩
  rcases List.mem_append.mp hp' with z | z
  · exact h5 p z e
  · refine h6 ?_
    rw [← G.msp c sp hp, ← e]
    exact List.mem_map_of_mem z
/-- the iterator's objects, as they stand, pinned -/
theorem Gx.pinned (G : Gx X A tg iter elt scope pos J fp it tn g te vs σ SA M) {i : Nat} {s : Shared} {sp : List (Addr × Obj)} {σ' : L2.St} {H : Hp} (I : Inv X sp σ' H s) (ht : tn i s.heap) (h : ∀ b ∈ fp, H b = none) :
    ∃ ip : List (Addr × Obj), ip.map (·.1) = fp ∧ Inv X (sp ++ ip) σ' H s := by
  have key : ∀ l : List Addr, (∀ b ∈ l, b ∈ fp) → ∃ ip : List (Addr × Obj), ip.map (·.1) = l ∧ ∀ p ∈ ip, s.heap.get? p.1 = some p.2 ∧ H p.1 = none ∧ p.1 ≠ X.env.locals ∧ p.1 ∉ X.fs ∧ ∀ v, p.2.data ≠ .cell v := by
    intro l
    induction l with
    | nil => exact fun _ => ⟨[], rfl, fun p hp => absurd hp List.not_mem_nil⟩
    | cons b l ih =>
      intro hl
      obtain ⟨ip, e, hip⟩ := ih fun d hd => hl d (List.mem_cons_of_mem _ hd)
      have hb := hl b List.mem_cons_self
      obtain ⟨o, ho, hc⟩ := G.tr.obj i s.heap ht b hb
      refine ⟨(b, o) :: ip, by rw [List.map_cons, e], fun p hp => ?_⟩
      rcases List.mem_cons.mp hp with rfl | hp
      · exact ⟨ho, h b hb, (G.fpk b hb).1, (G.fpk b hb).2.1, hc⟩
      · exact hip p hp
  obtain ⟨ip, e, hip⟩ := key fp fun _ h => h
  refine ⟨ip, e, I.pins_of fun p hp => ?_⟩
  rcases List.mem_append.mp hp with z | z
  · exact I.pin p (List.mem_append_right _ z)
  · exact hip p z
theorem Gx.unpin (G : Gx X A tg iter elt scope pos J fp it tn g te vs σ SA M) {i : Nat} {h0 : Heap} {s : Shared} {sp ip : List (Addr × Obj)} {σ' : L2.St} {H : Hp} (e : ip.map (·.1) = fp) (hip : ∀ p ∈ ip, h0.get? p.1 = some p.2) (ht : tn i h0) (I : Inv X (sp ++ ip) σ' H s) :
    Inv X sp σ' H s ∧ tn i s.heap ∧ ∀ b ∈ fp, H b = none := by
  have P : ∀ p ∈ ip, s.heap.get? p.1 = some p.2 ∧ H p.1 = none := fun p hp => by
    have := I.pin p (List.mem_append_right _ (List.mem_append_right _ hp))
    exact ⟨this.1, this.2.1⟩
  refine ⟨I.pins_of fun p hp => I.pin p (List.mem_append_right _ (List.mem_append_left _ hp)), G.tr.keep i h0 s.heap ht fun b hb o eo => ?_, fun b hb => ?_⟩
  · rw [← e] at hb
    obtain ⟨p, hp, rfl⟩ := List.mem_map.mp hb
    rw [hip p hp] at eo
    cases eo
    exact (P p hp).1
  · rw [← e] at hb
    obtain ⟨p, hp, rfl⟩ := List.mem_map.mp hb
    exact (P p hp).2
theorem seg_gx (G : Gx X A tg iter elt scope pos J fp it tn g te vs σ SA M) : ∀ (n i : Nat) (c : C) (H : Hp) (s₀ s : Shared) (sp : List (Addr × Obj)), conT M J g te vs σ Q n i c H → M.pn c sp → (∀ p ∈ sp, s₀.heap.get? p.1 = some p.2) → Inv X sp σ H s → (∀ b ∈ fp, H b = none) → tn i s.heap →
    Seg (model X.prog X.w) A (GxR' X M Q) (GxY X M SA Q) n s₀ (.compLoop (.GeneratorExp elt [⟨tg, iter, [], 0⟩] scope pos) 0 (.ref it) .none X.env) ((model X.prog X.w).den (.compLoop (.GeneratorExp elt [⟨tg, iter, [], 0⟩] scope pos) 0 (.ref it) .none X.env)) [] s := by
  have hy : ∀ v, yieldOut X.env v = yieldValue v := fun v => by simp only [yieldOut, G.co, Bool.false_eq_true, if_false]
  intro n
  induction n with
  | zero =>
    intro i c H s₀ s sp h hp h0 I hf ht
    show Seg _ A _ _ _ s₀ _ ((compTurn (.GeneratorExp elt [⟨tg, iter, [], 0⟩] scope pos) 0 (.ref it) .none X.env).onRaise (leaving X.env)) [] s
    rw [compTurn_gen, Sem.onRaise_eq_wrap]
    refine seg_bind_wrap (wpAny_standAt ?_)
    rcases h with ⟨hs, hq⟩ | ⟨hg, hq⟩
    · refine seg_bind_wrap ?_
      rw [G.over]
      refine wpAny_mono (G.tr.done X rfl rfl rfl G.calm i sp s σ H (fun _ _ => False) I (G.fpOk hp hf) ht hs) (fun r s1 ⟨e, I1⟩ => ?_) fun _ _ z => z.elim
      subst e
      exact seg_end (.ok .next) ⟨rfl, c, sp, σ, H, hp, h0, I1, hq.2⟩
    · refine seg_bind_wrap ?_
      rw [G.over]
      refine wpAny_mono (G.tr.item X rfl rfl rfl G.calm i sp s σ H (fun _ _ => False) I (G.fpOk hp hf) ht hg) (fun r s1 ⟨u, e, w1⟩ => ?_) fun _ _ z => z.elim
      subst e
      refine seg_bind_wrap ?_
      rw [G.over]
      refine wpAny_mono w1 (fun _ s2 ⟨x, H1, I2, rx, hy1, ht2, hf2⟩ => ?_) fun _ _ z => z.elim
      obtain ⟨ip, eip, I2'⟩ := G.pinned I2 ht2 hf2
      refine seg_bind_wrap ?_
      rw [G.over]
      refine wpAny_mono (G.pg.run _ s2 σ H1 x u _ I2' rx (hq x H1 hy1)) (fun _ s3 ⟨σ3, H3, I3, e3, q3⟩ => ?_) fun v s' z => (G.xe v s' z).elim
      simp only [List.forIn_nil]
      refine seg_bind_wrap (wpAny_pure ?_)
      simp only [if_true, hy]
      rw [Sem.bind_eq_wrap', Sem.bind_eq_wrap', Sem.wrap_wrap, Sem.wrap_wrap]
      refine seg_wrap ?_
      rw [G.over]
      refine wpAny_mono (G.pe.run _ s3 σ3 H3 _ I3 q3) (fun v s4 ⟨y, H4, I4, ry, q4⟩ => ?_) fun v s' z => (G.xe v s' z).elim
      cases q4.1
  | succ n ih =>
    intro i c H s₀ s sp h hp h0 I hf ht
    show Seg _ A _ _ _ s₀ _ ((compTurn (.GeneratorExp elt [⟨tg, iter, [], 0⟩] scope pos) 0 (.ref it) .none X.env).onRaise (leaving X.env)) [] s
    rw [compTurn_gen, Sem.onRaise_eq_wrap]
    refine seg_bind_wrap (wpAny_standAt ?_)
    rcases h with ⟨hs, hq⟩ | ⟨hg, hq⟩
    · refine seg_bind_wrap ?_
      rw [G.over]
      refine wpAny_mono (G.tr.done X rfl rfl rfl G.calm i sp s σ H (fun _ _ => False) I (G.fpOk hp hf) ht hs) (fun r s1 ⟨e, I1⟩ => ?_) fun _ _ z => z.elim
      subst e
      exact seg_end (.ok .next) ⟨rfl, c, sp, σ, H, hp, h0, I1, hq⟩
    · refine seg_bind_wrap ?_
      rw [G.over]
      refine wpAny_mono (G.tr.item X rfl rfl rfl G.calm i sp s σ H (fun _ _ => False) I (G.fpOk hp hf) ht hg) (fun r s1 ⟨u, e, w1⟩ => ?_) fun _ _ z => z.elim
      subst e
      refine seg_bind_wrap ?_
      rw [G.over]
      refine wpAny_mono w1 (fun _ s2 ⟨x, H1, I2, rx, hy1, ht2, hf2⟩ => ?_) fun _ _ z => z.elim
      obtain ⟨ip, eip, I2'⟩ := G.pinned I2 ht2 hf2
      have hip : ∀ p ∈ ip, s2.heap.get? p.1 = some p.2 := fun p hp' => (I2'.pin p (List.mem_append_right _ (List.mem_append_right _ hp'))).1
      have nip : ∀ p ∈ ip, p.1 ∉ SA := fun p hp' => (G.fpk p.1 (by rw [← eip]; exact List.mem_map_of_mem hp')).2.2.2.2.2
      refine seg_bind_wrap ?_
      rw [G.over]
      refine wpAny_mono (G.pg.run _ s2 σ H1 x u _ I2' rx (hq x H1 hy1)) (fun _ s3 ⟨σ3, H3, I3, e3, q3⟩ => ?_) fun v s' z => (G.xe v s' z).elim
      simp only [List.forIn_nil]
      refine seg_bind_wrap (wpAny_pure ?_)
      simp only [if_true, hy]
      rw [Sem.bind_eq_wrap', Sem.bind_eq_wrap', Sem.wrap_wrap, Sem.wrap_wrap]
      refine seg_wrap ?_
      rw [G.over]
      refine wpAny_mono (G.pe.run _ s3 σ3 H3 _ I3 q3) (fun v s4 ⟨y, H4, I4, ry, r, er, q4⟩ => ?_) fun v s' z => (G.xe v s' z).elim
      have hS4 : ∀ b ∈ SA, H4 b = none := fun b hb => by
        rw [← G.msp c sp hp] at hb
        obtain ⟨p, hp', rfl⟩ := List.mem_map.mp hb
        exact (I4.pin p (List.mem_append_right _ (List.mem_append_left _ hp'))).2.1
      refine seg_at (seg_yield rfl rfl rfl ⟨c, y, sp, ip, σ3, H4, r, hp, h0, I4, ry, er, ?_⟩)
      cases r with
      | inr v' => exact q4
      | inl c' =>
        intro sp' s' hp' z
        have I5 := Inv.slept G.apt hS4 nip I4 z
        obtain ⟨I6, t6, f6⟩ := G.unpin eip hip ht2 I5
        have I7 : Inv X sp' σ H4 s' := I6.weak (by rw [← e3, L2.wipe_length]) fun j w hj => wipe_some (vs := vs) (by rw [e3]; exact hj)
        exact seg_again rfl (ih (i + 1) c' H4 s' s' sp' q4 hp' (fun p hq => (I7.pin p (List.mem_append_right _ hq)).1) I7 f6 t6)
/-- from the start -/
theorem seg_gx0 (G : Gx X A tg iter elt scope pos J fp it tn g te vs σ SA M) {n : Nat} {c : C} {H : Hp} {s₀ s : Shared} {sp : List (Addr × Obj)} (h : conT M J g te vs σ Q n 0 c H) (hp : M.pn c sp) (h0 : ∀ p ∈ sp, s₀.heap.get? p.1 = some p.2) (I : Inv X sp σ H s) (hf : ∀ b ∈ fp, H b = none) (ht : tn 0 s.heap) :
    Seg (model X.prog X.w) A (GxR' X M Q) (GxY X M SA Q) n s₀ (.compStart (.GeneratorExp elt [⟨tg, iter, [], 0⟩] scope pos) 0 (.ref it) .none X.env) ((model X.prog X.w).den (.compStart (.GeneratorExp elt [⟨tg, iter, [], 0⟩] scope pos) 0 (.ref it) .none X.env)) [] s := by
  have loop := seg_gx (Q := Q) G n 0 c H s₀ s sp h hp h0 I hf ht
  show Seg _ A _ _ _ s₀ _ ((compStart (.GeneratorExp elt [⟨tg, iter, [], 0⟩] scope pos) 0 (.ref it) .none X.env).onRaise (leaving X.env)) [] s
  unfold compStart
  rw [Sem.onRaise_eq_wrap]
  show Seg _ A _ _ _ s₀ _ ((ask >>= _).wrap _ _ _ _) [] s
  refine seg_bind_wrap (wpAny_askSetting ?_)
  split
  · exact seg_again rfl loop
  · refine seg_bind_wrap (wpAny_rule ?_)
    show Seg _ A _ _ _ s₀ _ ((standAt iter.pos >>= _).wrap _ _ _ _) [] s
    exact seg_bind_wrap (wpAny_standAt (seg_bind_wrap (G.tr.self _ 0 s _ _ ht (seg_again rfl loop))))
theorem Inv.gens {pins : List (Addr × Obj)} {σ' : L2.St} {H : Hp} {s : Shared} (I : Inv X pins σ' H s) (i : Nat) {x : GenState} (hx : x.bare = true) : Inv X pins σ' H (s.setGen i x) :=
  ⟨I.ok, I.os, allBare_setGen I.bare hx, I.base, I.loc, I.cell, I.free, I.freeC, I.pin, I.hok, I.len⟩
/-- a generator that is asleep, or has not begun -/
noncomputable def Aslp (X : Cx) (A : Around) (M : Con C) (SA : List Addr) (Q : VK) (a : Addr) (i n : Nat) (s : Shared) : Prop := s.heap.IsGen a i ∧ s.heap.NoLimit ∧ ∃ gs, s.gens[i]? = some gs ∧ gs.Goes (model X.prog X.w) A (GxR' X M Q) (GxY X M SA Q) n (.send .none) (s.setGen i .running)
/-- one pull, for a consumer that has no object of its own -/
theorem pull {a : Addr} {i n : Nat} {s : Shared} {B : Around} {E : Value → Shared → Prop} {R : Option Value → Shared → Prop} (hh : B.handled = none) (hd : B.depth < recursionLimit) (hpn : ∀ h : Heap, (∀ p ∈ X.pn, h.get? p.1 = some p.2) → h.IsGen a i) (hM : ∀ c sp, M.pn c sp ↔ sp = [])
    (h : Aslp X B.in1 M [] Q a i n s)
    (hN : ∀ c σ' H s', M.fin c H Q → Inv X [] σ' H s' → R none s')
    (hS : ∀ c y v r σ' H s', RelV y v → M.upd c y = some r → Inv X [] σ' H s' → (match r with
      | .inl c' => ∃ m, n = m + 1 ∧ Aslp X B.in1 M [] Q a i m s'
      | .inr v' => Q v' H) → R (some v) s') :
    wpAny (model X.prog X.w) B (pyNext (.ref a)) R E s := by
  obtain ⟨hg, hl, gs, hgs, hgo⟩ := h
  have hlt : i < s.gens.size := (Array.getElem?_eq_some_iff.mp hgs).1
  refine GenW.wpAny_gsz (n := i + 1) hlt (wpAny_pyNext_genexpQ (P := fun n s₀ s₁ => ∃ c sp σ' H, M.pn c sp ∧ (∀ p ∈ sp, s₀.heap.get? p.1 = some p.2) ∧ Inv X sp σ' H s₁ ∧ M.fin c H Q) hh hl hd hg hgs hgo (fun v s₁ gs' hb hv => ?_) fun s₁ hP h' hk => ?_)
  · intro hsz
    obtain ⟨c, y, sp, ip, σ', H, r, hp, _, I, ry, er, hr⟩ := hv
    have I1 : Inv X [] σ' H s₁ := I.pins_of fun p hp => absurd hp List.not_mem_nil
    have hsz1 : i < s₁.gens.size := by
      have q : (s₁.setGen i gs').gens.size = s₁.gens.size := GenW.setGen_size _ _ _
      have hsz' : i + 1 ≤ (s₁.setGen i gs').gens.size := hsz
      omega
    refine hS c y v r σ' H _ ry er (Inv.gens I1 i hb) ?_
    cases r with
    | inr v' => exact hr
    | inl c' =>
      cases n with
      | zero => exact (hr [] s₁ ((hM c' []).mpr rfl) ⟨rfl, I1.bare, fun b o _ e => e, fun b hb => absurd hb List.not_mem_nil, fun p hp => absurd hp List.not_mem_nil⟩).elim
      | succ m =>
        refine ⟨m, rfl, hpn _ fun p hq => (I1.pin p (List.mem_append_left _ hq)).1, I1.nolimit, gs', setGen_at hsz1, ?_⟩
        refine hr [] _ ((hM c' []).mpr rfl) ⟨rfl, ?_, fun b o _ e => e, fun b hb => absurd hb List.not_mem_nil, fun p hp => absurd hp List.not_mem_nil⟩
        exact (Inv.gens (Inv.gens I1 i hb) i (x := .running) rfl).bare
  · intro _
    obtain ⟨c, sp, σ', H, hp, _, I, hf⟩ := hP
    rw [(hM c sp).mp hp] at I
    refine hN c σ' H _ hf ?_
    have I2 := Inv.gens I i (x := .finished) rfl
    exact I2.kept hk
/-- one pull, for a consumer with objects of its own -/
theorem pullS {SA : List Addr} {a : Addr} {i n : Nat} {s : Shared} {B : Around} {E : Value → Shared → Prop} {R : Option Value → Shared → Prop} (hh : B.handled = none) (hd : B.depth < recursionLimit) (hpn : ∀ h : Heap, (∀ p ∈ X.pn, h.get? p.1 = some p.2) → h.IsGen a i) (hA : Apt X SA) (hms : ∀ c sp, M.pn c sp → sp.map (·.1) = SA)
    (h : Aslp X B.in1 M SA Q a i n s)
    (hN : ∀ c sp σ' H s', M.pn c sp → (∀ p ∈ sp, s.heap.get? p.1 = some p.2) → M.fin c H Q → Inv X sp σ' H s' → R none s')
    (hS : ∀ c y v r sp σ' H s1, M.pn c sp → (∀ p ∈ sp, s.heap.get? p.1 = some p.2) → RelV y v → M.upd c y = some r → Inv X sp σ' H s1 → (match r with
      | .inl c' => ∀ sp' s2, M.pn c' sp' → Slp SA sp' s1 s2 → s2.gens = s1.gens → ∃ m, n = m + 1 ∧ Aslp X B.in1 M SA Q a i m s2
      | .inr v' => Q v' H) → R (some v) s1) :
    wpAny (model X.prog X.w) B (pyNext (.ref a)) R E s := by
  obtain ⟨hg, hl, gs, hgs, hgo⟩ := h
  have hlt : i < s.gens.size := (Array.getElem?_eq_some_iff.mp hgs).1
  refine GenW.wpAny_gsz (n := i + 1) hlt (wpAny_pyNext_genexpQ (P := fun n s₀ s₁ => ∃ c sp σ' H, M.pn c sp ∧ (∀ p ∈ sp, s₀.heap.get? p.1 = some p.2) ∧ Inv X sp σ' H s₁ ∧ M.fin c H Q) hh hl hd hg hgs hgo (fun v s₁ gs' hb hv => ?_) fun s₁ hP h' hk => ?_)
  · intro hsz
    obtain ⟨c, y, sp, ip, σ', H, r, hp, h0, I, ry, er, hr⟩ := hv
    have I1 : Inv X sp σ' H s₁ := I.pins_of fun p hp => I.pin p (List.mem_append_right _ (List.mem_append_left _ hp))
    have hsz1 : i < s₁.gens.size := by
      have q : (s₁.setGen i gs').gens.size = s₁.gens.size := GenW.setGen_size _ _ _
      have hsz' : i + 1 ≤ (s₁.setGen i gs').gens.size := hsz
      omega
    have I2 := Inv.gens I1 i hb
    refine hS c y v r sp σ' H _ hp h0 ry er I2 ?_
    cases r with
    | inr v' => exact hr
    | inl c' =>
      intro sp' s2 hp' z eg
      have hSA : ∀ b ∈ SA, H b = none := fun b hb => by
        rw [← hms c sp hp] at hb
        obtain ⟨p, hp', rfl⟩ := List.mem_map.mp hb
        exact (I1.pin p (List.mem_append_right _ hp')).2.1
      have I3 : Inv X (sp' ++ []) σ' H s2 := Inv.slept hA hSA (fun p hp => absurd hp List.not_mem_nil) (by rw [List.append_nil]; exact I2) z
      have z' : Slp SA sp' s₁ (s2.setGen i .running) := ⟨z.os, (Inv.gens I3 i (x := .running) rfl).bare, z.keep, z.there, z.pins⟩
      cases n with
      | zero => exact (hr sp' _ hp' z').elim
      | succ m =>
        refine ⟨m, rfl, hpn _ fun p hq => (I3.pin p (List.mem_append_left _ hq)).1, I3.nolimit, gs', by rw [eg]; exact setGen_at hsz1, ?_⟩
        exact hr sp' _ hp' z'
  · intro _
    obtain ⟨c, sp, σ', H, hp, h0, I, hf⟩ := hP
    refine hN c sp σ' H _ hp h0 hf ?_
    have I2 := Inv.gens I i (x := .finished) rfl
    exact I2.kept hk
/-- sum: the items are whole numbers; its state lies in a list of its own at S -/
noncomputable def sumObj (c : Int) (t : Tok) (n : Nat) : Obj := { cls := .type "list", dict := none, data := .seq #[.int c t] n, slots := #[] }
noncomputable def sumC (S : Addr) : Con Int := ⟨fun c y => match y with
  | .int j => some (.inl (c + j))
  | _ => none, fun c H Q => Q (.int c) H, fun c sp => ∃ t n, sp = [(S, sumObj c t n)]⟩
theorem sum_gx {S : Addr} {a : Addr} {i : Nat} {B : Around} {R : Result → Shared → Prop} (hh : B.handled = none) (hd : B.depth < recursionLimit) (hpn : ∀ h : Heap, (∀ p ∈ X.pn, h.get? p.1 = some p.2) → h.IsGen a i) (hA : Apt X [S])
    (hR : ∀ j t σ' H s', Q (.int j) H → Inv X [] σ' H s' → R (.ok (.ret (.int j t))) s') : ∀ (n : Nat) (s : Shared) (c : Int) (t : Tok) (cap : Nat) (st : Int), (st = 0 ∨ st = 2) → s.heap.get? S = some (sumObj c t cap) → Aslp X B.in1.in1 (sumC S) [S] Q a i n s → codeAny (model X.prog X.w) B (.builtin "sum.loop" ⟨[.ref a, .ref S, rawInt st, rawInt 0], []⟩) R s := by
  have hms : ∀ c sp, (sumC S).pn c sp → sp.map (·.1) = [S] := fun c sp ⟨t, n, e⟩ => by rw [e]; rfl
  have same : ∀ {s : Shared} {c c1 : Int} {t : Tok} {cap : Nat} {sp : List (Addr × Obj)}, s.heap.get? S = some (sumObj c t cap) → (sumC S).pn c1 sp → (∀ p ∈ sp, s.heap.get? p.1 = some p.2) → c1 = c := fun {s c c1 t cap sp} e ⟨t1, n1, e1⟩ h => by
    have := h (S, sumObj c1 t1 n1) (by rw [e1]; exact List.mem_cons_self)
    rw [e] at this
    have this := Option.some.inj this
    unfold sumObj at this
    simp only [Obj.mk.injEq, Data.seq.injEq, Array.mk.injEq, List.cons.injEq, Value.int.injEq] at this
    exact this.2.2.1.1.1.1.symm
  have slp : ∀ {s1 : Shared} {c2 : Int} {t2 : Tok} {n2 k : Nat} {hp : Heap}, AllBare s1.gens → (∀ b o, b ≠ S → s1.heap.get? b = some o → hp.get? b = some o) → hp.get? S = some (sumObj c2 t2 n2) → Slp [S] [(S, sumObj c2 t2 n2)] s1 { s1 with heap := hp, toks := k } := fun hb k1 k2 => by
    refine ⟨rfl, hb, fun b o hb e => k1 b o (fun z => hb (List.mem_singleton.mpr z)) e, fun b hb => ?_, fun p hp => ?_⟩
    · rw [List.mem_singleton.mp hb]; exact ⟨_, k2⟩
    · rw [List.mem_singleton.mp hp]; exact ⟨List.mem_cons_self, k2, fun v z => by cases z⟩
  have main : ∀ n, (∀ m, n = m + 1 → ∀ (s : Shared) (c : Int) (t : Tok) (cap : Nat) (st : Int), (st = 0 ∨ st = 2) → s.heap.get? S = some (sumObj c t cap) → Aslp X B.in1.in1 (sumC S) [S] Q a i m s → codeAny (model X.prog X.w) B (.builtin "sum.loop" ⟨[.ref a, .ref S, rawInt st, rawInt 0], []⟩) R s) →
      ∀ (s : Shared) (c : Int) (t : Tok) (cap : Nat) (st : Int), (st = 0 ∨ st = 2) → s.heap.get? S = some (sumObj c t cap) → Aslp X B.in1.in1 (sumC S) [S] Q a i n s → codeAny (model X.prog X.w) B (.builtin "sum.loop" ⟨[.ref a, .ref S, rawInt st, rawInt 0], []⟩) R s := by
    intro n ih s c t cap st hst hS h
    refine codeAny_builtin F.entry_sum_loop ?_
    rw [Around.under_plainId F.plain_sum_loop _]
    show wpAny _ B.in1 (seqItems? (.ref S) >>= _) _ _ s
    refine wpAny_bind (wpAny_seqItems hS rfl ?_)
    show wpAny _ B.in1 (tryCatch (pyNext (.ref a)) _ >>= _) _ _ s
    refine wpAny_bind (wpAny_tryCatch (pullS (B := B.in1) hh hd hpn hA hms h (fun c1 sp σ' H s' hp h0 q I => ?_) fun c1 y v r sp σ' H s1 hp h0 ry er I hr => ?_))
    · refine wpAny_pure ?_
      have e1 := same hS hp h0
      subst e1
      exact hR _ _ σ' H s' q (I.pins_of fun p hp => absurd hp List.not_mem_nil)
    · have e1 := same hS hp h0
      subst e1
      cases y with
      | int j =>
        cases er
        obtain ⟨t1, n1, rfl⟩ := hp
        obtain ⟨tj, rfl⟩ := ry
        have hS1 : s1.heap.get? S = some (sumObj c1 t1 n1) := (I.pin _ (List.mem_append_right _ List.mem_cons_self)).1
        have tc : t1 = t := by
          have := h0 _ List.mem_cons_self
          rw [hS] at this
          have this := Option.some.inj this
          unfold sumObj at this
          simp only [Obj.mk.injEq, Data.seq.injEq, Array.mk.injEq, List.cons.injEq, Value.int.injEq] at this
          exact this.2.2.1.1.1.2.symm
        subst tc
        rcases hst with rfl | rfl
        · show wpAny _ B.in1 (if (_ : Bool) = true then (mkInt (c1 + j) >>= _) else _) _ _ _
          split
          · refine wpAny_bind (wpAny_mkInt ?_)
            show wpAny _ B.in1 (updateSeq S (fun _ => #[.int (c1 + j) s1.toks]) >>= _) _ _ _
            refine wpAny_bind ?_
            refine wpAny_updateSeq hS1 rfl (wpAny_pure ⟨plainId_quiet F.plain_sum_loop _, ?_⟩)
            have hS₂ : _ = some (sumObj (c1 + j) s1.toks n1) := Heap.get?_update_self (Obj.mapSeq fun _ => #[Value.int (c1 + j) s1.toks]) hS1 rfl
            obtain ⟨m, em, h'⟩ := hr _ _ ⟨_, _, rfl⟩ (slp (k := s1.toks + 1) I.bare (fun b o hb e => (Heap.get?_update_other _ _ (Ne.symm hb)).trans e) hS₂) rfl
            exact ih m em _ _ _ _ 0 (.inl rfl) hS₂ h'
          · refine wpAny_bind (wpAny_rule ?_)
            refine wpAny_bind (wpAny_attempt (wpAny_holding (wpAny_add_int ?_)))
            show wpAny _ B.in1 (updateSeq S (fun _ => #[.int (c1 + j) s1.toks]) >>= _) _ _ _
            refine wpAny_bind (wpAny_updateSeq hS1 rfl ?_)
            have hS₂ := Heap.get?_update_self (Obj.mapSeq fun _ => #[Value.int (c1 + j) s1.toks]) hS1 rfl
            refine wpAny_bind (wpAny_letGo ?_)
            refine wpAny_bind (wpAny_updateSeq hS₂ rfl (wpAny_pure ⟨plainId_quiet F.plain_sum_loop _, ?_⟩))
            have hS3 : _ = some (sumObj (c1 + j) s1.toks n1) := Heap.get?_update_self (Obj.mapSeq fun _ => #[Value.int (c1 + j) s1.toks]) hS₂ rfl
            obtain ⟨m, em, h'⟩ := hr _ _ ⟨_, _, rfl⟩ (slp (k := s1.toks + 1) I.bare (fun b o hb e => (Heap.get?_update_other _ _ (Ne.symm hb)).trans ((Heap.get?_update_other _ _ (Ne.symm hb)).trans e)) hS3) rfl
            exact ih m em _ _ _ _ 2 (.inr rfl) hS3 h'
        · show wpAny _ B.in1 ((holding [Value.int j tj] (binaryOp .Add (.int c1 t1) (.int j tj))).attempt >>= _) _ _ _
          refine wpAny_bind (wpAny_attempt (wpAny_holding (wpAny_add_int ?_)))
          show wpAny _ B.in1 (updateSeq S (fun _ => #[.int (c1 + j) s1.toks]) >>= _) _ _ _
          refine wpAny_bind (wpAny_updateSeq hS1 rfl ?_)
          have hS₂ := Heap.get?_update_self (Obj.mapSeq fun _ => #[Value.int (c1 + j) s1.toks]) hS1 rfl
          refine wpAny_bind (wpAny_letGo ?_)
          refine wpAny_bind (wpAny_updateSeq hS₂ rfl (wpAny_pure ⟨plainId_quiet F.plain_sum_loop _, ?_⟩))
          have hS3 : _ = some (sumObj (c1 + j) s1.toks n1) := Heap.get?_update_self (Obj.mapSeq fun _ => #[Value.int (c1 + j) s1.toks]) hS₂ rfl
          obtain ⟨m, em, h'⟩ := hr _ _ ⟨_, _, rfl⟩ (slp (k := s1.toks + 1) I.bare (fun b o hb e => (Heap.get?_update_other _ _ (Ne.symm hb)).trans ((Heap.get?_update_other _ _ (Ne.symm hb)).trans e)) hS3) rfl
          exact ih m em _ _ _ _ 2 (.inr rfl) hS3 h'
      | _ => cases er
  intro n
  induction n with
  | zero => exact main 0 fun m e => nomatch e
  | succ n ih => exact main (n + 1) fun m e => by cases e; exact ih
/-- all, any: the items are truths -/
noncomputable def allC (k : Bool) : Con Unit := ⟨fun _ y => match y with
  | .bl b => some (if b = k then .inr (.bl k) else .inl ())
  | _ => none, fun _ H Q => Q (.bl (!k)) H, fun _ sp => sp = []⟩
theorem all_gx {a : Addr} {i : Nat} {B : Around} {R : Result → Shared → Prop} (hh : B.handled = none) (hd : B.depth < recursionLimit) (hpn : ∀ h : Heap, (∀ p ∈ X.pn, h.get? p.1 = some p.2) → h.IsGen a i)
    (hR : ∀ b σ' H s', Q (.bl b) H → Inv X [] σ' H s' → R (.ok (.ret (.bool b))) s') : ∀ (n : Nat) (s : Shared), Aslp X B.in1.in1 (allC false) [] Q a i n s → codeAny (model X.prog X.w) B (.builtin "all.loop" ⟨[.ref a], []⟩) R s := by
  intro n
  induction n with
  | zero =>
    intro s h
    refine codeAny_builtin F.entry_all_loop (by
      rw [Around.under_plainId F.plain_all_loop _]
      refine wpAny_bind (pull (B := B.in1) hh hd hpn (fun _ _ => Iff.rfl) h (fun c σ' H s' q I => ?_) fun c y v r σ' H s' ry er I hr => ?_)
      · exact wpAny_bind (wpAny_rule (wpAny_pure (hR true σ' H s' q I)))
      · cases y with
        | bl b =>
          cases er
          cases b with
          | true => obtain ⟨m, e, _⟩ := hr; cases e
          | false =>
            cases ry
            refine wpAny_bind (wpAny_holding (wpAny_truthy_bool ?_))
            refine wpAny_bind (wpAny_letGo ?_)
            exact wpAny_bind (wpAny_rule (wpAny_pure (hR false σ' H s' hr I)))
        | _ => cases er)
  | succ n ih =>
    intro s h
    refine codeAny_builtin F.entry_all_loop (by
      rw [Around.under_plainId F.plain_all_loop _]
      refine wpAny_bind (pull (B := B.in1) hh hd hpn (fun _ _ => Iff.rfl) h (fun c σ' H s' q I => ?_) fun c y v r σ' H s' ry er I hr => ?_)
      · exact wpAny_bind (wpAny_rule (wpAny_pure (hR true σ' H s' q I)))
      · cases y with
        | bl b =>
          cases er
          cases b with
          | true =>
            obtain ⟨m, e, h'⟩ := hr
            cases e
            cases ry
            refine wpAny_bind (wpAny_holding (wpAny_truthy_bool ?_))
            refine wpAny_bind (wpAny_letGo ?_)
            exact wpAny_pure ⟨plainId_quiet F.plain_all_loop _, ih _ h'⟩
          | false =>
            cases ry
            refine wpAny_bind (wpAny_holding (wpAny_truthy_bool ?_))
            refine wpAny_bind (wpAny_letGo ?_)
            exact wpAny_bind (wpAny_rule (wpAny_pure (hR false σ' H s' hr I)))
        | _ => cases er)
theorem any_gx {a : Addr} {i : Nat} {B : Around} {R : Result → Shared → Prop} (hh : B.handled = none) (hd : B.depth < recursionLimit) (hpn : ∀ h : Heap, (∀ p ∈ X.pn, h.get? p.1 = some p.2) → h.IsGen a i)
    (hR : ∀ b σ' H s', Q (.bl b) H → Inv X [] σ' H s' → R (.ok (.ret (.bool b))) s') : ∀ (n : Nat) (s : Shared), Aslp X B.in1.in1 (allC true) [] Q a i n s → codeAny (model X.prog X.w) B (.builtin "any.loop" ⟨[.ref a], []⟩) R s := by
  intro n
  induction n with
  | zero =>
    intro s h
    refine codeAny_builtin F.entry_any_loop (by
      rw [Around.under_plainId F.plain_any_loop _]
      refine wpAny_bind (pull (B := B.in1) hh hd hpn (fun _ _ => Iff.rfl) h (fun c σ' H s' q I => ?_) fun c y v r σ' H s' ry er I hr => ?_)
      · exact wpAny_bind (wpAny_rule (wpAny_pure (hR false σ' H s' q I)))
      · cases y with
        | bl b =>
          cases er
          cases b with
          | false => obtain ⟨m, e, _⟩ := hr; cases e
          | true =>
            cases ry
            refine wpAny_bind (wpAny_holding (wpAny_truthy_bool ?_))
            refine wpAny_bind (wpAny_letGo ?_)
            exact wpAny_bind (wpAny_rule (wpAny_pure (hR true σ' H s' hr I)))
        | _ => cases er)
  | succ n ih =>
    intro s h
    refine codeAny_builtin F.entry_any_loop (by
      rw [Around.under_plainId F.plain_any_loop _]
      refine wpAny_bind (pull (B := B.in1) hh hd hpn (fun _ _ => Iff.rfl) h (fun c σ' H s' q I => ?_) fun c y v r σ' H s' ry er I hr => ?_)
      · exact wpAny_bind (wpAny_rule (wpAny_pure (hR false σ' H s' q I)))
      · cases y with
        | bl b =>
          cases er
          cases b with
          | false =>
            obtain ⟨m, e, h'⟩ := hr
            cases e
            cases ry
            refine wpAny_bind (wpAny_holding (wpAny_truthy_bool ?_))
            refine wpAny_bind (wpAny_letGo ?_)
            exact wpAny_pure ⟨plainId_quiet F.plain_any_loop _, ih _ h'⟩
          | true =>
            cases ry
            refine wpAny_bind (wpAny_holding (wpAny_truthy_bool ?_))
            refine wpAny_bind (wpAny_letGo ?_)
            exact wpAny_bind (wpAny_rule (wpAny_pure (hR true σ' H s' hr I)))
        | _ => cases er)
end
end Cod

namespace Cod
open PySem L2 PyProof.Rows

/-! ### generator expressions: the frame -/
/-- the generator's context -/
noncomputable def gX (X : Cx) (A' : Around) (env' : Env) (fp : List Addr) (a : Addr) (go : Obj) (s : Shared) (H : Hp) : Cx :=
  { X with A := A', s_0 := s, H_0 := H, env := env', outer := X.stack, stack := env' :: X.stack, ex := fp, fn := fun _ => false, pn := [(a, go)], xe := fun _ _ => False }
/-- the expression's own scope: no cells; its local names are among the slots vs, or none of the slots'; its free names are the frame's -/
structure GScp (N : List Str) (env : Env) (scope : Scope) (vs : List Nat) : Prop where
  kind : scope.kind = .function
  co : scope.isCoroutine = false
  cell : ∀ y ∈ scope.names, y.2 ≠ .cell
  dot : scope.names.lookup (".0" : Str) = some NameKind.local
  loc : ∀ i x, N[i]? = some x → scope.names.lookup x = some .local → i ∈ vs
  free : ∀ x, scope.names.lookup x = some .free → env.scope.names.lookup x = some .cell ∨ env.scope.names.lookup x = some .free
  free1 : ∀ y ∈ scope.names, y.2 = .free → env.scope.names.lookup y.1 = some .cell ∨ env.scope.names.lookup y.1 = some .free
theorem clo_get {cells : List (Str × Addr)} {names : List (Str × NameKind)} {x : Str} {c : Addr} (h : (cloFrom cells names []).lookup x = some c) : (x, NameKind.free) ∈ names ∧ c = (cells.lookup x).getD 0 := by
  rcases cloFrom_mem (PySem.mem_of_lookup h) with z | z
  · cases z
  · exact z
theorem clo_has {cells : List (Str × Addr)} {names : List (Str × NameKind)} {x : Str} (h : (x, NameKind.free) ∈ names) : (cloFrom cells names []).lookup x = some ((cells.lookup x).getD 0) := by
  obtain ⟨c, e⟩ := mem_lookup (cloFrom_has (cells := cells) (acc := []) h)
  rw [e, (clo_get e).2]
theorem wipe_in {σ : L2.St} {i : Nat} {v : V} : ∀ {vs : List Nat}, i ∈ vs → (L2.wipe σ vs)[i]? ≠ some (some v)
  | [], h => by cases h
  | w :: vs, h => by
    show ((L2.wipe σ vs).set w none)[i]? ≠ _
    intro z
    rw [List.getElem?_set] at z
    split at z
    · split at z <;> cases z
    · rename_i hw
      rcases List.mem_cons.mp h with e | e
      · exact hw e.symm
      · exact wipe_in e z
theorem gX_inv {X : Cx} {pins : List (Addr × Obj)} {σ : L2.St} {H : Hp} {s s' : Shared} {A' : Around} {scope : Scope} {code : Value} {fp : List Addr} {a : Addr} {go : Obj} {vs : List Nat} {m : Str → Option Value}
    (S : GScp X.N X.env scope vs) (I : Inv X pins σ H s) (hA : A'.frames = some (genEnv scope (cloFrom X.env.cells scope.names []) s.heap.objs.size code builtinsNs X.env :: X.stack)) (hh : A'.handled = none)
    (hf : ∀ b ∈ fp, FpOk X pins H b) (hlt : ∀ b ∈ fp, b < s.heap.objs.size) (keep : ∀ b o, s.heap.get? b = some o → s'.heap.get? b = some o) (hn : s'.heap.Ns s.heap.objs.size m) (hg : s'.heap.get? a = some go) (hgd : ∀ v, go.data ≠ .cell v) (hga : s.heap.objs.size < a) (os : s'.os = s.os) (hb : AllBare s'.gens) :
    Inv (gX X A' (genEnv scope (cloFrom X.env.cells scope.names []) s.heap.objs.size code builtinsNs X.env) fp a go s H) [] (L2.wipe σ vs) H s' := by
  have e0 := I.env0
  have cl1 : ∀ x c, (cloFrom X.env.cells scope.names []).lookup x = some c → X.env.cells.lookup x = some c := fun x c h => by
    obtain ⟨h1, h2⟩ := clo_get h
    obtain ⟨d, hd⟩ := I.ok.has x ((S.free1 _ h1 rfl).imp id id)
    rw [hd] at h2
    rw [hd, h2]
    rfl
  have ltC : ∀ x c, X.env.cells.lookup x = some c → c < s.heap.objs.size := fun x c h => by
    obtain ⟨v, q⟩ := I.cell x c h
    exact q.lt
  have nfs : ∀ b, s.heap.objs.size ≤ b → b ∉ frs X.stack := fun b hb hm => by
    have := (e0.funs.mem hm).2
    obtain ⟨o, ho, _⟩ := this
    exact absurd (Nat.lt_of_lt_of_le (Heap.lt_size ho) hb) (Nat.lt_irrefl _)
  refine ⟨⟨e0.mod, S.kind, I.ok.glob, rfl, Nat.le_refl _, fun x y c h1 h2 => I.ok.inj x y c (cl1 x c h1) (cl1 y c h2), fun x hx => ?_, fun x c h _ => absurd h (by intro z; cases z), fun _ => hh, hA, .inr ⟨rfl, rfl⟩, fun b hb' => ⟨Nat.ne_of_lt (hlt b hb'), fun x c h => (hf b hb').2.2.2.2.1 x c (cl1 x c h)⟩, e0.bs, e0.bsz, fun b o e hb' => ?_, fun b hb' hm => ?_, e0.funs, e0.frf⟩,
    os, hb, ?_, ⟨m, hn, fun i x v h1 h2 h3 => ?_⟩, fun x c h => ?_, I.hok.fresh (Nat.le_refl _), fun x c h => I.freeC x c (cl1 x c h), fun p hp => ?_, I.hok.kept keep, (L2.wipe_length _ _).trans I.len⟩
  · have hx : scope.names.lookup x = some .cell ∨ scope.names.lookup x = some .free := hx
    rcases hx with hx | hx
    · exact absurd rfl (S.cell _ (PySem.mem_of_lookup hx))
    · exact ⟨_, clo_has (PySem.mem_of_lookup hx)⟩
  · rcases (hf b hb').2.2.2.1 with z | z
    · exact I.ok.noex b o e z
    · have h1 := Heap.lt_size e
      have h2 := I.ok.bsz
      exact absurd (Nat.lt_of_lt_of_le h1 (Nat.le_trans h2 z)) (Nat.lt_irrefl _)
  · rcases List.mem_cons.mp (I.stkSub b hm) with z | z
    · exact (hf b hb').2.1 z
    · exact (hf b hb').2.2.1 z
  · exact Un.kept keep
  · have h2' := wipe_some h2
    rcases h3 with k | k | k
    · exact absurd h2 (wipe_in (S.loc i x h1 k))
    · exact absurd rfl (S.cell _ (PySem.mem_of_lookup k))
    · obtain ⟨m0, hn0, hl0⟩ := I.loc
      obtain ⟨u, ru, hu⟩ := hl0 i x v h1 h2' ((S.free x k).elim (fun z => .inr (.inl z)) fun z => .inr (.inr z))
      rcases hu with ⟨z, _⟩ | ⟨_, c, hc, hcell⟩
      · have z : X.env.scope.names.lookup x = some .local := z
        rcases S.free x k with y | y <;> (rw [y] at z; cases z)
      · refine ⟨u, ru, .inr ⟨.inr k, c, ?_, ?_⟩⟩
        · show (cloFrom X.env.cells scope.names []).lookup x = some c
          have k' : scope.names.lookup x = some .free := k
          rw [clo_has (PySem.mem_of_lookup k'), hc]
          rfl
        · obtain ⟨o, ho, hd⟩ := hcell
          exact ⟨o, keep _ _ ho, hd⟩
  · obtain ⟨v, o, ho, hd⟩ := I.cell x c (cl1 x c h)
    exact ⟨v, o, keep _ _ ho, hd⟩
  · rw [List.append_nil] at hp
    have ep : p = (a, go) := List.mem_singleton.mp hp
    subst ep
    exact ⟨hg, I.hok.fresh (Nat.le_of_lt hga), Nat.ne_of_gt hga, nfs a (Nat.le_of_lt hga), hgd⟩
/-- a table of code objects has grown; a new code object has an empty table of its own -/
noncomputable def Grw (H H' : Hp) : Prop := ∃ (P : Addr) (ps more : Array Value), H P = some (.tbl ps) ∧ H' P = some (.tbl (ps ++ more)) ∧ TriplesOk (ps ++ more).toList ∧ (∀ b u, b ≠ P → H b = some u → H' b = some u) ∧
  ∀ pos cv, codeAmong pos (ps ++ more).toList = some cv → codeAmong pos ps.toList = some cv ∨ ∃ c P', cv = .ref c ∧ H' c = some (CodeG c P') ∧ H' P' = some (.tbl #[])
theorem codeG_tbl {c P : Addr} {ps : Array Value} : CodeG c P ≠ HO.tbl ps := fun z => by cases z
theorem Grw.tab {H H' : Hp} {Q : Addr} (g : Grw H H') (t : TabD H Q) : TabD H' Q := by
  obtain ⟨P, ps, more, g1, g2, g3, g4, g5⟩ := g
  obtain ⟨qs, t1, t2, t3⟩ := t
  have old : ∀ {c P' : Addr} {ps' : Array Value}, H c = some (CodeG c P') → H P' = some (.tbl ps') → TriplesOk ps'.toList → ∃ ps'', H' c = some (CodeG c P') ∧ H' P' = some (.tbl ps'') ∧ TriplesOk ps''.toList := fun {c P' ps'} e2 e3 e4 => by
    have hc := g4 c _ (fun z => by rw [z, g1] at e2; exact codeG_tbl (Option.some.inj e2).symm) e2
    by_cases e : P' = P
    · subst e
      exact ⟨_, hc, g2, g3⟩
    · exact ⟨ps', hc, g4 _ _ e e3, e4⟩
  by_cases e : Q = P
  · subst e
    rw [g1] at t1
    cases t1
    refine ⟨_, g2, g3, fun pos cv h => ?_⟩
    rcases g5 pos cv h with z | ⟨c, P', z1, z2, z3⟩
    · obtain ⟨c, P', ps', e1, e2, e3, e4⟩ := t3 pos cv z
      obtain ⟨ps'', f1, f2, f3⟩ := old e2 e3 e4
      exact ⟨c, P', ps'', e1, f1, f2, f3⟩
    · exact ⟨c, P', #[], z1, z2, z3, trivial⟩
  · refine ⟨qs, g4 _ _ e t1, t2, fun pos cv h => ?_⟩
    obtain ⟨c, P', ps', e1, e2, e3, e4⟩ := t3 pos cv h
    obtain ⟨ps'', f1, f2, f3⟩ := old e2 e3 e4
    exact ⟨c, P', ps'', e1, f1, f2, f3⟩
theorem among_more {pos : Pos} {cv : Value} {more : List Value} (l : List Value) (h : codeAmong pos l = some cv) : codeAmong pos (l ++ more) = some cv := by
  fun_induction codeAmong pos l with
  | case1 line t col t2 c rest hc => simp only [List.cons_append, codeAmong, hc, if_true]; exact h
  | case2 line t col t2 c rest hc ih => simp only [List.cons_append, codeAmong, hc, if_false]; exact ih h
  | case3 => cases h
/-- the code object cv is in a table of T -/
noncomputable def Zg (T : List Addr) (d : Bool) (gpos : Pos) (H : Hp) (cv : Value) : Prop := d = true → ∃ P ∈ T, ∃ (ps : Array Value) (c : Addr), H P = some (.tbl ps) ∧ cv = .ref c ∧ codeAmong gpos ps.toList = some cv
theorem CodK.base {X : Cx} {T : List Addr} {c P P0 : Addr} {d : Bool} (hc : X.env.code = .ref c) (hb : X.base.BuiltinsAt X.mg P0) (hh : PySem.W.CodeHd X.base c P) (hP : P ∈ T) : CodK X T d :=
  ⟨c, hc, ⟨P0, hb⟩, fun _ => ⟨P, hP, hh⟩, fun pins σ H s I t => by
    obtain ⟨ps, e, tr, _⟩ := t P hP
    exact ⟨P, ps, hh.keeps fun b u e => I.bk b u e, e, tr, fun _ => hP⟩⟩
theorem CodK.blk {X Y : Cx} {T : List Addr} {d : Bool} (K : CodK X T d) (h : d = true) (e1 : Y.env.code = X.env.code) (e2 : Y.base = X.base) (e3 : Y.mg = X.mg) : CodK Y T d := by
  obtain ⟨c, hc, ⟨P0, hb⟩, hs, _⟩ := K
  obtain ⟨P, hP, hh⟩ := hs h
  exact CodK.base (e1.trans hc) (by rw [e2, e3]; exact hb) (by rw [e2]; exact hh) hP
theorem CodK.gx {X : Cx} {T : List Addr} {d : Bool} {gpos : Pos} {A' : Around} {scope : Scope} {Cc : Addr} {cells : List (Str × Addr)} {cv : Value} {fp : List Addr} {a : Addr} {go : Obj} {s : Shared} {H : Hp} (K : CodK X T d) (z : Zg T true gpos H cv) :
    CodK (gX X A' (genEnv scope cells Cc cv builtinsNs X.env) fp a go s H) T false := by
  obtain ⟨c0, _, hb, _, _⟩ := K
  obtain ⟨P0, hP0, ps0, c', e, ecv, hca⟩ := z rfl
  refine ⟨c', ecv, hb, (fun z => nomatch z), fun pins σ' H' s' I t => ?_⟩
  obtain ⟨more, em⟩ := I.base.tbls P0 ps0 e
  obtain ⟨ps1, e1, tr1, h1⟩ := t P0 hP0
  rw [em] at e1
  cases e1
  have hm : codeAmong gpos (ps0 ++ more).toList = some cv := by
    rw [Array.toList_append]
    exact among_more _ hca
  obtain ⟨c2, P2, ps2, q1, q2, q3, q4⟩ := h1 _ _ hm
  have ec : c2 = c' := by
    rw [ecv] at q1
    cases q1
    rfl
  subst ec
  have hh := I.hok c2 _ q2
  unfold CodeG at hh
  exact ⟨P2, ps2, hh.1, q3, q4, fun z => nomatch z⟩
section
variable {X : Cx} {pins : List (Addr × Obj)} {σ : L2.St} {H : Hp} {s : Shared}
/-- the table's object is written; the code object at c and its table at Q are new -/
theorem inv_tabG {P c Q : Addr} {ps more : Array Value} {h' : Heap} {g' : Array GenState} {d' : Drawn} {t' : Nat} (I : Inv X pins σ H s) (hP : H P = some (.tbl ps)) (k : ∀ b o, b ≠ P → s.heap.get? b = some o → h'.get? b = some o)
    (hm : h'.get? P = some { cls := .none, data := .fields (ps ++ more) }) (hc : s.heap.objs.size ≤ c) (hQ : s.heap.objs.size ≤ Q) (hcd : PySem.W.CodeHd h' c Q) (hq : h'.get? Q = some { cls := .none, data := .fields #[] }) (hg : AllBare g') :
    Inv X pins σ (upd (upd (upd H P (.tbl (ps ++ more))) Q (.tbl #[])) c (CodeG c Q)) { s with heap := h', gens := g', drawn := d', toks := t' } := by
  have nC : H c = none := I.hok.fresh hc
  have nQ : H Q = none := I.hok.fresh hQ
  have nPc : P ≠ c := ne_of_none hP nC
  have nPQ : P ≠ Q := ne_of_none hP nQ
  have ncQ : c ≠ Q := by
    obtain ⟨_, _, _, _, _, _, _, _, _, _, _, _, _, _, _, _, _, _, n⟩ := hcd
    exact n
  have at_ : ∀ b, b ≠ P → b ≠ c → b ≠ Q → upd (upd (upd H P (.tbl (ps ++ more))) Q (.tbl #[])) c (CodeG c Q) b = H b := fun b h1 h2 h3 => by rw [upd_ne h2, upd_ne h3, upd_ne h1]
  have atP : upd (upd (upd H P (.tbl (ps ++ more))) Q (.tbl #[])) c (CodeG c Q) P = some (.tbl (ps ++ more)) := by rw [upd_ne nPc, upd_ne nPQ, upd_same]
  have atQ : upd (upd (upd H P (.tbl (ps ++ more))) Q (.tbl #[])) c (CodeG c Q) Q = some (.tbl #[]) := by rw [upd_ne (Ne.symm ncQ), upd_same]
  have nP : ∀ b u, H b = some u → (∀ q, u ≠ .tbl q) → b ≠ P := fun b u e q z => by
    rw [z, hP] at e
    exact q ps (Option.some.inj e).symm
  have nN : ∀ b, H b = none → b ≠ P := fun b e z => by
    rw [z, hP] at e
    cases e
  have lt' : ∀ b o, s.heap.get? b = some o → b ≠ c := fun b o e z => by
    rw [z] at e
    exact Nat.lt_irrefl _ (Nat.lt_of_lt_of_le (Heap.lt_size e) hc)
  have ltQ : ∀ b o, s.heap.get? b = some o → b ≠ Q := fun b o e z => by
    rw [z] at e
    exact Nat.lt_irrefl _ (Nat.lt_of_lt_of_le (Heap.lt_size e) hQ)
  have sm : ∀ b u, H b = some u → b ≠ c := fun b u e => ne_of_none e nC
  have smQ : ∀ b u, H b = some u → b ≠ Q := fun b u e => ne_of_none e nQ
  refine I.step (g' := g') (d' := d') (ch := []) (fun b hb => absurd hb (by simp)) (fun b o _ _ _ e n => k b o (nN b n) e) (fun b o _ _ _ e n => ⟨o.slots, k b o (nN b n) e⟩)
    (fun b o _ e n => by rw [at_ b (nN b n) (lt' b o e) (ltQ b o e)]; exact n) (fun b o _ e => ?_) (fun b xs e => by rw [at_ b (nP b _ e (fun q z => by cases z)) (sm b _ e) (smQ b _ e)]; exact e) (fun b o u e => by rw [at_ b (nP b _ e (fun q z => by cases z)) (sm b _ e) (smQ b _ e)]; exact e) (fun b qs e => ?_) (fun m hn => ?_) (fun b u e => ?_) hg
  · by_cases hb : b = P
    · rw [hb]
      exact ⟨_, hm⟩
    · exact ⟨o, k b o hb e⟩
  · by_cases hb : b = P
    · rw [hb, hP] at e
      cases e
      rw [hb, atP]
      exact ⟨more, rfl⟩
    · rw [at_ b hb (sm b _ e) (smQ b _ e), e]
      exact ⟨#[], by simp⟩
  · obtain ⟨ob, es, ep, ho, r⟩ := hn
    exact ⟨ob, es, ep, k _ ob (nN _ I.free) ho, r⟩
  · by_cases hb : b = c
    · rw [hb, upd_same] at e
      cases e
      rw [hb]
      unfold CodeG
      refine ⟨hcd, ?_, fun h1 h2 y st => ?_⟩
      · obtain ⟨o, vs, file, tf, flags, tg, inF, text, tt, e, _⟩ := hcd
        exact ⟨o, e⟩
      · obtain ⟨o, vs, file, tf, flags, tg, inF, text, tt, e, r⟩ := y
        exact ⟨o, vs, file, tf, flags, tg, inF, text, tt, st _ e, r⟩
    · by_cases hb2 : b = P
      · rw [hb2, atP] at e
        cases e
        rw [hb2]
        exact hm
      · by_cases hb3 : b = Q
        · rw [hb3, atQ] at e
          cases e
          rw [hb3]
          exact hq
        · rw [at_ b hb2 hb hb3] at e
          refine (I.hok b u e).stay (fun d v hd q => k d v ?_ q) (fun d q => by rw [at_ d (nP d _ q (fun q z => by cases z)) (sm d _ q) (smQ d _ q)]; exact q) fun d xs q => by rw [at_ d (nP d _ q (fun q z => by cases z)) (sm d _ q) (smQ d _ q)]; exact q
          rcases hd with z | z
          · rw [z]
            exact hb2
          · exact nP d _ z (fun q z => by cases z)
end
/-- a generator that has been made -/
structure Made (X : Cx) (pins : List (Addr × Obj)) (σ : L2.St) (tg iter elt : Expr) (scope : Scope) (gpos : Pos) (T : List Addr) (d : Bool) (H1 H2 : Hp) (J : L2.It) (fp : List Addr) (it : Addr) (tn : Nat → Heap → Prop) (a : Addr) (go : Obj) (i : Nat) (code : Value) (s4 s5 : Shared) : Prop where
  tab : Grw H1 H2
  zc : Zg T d gpos H2 code
  inv : Inv X pins σ H2 s4
  turn : Turn X.prog X.w X.K tg J fp it tn
  fpo : ∀ b ∈ fp, FpOk X pins H2 b
  lt : ∀ b ∈ fp, b < s4.heap.objs.size
  tn0 : tn 0 s5.heap
  keep : ∀ b o, s4.heap.get? b = some o → s5.heap.get? b = some o
  ns : ∃ m, s5.heap.Ns s4.heap.objs.size m
  goa : s5.heap.get? a = some go
  god : ∀ v, go.data ≠ .cell v
  ga : s4.heap.objs.size < a
  os : s5.os = s4.os
  bare : AllBare s5.gens
  gen : ∀ h : Heap, h.get? a = some go → h.IsGen a i
  frs : s5.gens[i]? = some (.fresh (.compStart (.GeneratorExp elt [⟨tg, iter, [], 0⟩] scope gpos) 0 (.ref it) .none (genEnv scope (cloFrom X.env.cells scope.names []) s4.heap.objs.size code builtinsNs X.env)))
theorem gx_make {X : Cx} {pins : List (Addr × Obj)} {σ : L2.St} {H : Hp} {s : Shared} {T : List Addr} {d : Bool} {elt iter tg : Expr} {gpos : Pos} {scope : Scope} {wi : TI} {vs : List Nat} {Q' : Value → Shared → Prop} {RR : L2.It → Hp → Prop}
    (hd : X.A.depth < recursionLimit) (K : CodK X T d) (S : GScp X.N X.env scope vs) (hi : PI X tg iter wi) (hs : ∀ v, genFold iter X.env v = pure v) (I : Inv X pins σ H s) (h : wi σ H fun J H1 => (∀ P ∈ T, TabD H1 P) ∧ RR J H1)
    (hQ : ∀ J H1 H2 fp it tn a go i code s4 s5, RR J H1 → Made X pins σ tg iter elt scope gpos T d H1 H2 J fp it tn a go i code s4 s5 → Q' (.ref a) s5) :
    wpAny (model X.prog X.w) X.A (eval (.GeneratorExp elt [⟨tg, iter, [], 0⟩] scope gpos) X.env) Q' X.xe s := by
  have hfree : ∀ y ∈ scope.names, y.2 = .free → ∃ c, X.env.cells.lookup y.1 = some c := fun y hy e => I.ok.has y.1 ((S.free1 y hy e).imp id id)
  refine wpAny_GeneratorExp_make S.co (closure_ok hfree) S.cell S.dot S.kind hd (wpAny_mono (hi.run pins s σ H _ I h) (fun xv s1 w1 => wpAny_mono w1 (fun itv s2 w2 => ?_) fun _ _ e => e) fun _ _ e => e) hs
  obtain ⟨it, fp, tn, J, H1, rfl, I2, tr, ht, hf, hT, hR⟩ := w2
  refine ⟨I2.nolimit, ?_⟩
  obtain ⟨c, hcode, ⟨P0, hbm⟩, _, hk⟩ := K
  obtain ⟨P, ps, cd, hP, htp, hPT⟩ := hk _ _ _ _ I2 hT
  have hPs : s2.heap.get? P = some { cls := .none, data := .fields ps } := I2.hok P _ hP
  have gP : mainGlobals ≠ P := fun e => by
    obtain ⟨o, es, ep, ho, h1, _⟩ := I2.mod.glob.keeps I2.bk
    rw [e, hPs] at ho
    cases ho
    cases h1
  have cont : ∀ (code : Value) (h3 : Heap) (tk : Nat) (H2 : Hp), Grw H1 H2 → Zg T d gpos H2 code → (∀ b, b < s2.heap.objs.size → b ≠ P → H2 b = H1 b) → Inv X pins σ H2 { s2 with heap := h3, toks := tk } → Heap.ExtBut P s2.heap h3 → s2.heap.objs.size ≤ h3.objs.size →
      wpAny (model X.prog X.w) X.A (builtinsFor X.env.globals X.env.builtins) (fun bi s₄ => ∀ h', h'.Ns s₄.heap.objs.size (fun y => if y = ".0" then some (.ref it) else none) → Heap.SameBut s₄.heap.objs.size (s₄.heap.push { cls := .type "frame", data := .dict #[] }) h' →
          Q' (.ref h'.objs.size) { s₄ with
            gens := s₄.gens.push (.fresh (.compStart (.GeneratorExp elt [⟨tg, iter, [], 0⟩] scope gpos) 0 (.ref it) .none (genEnv scope (cloFrom X.env.cells scope.names []) s₄.heap.objs.size code bi X.env))),
            toks := s₄.toks + 1 + 1 + 1,
            heap := h'.push { cls := .type "generator", data := .fields #[.int s₄.gens.size 0, .str "<genexpr>" (s₄.toks + 1), .str (X.env.qual ++ "<genexpr>") (s₄.toks + 1 + 1)] } }) X.xe { s2 with heap := h3, toks := tk } := by
    intro code h3 tk H2 hG hZ hsame I4 hx hsz
    obtain ⟨bm, ob, e1, e2, e3, e4, e5, e6, e7, e8⟩ := hbm
    have keep3 : ∀ b u, b ≠ P → s2.heap.get? b = some u → h3.get? b = some u := fun b u hb e => hx b u hb e
    have nbP : bm ≠ P := fun e => by
      have := I2.bk _ _ e5
      rw [e, hPs] at this
      cases this
      cases e8
    refine wpAny_builtinsFor (m := X.mg) (by rw [I2.ok.glob]; exact (I2.mod.glob.keeps I2.bk).extBut hx gP) e1 e2 (keep3 _ _ nbP (I2.bk _ _ e5)) e6 e7 e8 ?_
    intro h' hn' hs'
    have fpP : ∀ b ∈ fp, b ≠ P := fun b hb e => by
      have := (hf b hb).1
      rw [e, hP] at this
      cases this
    have fpL : ∀ b ∈ fp, b < s2.heap.objs.size := fun b hb => by
      obtain ⟨o, ho, _⟩ := tr.obj 0 s2.heap ht b hb
      exact Heap.lt_size ho
    have hsz' : h'.objs.size = h3.objs.size + 1 := by rw [hs'.1, Heap.size_push]
    have k' : ∀ b o, h3.get? b = some o → h'.get? b = some o := fun b o e => hs'.extBut b o (Nat.ne_of_lt (Heap.lt_size e)) (Heap.get?_push_of_some _ e)
    refine hQ J H1 H2 fp it tn h'.objs.size _ s2.gens.size code { s2 with heap := h3, toks := tk } _ hR
      ⟨hG, hZ, I4, tr, fun b hb => ?_, fun b hb => Nat.lt_of_lt_of_le (fpL b hb) hsz, ?_, fun b o e => Heap.get?_push_of_some _ (k' b o e), ⟨_, hn'.push _⟩, Heap.get?_push_size _ rfl, (fun v z => by cases z), ?_, rfl, ?_, fun hh e => ⟨_, _, _, e, rfl, rfl, rfl⟩, Array.getElem?_push_size ..⟩
    · obtain ⟨f1, f2, f3, f4, f5, f6⟩ := hf b hb
      exact ⟨by rw [hsame b (fpL b hb) (fpP b hb)]; exact f1, f2, f3, f4, f5, f6⟩
    · exact tr.keep 0 _ _ ht fun b hb o e => Heap.get?_push_of_some _ (k' b o (keep3 b o (fpP b hb) e))
    · show h3.objs.size < h'.objs.size
      omega
    · exact AllBare.push I2.bare rfl
  cases hf' : codeAmong gpos ps.toList with
  | none =>
    refine wpAny_genexprCodeX hcode (cd.code hPs htp) (cd.tab hPs) hf' fun c' h' tk hx hge hlt hco' _ htab' hnew => ?_
    obtain ⟨Q, hQge, hq1, hq2⟩ := hnew
    obtain ⟨o1, vs1, f1, tf, fl, tg1, inF, tx, tt, op, _, _, _, _, _, _, _, _, _, htr, _⟩ := hco'
    have nC : H1 c' = none := I2.hok.fresh hge
    have nQ : H1 Q = none := I2.hok.fresh hQge
    have hcd := PySem.W.CodeHd.of hq1 hq2
    have ncQ : c' ≠ Q := by
      obtain ⟨_, _, _, _, _, _, _, _, _, _, _, _, _, _, _, _, _, _, n⟩ := hcd
      exact n
    have atP : upd (upd (upd H1 P (.tbl (ps ++ #[rawInt gpos.line, rawInt gpos.col, .ref c']))) Q (.tbl #[])) c' (CodeG c' Q) P = some (.tbl (ps ++ #[rawInt gpos.line, rawInt gpos.col, .ref c'])) := by rw [upd_ne (ne_of_none hP nC), upd_ne (ne_of_none hP nQ), upd_same]
    have eL : (ps ++ #[rawInt gpos.line, rawInt gpos.col, Value.ref c']).toList = ps.toList ++ [rawInt gpos.line, rawInt gpos.col, .ref c'] := by simp
    refine cont _ h' tk _ ⟨P, ps, _, hP, atP, htr, fun b u hb e => ?_, fun pos cv hcv => ?_⟩ (fun hd' => ⟨P, hPT hd', _, c', atP, rfl, ?_⟩) (fun b hb hbP => ?_) (inv_tabG (g' := s2.gens) (d' := s2.drawn) I2 hP (fun b o hb e => hx b o hb e) htab'.2 hge hQge hcd hq2.2 I2.bare) hx (Nat.le_trans hge (Nat.le_of_lt hlt))
    · rw [upd_ne (ne_of_none e nC), upd_ne (ne_of_none e nQ), upd_ne hb]
      exact e
    · rw [eL] at hcv
      rcases LamX.among_app _ htp hcv with z | z
      · exact .inl z
      · exact .inr ⟨c', Q, z, upd_same, by rw [upd_ne (Ne.symm ncQ), upd_same]⟩
    · rw [eL]
      exact codeAmong_snoc _ htp hf'
    · rw [upd_ne (Nat.ne_of_lt (Nat.lt_of_lt_of_le hb hge)), upd_ne (Nat.ne_of_lt (Nat.lt_of_lt_of_le hb hQge)), upd_ne hbP]
  | some cv =>
    refine wpAny_genexprCode_hit hcode (cd.code hPs htp) hf' ?_
    refine cont cv s2.heap s2.toks H1 ⟨P, ps, #[], hP, by rw [Array.append_empty]; exact hP, by rw [Array.append_empty]; exact htp, fun b u _ e => e, fun pos cv h => .inl (by rw [Array.append_empty] at h; exact h)⟩ (fun hd' => ?_) (fun _ _ _ => rfl) I2 (Heap.ExtBut.refl _ _) (Nat.le_refl _)
    obtain ⟨ps2, e1, _, e3⟩ := hT P (hPT hd')
    rw [hP] at e1
    cases e1
    obtain ⟨c2, P2, ps3, q1, _⟩ := e3 _ _ hf'
    exact ⟨P, hPT hd', ps, c2, hP, q1, hf'⟩
end Cod

namespace Cod
open PySem L2 PyProof.Rows

/-! ### all, any of a generator expression -/
noncomputable abbrev gA (X : Cx) (ge : Expr) (it : Addr) (env : Env) : Around := X.A.in1.in1.over (.compLoop ge 0 (.ref it) .none env) []
noncomputable abbrev gE (X : Cx) (scope : Scope) (C : Addr) (code : Value) : Env := genEnv scope (cloFrom X.env.cells scope.names []) C code builtinsNs X.env
noncomputable def tGx {C : Type} (M : Con C) (T : List Addr) (wi : TI) (g : TG) (te : TE) (vs : List Nat) (c0 : C) : TE := fun σ H Q => wi σ H fun J H1 => (∀ P ∈ T, TabD H1 P) ∧ ∀ H2, Grw H1 H2 → ∃ n, conT M J g te vs (L2.wipe σ vs) Q n 0 c0 H2
noncomputable def tGsum (T : List Addr) (wi : TI) (g : TG) (te : TE) (vs : List Nat) : TE := fun σ H Q => wi σ H fun J H1 => (∀ P ∈ T, TabD H1 P) ∧ ∀ H2, Grw H1 H2 → ∃ n, ∀ S : Addr, conT (sumC S) J g te vs (L2.wipe σ vs) Q n 0 0 H2
/-- what is known of the expression's parts -/
structure GxOk (X : Cx) (j : Nat) (tg iter elt : Expr) (scope : Scope) (gpos : Pos) (T : List Addr) (d : Bool) (wi : TI) (g : TG) (te : TE) (vs : List Nat) : Prop where
  room : Room (j + 1) X.A
  calm : X.calm = true
  cod : CodK X T d
  scp : GScp X.N X.env scope vs
  it : PI X tg iter wi
  fold : ∀ v, genFold iter X.env v = pure v
  pg : ∀ (A' : Around) (Cc : Addr) (cv : Value) (fp : List Addr) (a : Addr) (go : Obj) (s : Shared) (H : Hp), Room j A' → Zg T d gpos H cv → PG (gX X A' (gE X scope Cc cv) fp a go s H) tg g
  pe : ∀ (A' : Around) (Cc : Addr) (cv : Value) (fp : List Addr) (a : Addr) (go : Obj) (s : Shared) (H : Hp), Room j A' → Zg T d gpos H cv → PE (gX X A' (gE X scope Cc cv) fp a go s H) elt te
section
variable {X : Cx} {j : Nat} {tg iter elt : Expr} {scope : Scope} {gpos : Pos} {T : List Addr} {d : Bool} {wi : TI} {g : TG} {te : TE} {vs : List Nat} {pins : List (Addr × Obj)} {σ : L2.St} {H1 H2 : Hp} {J : L2.It} {fp : List Addr} {it : Addr} {tn : Nat → Heap → Prop} {a : Addr} {go : Obj} {i : Nat} {code : Value} {s4 s5 : Shared}
theorem GxOk.roomG (G : GxOk X j tg iter elt scope gpos T d wi g te vs) {env : Env} : Room j (gA X (.GeneratorExp elt [⟨tg, iter, [], 0⟩] scope gpos) it env) := by
  have h := G.room
  refine ⟨h.hd, ?_, ?_⟩
  · have := h.dp
    show X.A.depth + 1 + 3 * j + 5 < _
    omega
  · have := h.un
    show X.A.units + 1 + 1 + 3 + 16 * j + 200 < _
    omega
theorem GxOk.gx {C : Type} {M : Con C} (G : GxOk X j tg iter elt scope gpos T d wi g te vs) (hM : Made X pins σ tg iter elt scope gpos T d H1 H2 J fp it tn a go i code s4 s5) (hp : ∀ c sp, M.pn c sp → sp = []) :
    Gx (gX X (gA X (.GeneratorExp elt [⟨tg, iter, [], 0⟩] scope gpos) it (gE X scope s4.heap.objs.size code)) (gE X scope s4.heap.objs.size code) fp a go s4 H2) X.A.in1.in1 tg iter elt scope gpos J fp it tn g te vs (L2.wipe σ vs) [] M where
  over := rfl
  calm := G.calm
  xe := fun _ _ z => z
  tr := hM.turn
  fpk := fun b hb => by
    obtain ⟨f1, f2, f3, f4, f5, f6⟩ := hM.fpo b hb
    have hlt := hM.lt b hb
    refine ⟨Nat.ne_of_lt hlt, fun hm => ?_, .inl hb, fun x d h => ?_, fun p hp e => ?_, List.not_mem_nil⟩
    · rcases List.mem_cons.mp (hM.inv.stkSub b hm) with z | z
      · exact f2 z
      · exact f3 z
    · obtain ⟨h1, h2⟩ := clo_get h
      obtain ⟨d', hd'⟩ := hM.inv.ok.has x ((G.scp.free1 _ h1 rfl).imp id id)
      rw [hd'] at h2
      rw [h2]
      exact f5 x d' hd'
    · have ep : p = (a, go) := List.mem_singleton.mp hp
      rw [ep] at e
      have e : a = b := e
      rw [← e] at hlt
      exact absurd (Nat.lt_trans hM.ga hlt) (Nat.lt_irrefl _)
  pg := G.pg _ _ _ _ _ _ _ _ G.roomG hM.zc
  pe := G.pe _ _ _ _ _ _ _ _ G.roomG hM.zc
  apt := fun b hb => absurd hb List.not_mem_nil
  msp := fun c sp h => by rw [hp c sp h]; rfl
  co := G.scp.co
theorem GxOk.inv (G : GxOk X j tg iter elt scope gpos T d wi g te vs) (hM : Made X pins σ tg iter elt scope gpos T d H1 H2 J fp it tn a go i code s4 s5) :
    Inv (gX X (gA X (.GeneratorExp elt [⟨tg, iter, [], 0⟩] scope gpos) it (gE X scope s4.heap.objs.size code)) (gE X scope s4.heap.objs.size code) fp a go s4 H2) [] (L2.wipe σ vs) H2 s5 := by
  obtain ⟨m, hn⟩ := hM.ns
  refine gX_inv G.scp hM.inv ?_ G.room.hd hM.fpo hM.lt hM.keep hn hM.goa hM.god hM.ga hM.os hM.bare
  have e1 : X.A.in1.in1.frames = some X.stack := hM.inv.ok.frames
  unfold gA Around.over
  have e2 : X.A.frames = some X.stack := hM.inv.ok.frames
  simp only [e1, e2]
  rfl
theorem GxOk.back (G : GxOk X j tg iter elt scope gpos T d wi g te vs) (hM : Made X pins σ tg iter elt scope gpos T d H1 H2 J fp it tn a go i code s4 s5) {A' : Around} {env' : Env} {σ' : L2.St} {H : Hp} {s' : Shared} (I : Inv (gX X A' env' fp a go s4 H2) [] σ' H s') : Inv X pins σ H s' :=
  hM.inv.call' (ch := fp) I.os I.base I.hok I.bare fun b hb => by
    obtain ⟨f1, f2, f3, f4, f5, f6⟩ := hM.fpo b hb
    exact ⟨f4, f2, f5, f6⟩
theorem GxOk.aslp {C : Type} {M : Con C} {Q : VK} {c0 : C} {n : Nat} (G : GxOk X j tg iter elt scope gpos T d wi g te vs) (hM : Made X pins σ tg iter elt scope gpos T d H1 H2 J fp it tn a go i code s4 s5) (hp : ∀ c sp, M.pn c sp ↔ sp = []) (h : conT M J g te vs (L2.wipe σ vs) Q n 0 c0 H2) :
    Aslp (gX X (gA X (.GeneratorExp elt [⟨tg, iter, [], 0⟩] scope gpos) it (gE X scope s4.heap.objs.size code)) (gE X scope s4.heap.objs.size code) fp a go s4 H2) X.A.in1.in1 M [] Q a i n s5 := by
  have I := G.inv hM
  exact ⟨hM.gen _ hM.goa, I.nolimit, _, hM.frs, rfl, seg_gx0 (G.gx hM fun c sp h => (hp c sp).mp h) h ((hp c0 []).mpr rfl) (fun p hp => absurd hp List.not_mem_nil) (Inv.gens I i rfl) (fun b hb => (hM.fpo b hb).1) hM.tn0⟩
theorem pe_allG {p pos : Pos} (G : GxOk X j tg iter elt scope gpos T d wi g te vs) (hg : Gl X "all") (hm : X.mg "all" = none)
    (he : starEach [.GeneratorExp elt [⟨tg, iter, [], 0⟩] scope gpos] X.env = (false, eval (.GeneratorExp elt [⟨tg, iter, [], 0⟩] scope gpos) X.env) :: starEach [] X.env := by rfl) :
    PE X (.Call (.Name "all" p) [.GeneratorExp elt [⟨tg, iter, [], 0⟩] scope gpos] [] pos) (tGx (allC false) T wi g te vs ()) := by
  refine ⟨fun pins s σ H Q I h => ?_⟩
  refine wpAny_Call_Name_kw (ld_blt I hg hm (show bootBuiltins "all" = some (.builtin "all") by decide +kernel) ?_)
  refine PyProof.Rows.callWith_builtin1 ?_ he (by rfl)
  rw [he]
  refine Calls.spliced_cons (gx_make G.room.depth G.cod G.scp G.it G.fold I h fun J H1 H2 fp it tn a go i code s4 s5 hR hM => ?_)
  refine Calls.spliced_nil ?_
  obtain ⟨n, hc⟩ := hR H2 hM.tab
  refine call_function_tree F.kind_all F.plain_all F.entry_all (F.args_all1 _) ?_
  unfold Builtin.«all»
  refine wpAny_bind (m := oneArg "all" _) (wpAny_pure ?_)
  refine wpAny_bind (wpAny_pyIter_gen (hM.gen _ hM.goa) ?_)
  refine wpAny_pure ⟨plainId_quiet F.plain_all_loop _, all_gx (X := gX X (gA X (.GeneratorExp elt [⟨tg, iter, [], 0⟩] scope gpos) it (gE X scope s4.heap.objs.size code)) (gE X scope s4.heap.objs.size code) fp a go s4 H2) (B := X.A) G.room.hd G.room.depth (fun h hq => hM.gen h (hq (a, go) List.mem_cons_self)) (fun b σ' H' s' q I' => ?_) n s5 (G.aslp hM (fun _ _ => Iff.rfl) hc)⟩
  exact ⟨.bl b, H', G.back hM I', rfl, q⟩
theorem pe_anyG {p pos : Pos} (G : GxOk X j tg iter elt scope gpos T d wi g te vs) (hg : Gl X "any") (hm : X.mg "any" = none)
    (he : starEach [.GeneratorExp elt [⟨tg, iter, [], 0⟩] scope gpos] X.env = (false, eval (.GeneratorExp elt [⟨tg, iter, [], 0⟩] scope gpos) X.env) :: starEach [] X.env := by rfl) :
    PE X (.Call (.Name "any" p) [.GeneratorExp elt [⟨tg, iter, [], 0⟩] scope gpos] [] pos) (tGx (allC true) T wi g te vs ()) := by
  refine ⟨fun pins s σ H Q I h => ?_⟩
  refine wpAny_Call_Name_kw (ld_blt I hg hm (show bootBuiltins "any" = some (.builtin "any") by decide +kernel) ?_)
  refine PyProof.Rows.callWith_builtin1 ?_ he (by rfl)
  rw [he]
  refine Calls.spliced_cons (gx_make G.room.depth G.cod G.scp G.it G.fold I h fun J H1 H2 fp it tn a go i code s4 s5 hR hM => ?_)
  refine Calls.spliced_nil ?_
  obtain ⟨n, hc⟩ := hR H2 hM.tab
  refine call_function_tree F.kind_any F.plain_any F.entry_any (F.args_any1 _) ?_
  unfold Builtin.«any»
  refine wpAny_bind (m := oneArg "any" _) (wpAny_pure ?_)
  refine wpAny_bind (wpAny_pyIter_gen (hM.gen _ hM.goa) ?_)
  refine wpAny_pure ⟨plainId_quiet F.plain_any_loop _, any_gx (X := gX X (gA X (.GeneratorExp elt [⟨tg, iter, [], 0⟩] scope gpos) it (gE X scope s4.heap.objs.size code)) (gE X scope s4.heap.objs.size code) fp a go s4 H2) (B := X.A) G.room.hd G.room.depth (fun h hq => hM.gen h (hq (a, go) List.mem_cons_self)) (fun b σ' H' s' q I' => ?_) n s5 (G.aslp hM (fun _ _ => Iff.rfl) hc)⟩
  exact ⟨.bl b, H', G.back hM I', rfl, q⟩
theorem GxOk.apt {S : Addr} (G : GxOk X j tg iter elt scope gpos T d wi g te vs) (hM : Made X pins σ tg iter elt scope gpos T d H1 H2 J fp it tn a go i code s4 s5) (hS : s5.heap.objs.size ≤ S) {A' : Around} :
    Apt (gX X A' (gE X scope s4.heap.objs.size code) fp a go s4 H2) [S] := fun b hb => by
  rw [List.mem_singleton.mp hb]
  have h2 : s5.heap.objs.size > a := Heap.lt_size hM.goa
  have h3 := hM.ga
  have hL : s4.heap.objs.size < S := by omega
  refine ⟨Nat.le_of_lt hL, Nat.ne_of_gt hL, fun hm => ?_, fun x d h e => ?_, fun p hp e => ?_⟩
  · rcases List.mem_cons.mp (hM.inv.stkSub S hm) with z | z
    · have h1 := hM.inv.lt
      rw [← z] at h1
      exact absurd (Nat.lt_trans hL h1) (Nat.lt_irrefl _)
    · exact hM.inv.nofs (Nat.le_of_lt hL) z
  · obtain ⟨h1, h2⟩ := clo_get h
    obtain ⟨d', hd'⟩ := hM.inv.ok.has x ((G.scp.free1 _ h1 rfl).imp id id)
    rw [hd'] at h2
    obtain ⟨v, q⟩ := hM.inv.cell x d' hd'
    have h4 : s4.heap.objs.size > d' := q.lt
    have h5 : d = d' := h2
    rw [← h5, e] at h4
    exact absurd (Nat.lt_trans hL h4) (Nat.lt_irrefl _)
  · have ep : p = (a, go) := List.mem_singleton.mp hp
    rw [ep] at e
    have e : a = S := e
    rw [e] at h2
    exact absurd (Nat.lt_of_lt_of_le h2 hS) (Nat.lt_irrefl _)
/-- the generator's frame for a consumer whose one object lies at S -/
theorem GxOk.gxS {C : Type} {M : Con C} {S : Addr} (G : GxOk X j tg iter elt scope gpos T d wi g te vs) (hM : Made X pins σ tg iter elt scope gpos T d H1 H2 J fp it tn a go i code s4 s5) (hS : s5.heap.objs.size ≤ S) (hms : ∀ c sp, M.pn c sp → sp.map (·.1) = [S]) :
    Gx (gX X (gA X (.GeneratorExp elt [⟨tg, iter, [], 0⟩] scope gpos) it (gE X scope s4.heap.objs.size code)) (gE X scope s4.heap.objs.size code) fp a go s4 H2) X.A.in1.in1 tg iter elt scope gpos J fp it tn g te vs (L2.wipe σ vs) [S] M where
  over := rfl
  calm := G.calm
  xe := fun _ _ z => z
  tr := hM.turn
  fpk := fun b hb => by
    have K := (G.gx (M := allC true) hM fun c sp h => h).fpk b hb
    obtain ⟨k1, k2, k3, k4, k5, _⟩ := K
    refine ⟨k1, k2, k3, k4, k5, fun z => ?_⟩
    have h1 := hM.lt b hb
    have h2 : s5.heap.objs.size > a := Heap.lt_size hM.goa
    have h3 := hM.ga
    rw [List.mem_singleton.mp z] at h1
    exact absurd (Nat.lt_of_lt_of_le (Nat.lt_trans h1 (Nat.lt_trans h3 h2)) hS) (Nat.lt_irrefl _)
  pg := G.pg _ _ _ _ _ _ _ _ G.roomG hM.zc
  pe := G.pe _ _ _ _ _ _ _ _ G.roomG hM.zc
  apt := GxOk.apt G hM hS
  msp := hms
  co := G.scp.co
theorem pe_sumG {p pos : Pos} (G : GxOk X j tg iter elt scope gpos T d wi g te vs) (hg : Gl X "sum") (hm : X.mg "sum" = none)
    (he : starEach [.GeneratorExp elt [⟨tg, iter, [], 0⟩] scope gpos] X.env = (false, eval (.GeneratorExp elt [⟨tg, iter, [], 0⟩] scope gpos) X.env) :: starEach [] X.env := by rfl) :
    PE X (.Call (.Name "sum" p) [.GeneratorExp elt [⟨tg, iter, [], 0⟩] scope gpos] [] pos) (tGsum T wi g te vs) := by
  refine ⟨fun pins s σ H Q I h => ?_⟩
  refine wpAny_Call_Name_kw (ld_blt I hg hm (show bootBuiltins "sum" = some (.builtin "sum") by decide +kernel) ?_)
  refine PyProof.Rows.callWith_builtin1 ?_ he (by rfl)
  rw [he]
  refine Calls.spliced_cons (gx_make G.room.depth G.cod G.scp G.it G.fold I h fun J H1 H2 fp it tn a go i code s4 s5 hR hM => ?_)
  refine Calls.spliced_nil ?_
  obtain ⟨n, hc⟩ := hR H2 hM.tab
  refine call_function_tree F.kind_sum F.plain_sum F.entry_sum (F.args_sum1 _) ?_
  unfold Builtin.«sum»
  simp only [List.length_cons, List.length_nil]
  rw [if_neg (by decide)]
  refine wpAny_bind (wpAny_of_eq (show Builtin.Builtins.bindParams "sum" ["start"] 0 { } = pure [none] from rfl) ?_)
  refine wpAny_bind (wpAny_pyIter_gen (hM.gen _ hM.goa) ?_)
  refine wpAny_bind (wpAny_mkInt ?_)
  refine wpAny_bind (wpAny_pure ?_)
  simp only [List.forIn_cons, List.forIn_nil]
  refine wpAny_bind (wpAny_bind (wpAny_bind (wpAny_isInstance (T := "int") (b := false) (typeIs_int _ _ _) PySem.sub_int_str ?_)))
  simp only [Bool.false_eq_true, if_false]
  refine wpAny_pure (wpAny_bind (wpAny_bind (wpAny_isInstance (T := "int") (b := false) (typeIs_int _ _ _) PySem.sub_int_bytes ?_)))
  simp only [Bool.false_eq_true, if_false]
  refine wpAny_pure (wpAny_bind (wpAny_bind (wpAny_isInstance (T := "int") (b := false) (typeIs_int _ _ _) PySem.sub_int_bytearray ?_)))
  simp only [Bool.false_eq_true, if_false]
  refine wpAny_pure (wpAny_pure ?_)
  refine wpAny_bind (wpAny_newObj_type ?_)
  have I0 := G.inv hM
  have k5 : ∀ (ob : Obj) (b : Addr) (o : Obj), s5.heap.get? b = some o → (s5.heap.push ob).get? b = some o := fun ob b o e => Heap.get?_push_of_some _ e
  have hms : ∀ c sp, (sumC s5.heap.objs.size).pn c sp → sp.map (·.1) = [s5.heap.objs.size] := fun c sp ⟨t, n, e⟩ => by rw [e]; rfl
  have hS6 : (s5.heap.push (sumObj 0 s5.toks 0)).get? s5.heap.objs.size = some (sumObj 0 s5.toks 0) := Heap.get?_push_size _ rfl
  have hap := G.apt hM (Nat.le_refl _) (A' := gA X (.GeneratorExp elt [⟨tg, iter, [], 0⟩] scope gpos) it (gE X scope s4.heap.objs.size code))
  have I6 : ∀ k, Inv (gX X (gA X (.GeneratorExp elt [⟨tg, iter, [], 0⟩] scope gpos) it (gE X scope s4.heap.objs.size code)) (gE X scope s4.heap.objs.size code) fp a go s4 H2) [(s5.heap.objs.size, sumObj 0 s5.toks 0)] (L2.wipe σ vs) H2 { s5 with heap := s5.heap.push (sumObj 0 s5.toks 0), toks := k } := fun k => by
    have I1 := I0.kept (t' := k) (k5 (sumObj 0 s5.toks 0))
    refine I1.pins_of fun p hp => ?_
    rw [List.mem_singleton.mp hp]
    obtain ⟨q1, q2, q3, q4, q5⟩ := hap _ List.mem_cons_self
    exact ⟨hS6, I0.hok.fresh (Nat.le_refl _), q2, q3, fun v z => by cases z⟩
  refine wpAny_pure ⟨plainId_quiet F.plain_sum_loop _, sum_gx (Q := Q) (X := gX X (gA X (.GeneratorExp elt [⟨tg, iter, [], 0⟩] scope gpos) it (gE X scope s4.heap.objs.size code)) (gE X scope s4.heap.objs.size code) fp a go s4 H2) (B := X.A) G.room.hd G.room.depth (fun h hq => hM.gen h (hq (a, go) List.mem_cons_self)) hap (fun j t σ' H' s' q I' => ?_) n _ 0 _ _ 0 (.inl rfl) hS6 ?_⟩
  · exact ⟨.int j, H', G.back hM I', ⟨_, rfl⟩, q⟩
  · refine ⟨hM.gen _ (k5 _ _ _ hM.goa), (I6 _).nolimit, _, hM.frs, rfl, ?_⟩
    exact seg_gx0 (G.gxS hM (Nat.le_refl _) hms) (hc _) ⟨_, _, rfl⟩ (fun p hp => by rw [List.mem_singleton.mp hp]; exact hS6) (Inv.gens (I6 _) i rfl) (fun b hb => (hM.fpo b hb).1) (hM.turn.keep 0 _ _ hM.tn0 fun b hb o e => k5 _ b o e)
end
end Cod

namespace Cod
open PySem L2 PyProof.Rows

/-! ### the mirror of all, any over a generator expression -/
noncomputable def gxG (k : Bool) (elt : ED) (tg : Tg) (it : Itg) (δ : Sl) : Nat → Nat → AH → R D
  | 0, i, h => match nxtI it i h with
    | some none => .ok (.bl (!k)) h
    | _ => .no
  | f + 1, i, h => match nxtI it i h with
    | none => .no
    | some none => .ok (.bl (!k)) h
    | some (some d) => match asgT tg d δ with
      | none => .no
      | some δ1 => match elt δ1 h with
        | .ok (.bl b) h2 => if b = k then .ok (.bl k) h2 else gxG k elt tg it δ f (i + 1) h2
        | _ => .no
noncomputable def eGx (k : Bool) (mi : ID) (tg : Tg) (elt : ED) (vs : List Nat) : ED := fun δ h => (mi δ h).bind fun it h1 => gxG k elt tg it (dwipe δ vs) (cntI it h1) 0 h1
noncomputable def gsG (elt : ED) (tg : Tg) (it : Itg) (δ : Sl) : Nat → Nat → Int → AH → R D
  | 0, i, c, h => match nxtI it i h with
    | some none => .ok (.int c) h
    | _ => .no
  | f + 1, i, c, h => match nxtI it i h with
    | none => .no
    | some none => .ok (.int c) h
    | some (some d) => match asgT tg d δ with
      | none => .no
      | some δ1 => match elt δ1 h with
        | .ok (.int j) h2 => gsG elt tg it δ f (i + 1) (c + j) h2
        | _ => .no
noncomputable def eGs (mi : ID) (tg : Tg) (elt : ED) (vs : List Nat) : ED := fun δ h => (mi δ h).bind fun it h1 => gsG elt tg it (dwipe δ vs) (cntI it h1) 0 0 h1
section
variable {L : Lk} {W : WX} {A : List Addr} {H H2 : Hp}
theorem grw_le (g : Grw H H2) : Le A H A H2 := by
  obtain ⟨P, ps, more, g1, g2, g3, g4, g5⟩ := g
  exact ⟨⟨[], by simp⟩, fun b xs z => g4 _ _ (fun y => by rw [y, g1] at z; cases z) z, fun b o u z => g4 _ _ (fun y => by rw [y, g1] at z; cases z) z, fun b ws z => g4 _ _ (fun y => by rw [y, g1] at z; cases z) z⟩
theorem grw_rh {h : AH} (r : RH L A h H) (g : Grw H H2) : RH L A h H2 := by
  have l : Le A H A H2 := grw_le g
  refine ⟨r.len, fun m n a o u e1 e2 e3 e4 => (r.ap m n a o u e1 e2 e3 e4).imp id (Or.imp (·.mono l) (·.mono l)), fun n a o e1 e2 => ?_, fun Q hQ => g.tab (r.tab Q hQ)⟩
  obtain ⟨P, ps, more, g1, g2, g3, g4, g5⟩ := g
  have ro := r.get n a o e1 e2
  by_cases e : a = P
  · rcases ro.some with ⟨w, z⟩ | z
    · subst e
      cases o with
      | lst xs => obtain ⟨_, q, _⟩ := ro; rw [g1] at q; cases q
      | dct xs => obtain ⟨_, q, _⟩ := ro; rw [g1] at q; cases q
      | lck xs => obtain ⟨_, ⟨_, q⟩, _⟩ := ro; rw [g1] at q; cases q
      | ins c xs => obtain ⟨_, _, q, _⟩ := ro; rw [g1] at q; cases q
      | exn c xs => obtain ⟨d, q, r1⟩ := ro; exact ⟨d, q, RX.mono l r1⟩
      | ded => trivial
      | frz xs =>
        obtain ⟨vs, q, r1⟩ := ro
        rcases q with ⟨ob, q⟩ | q
        · rw [g1] at q; cases q
        · exact ⟨vs, .inr q, RDs.mono l _ _ r1⟩
    · exact (z.mono l).ro
  · rcases ro.some with ⟨w, z⟩ | z
    · exact ro.mono l ((g4 a w e z).trans z.symm)
    · exact (z.mono l).ro
theorem gx_of {k : Bool} {mi : ID} {tg' : Tg} {me : ED} {vs : List Nat} (hv : ∀ i ∈ tgS tg', i ∈ vs) (σ : L2.St) (H : Hp) (Q : VK) : tE L W (eGx k mi tg' me vs) σ H Q → tGx (allC k) L.tb (tI L W mi) (tG L tg') (tE L W0 me) vs () σ H Q := by
  rintro ⟨A, δ, h, rs, rh, p⟩
  refine ⟨A, δ, h, rs, rh, (Po.bind p).imp fun J H1 ⟨A1, it, h1, l1, rh1, ok, p1⟩ => ⟨rh1.tab, fun H2 hT => ⟨cntI it h1, ?_⟩⟩⟩
  have lT : Le A1 H1 A1 H2 := grw_le hT
  have key : ∀ (f i : Nat) (A2 : List Addr) (h2 : AH) (H3 : Hp), Le A1 H1 A2 H3 → RH L A2 h2 H3 → Po L W σ A2 H3 (RD L) (gxG k me tg' it (dwipe δ vs) f i h2) Q → conT (allC k) J (tG L tg') (tE L W0 me) vs (L2.wipe σ vs) Q f i () H3 := by
    intro f
    induction f with
    | zero =>
      intro i A2 h2 H3 l2 rh2 p2
      obtain ⟨stop, go⟩ := ok A2 H3 h2 i l2 rh2
      unfold gxG at p2
      split at p2
      · rename_i en
        exact .inl ⟨stop en, rfl, Po.ok p2 rh2 (.bl _)⟩
      · exact p2.elim
    | succ f ih =>
      intro i A2 h2 H3 l2 rh2 p2
      obtain ⟨stop, go⟩ := ok A2 H3 h2 i l2 rh2
      have rs2 : RS L A2 H3 (dwipe δ vs) (L2.wipe σ vs) := (rs.mono (l1.trans l2)).wipe vs
      unfold gxG at p2
      split at p2
      · exact p2.elim
      · rename_i en
        exact .inl ⟨stop en, Po.ok p2 rh2 (.bl _)⟩
      · rename_i d en
        obtain ⟨g1, g2⟩ := go d en
        refine .inr ⟨g1, fun x H' hy => ?_⟩
        obtain ⟨A3, l3, rh3, rd3⟩ := g2 x H' hy
        refine ⟨A3, dwipe δ vs, h2, d, rs2.mono l3, rh3, rd3, ?_⟩
        cases ea : asgT tg' d (dwipe δ vs) with
        | none => rw [ea] at p2; exact p2.elim
        | some δ3 =>
          rw [ea] at p2
          intro σ' rs' hw
          refine ⟨(hw vs hv).trans (wipe_wipe σ vs), A3, δ3, h2, rs', rh3, ?_⟩
          have p3 := Po.le l3 p2
          cases ee : me δ3 h2 with
          | no => simp only [ee] at p3; exact p3.elim
          | ex c fs h5 => simp only [ee] at p3; exact p3.elim
          | ok y h5 =>
            intro A5 y' H5 l5 rh5 ry
            simp only [ee] at p3
            cases y with
            | bl b =>
              cases ry
              simp only at p3
              refine ⟨_, rfl, ?_⟩
              split at p3
              · rename_i e
                simp only [e, if_true]
                exact Po.ok (Po.le l5 p3) rh5 (.bl _)
              · rename_i e
                simp only [e, if_false]
                exact ih (i + 1) A5 h5 H5 (l2.trans (l3.trans l5)) rh5 (Po.le l5 p3)
            | _ => exact p3.elim
  exact key _ 0 A1 h1 H2 lT (grw_rh rh1 hT) (Po.le lT p1)
theorem gs_of {mi : ID} {tg' : Tg} {me : ED} {vs : List Nat} (hv : ∀ i ∈ tgS tg', i ∈ vs) (σ : L2.St) (H : Hp) (Q : VK) : tE L W (eGs mi tg' me vs) σ H Q → tGsum L.tb (tI L W mi) (tG L tg') (tE L W0 me) vs σ H Q := by
  rintro ⟨A, δ, h, rs, rh, p⟩
  refine ⟨A, δ, h, rs, rh, (Po.bind p).imp fun J H1 ⟨A1, it, h1, l1, rh1, ok, p1⟩ => ⟨rh1.tab, fun H2 hT => ⟨cntI it h1, fun S => ?_⟩⟩⟩
  have lT : Le A1 H1 A1 H2 := grw_le hT
  have key : ∀ (f i : Nat) (c : Int) (A2 : List Addr) (h2 : AH) (H3 : Hp), Le A1 H1 A2 H3 → RH L A2 h2 H3 → Po L W σ A2 H3 (RD L) (gsG me tg' it (dwipe δ vs) f i c h2) Q → conT (sumC S) J (tG L tg') (tE L W0 me) vs (L2.wipe σ vs) Q f i c H3 := by
    intro f
    induction f with
    | zero =>
      intro i c A2 h2 H3 l2 rh2 p2
      obtain ⟨stop, go⟩ := ok A2 H3 h2 i l2 rh2
      unfold gsG at p2
      split at p2
      · rename_i en
        exact .inl ⟨stop en, rfl, Po.ok p2 rh2 (.int _)⟩
      · exact p2.elim
    | succ f ih =>
      intro i c A2 h2 H3 l2 rh2 p2
      obtain ⟨stop, go⟩ := ok A2 H3 h2 i l2 rh2
      have rs2 : RS L A2 H3 (dwipe δ vs) (L2.wipe σ vs) := (rs.mono (l1.trans l2)).wipe vs
      unfold gsG at p2
      split at p2
      · exact p2.elim
      · rename_i en
        exact .inl ⟨stop en, Po.ok p2 rh2 (.int _)⟩
      · rename_i d en
        obtain ⟨g1, g2⟩ := go d en
        refine .inr ⟨g1, fun x H' hy => ?_⟩
        obtain ⟨A3, l3, rh3, rd3⟩ := g2 x H' hy
        refine ⟨A3, dwipe δ vs, h2, d, rs2.mono l3, rh3, rd3, ?_⟩
        cases ea : asgT tg' d (dwipe δ vs) with
        | none => rw [ea] at p2; exact p2.elim
        | some δ3 =>
          rw [ea] at p2
          intro σ' rs' hw
          refine ⟨(hw vs hv).trans (wipe_wipe σ vs), A3, δ3, h2, rs', rh3, ?_⟩
          have p3 := Po.le l3 p2
          cases ee : me δ3 h2 with
          | no => simp only [ee] at p3; exact p3.elim
          | ex c fs h5 => simp only [ee] at p3; exact p3.elim
          | ok y h5 =>
            intro A5 y' H5 l5 rh5 ry
            simp only [ee] at p3
            cases y with
            | int j =>
              cases ry
              simp only at p3
              refine ⟨_, rfl, ?_⟩
              exact ih (i + 1) (c + j) A5 h5 H5 (l2.trans (l3.trans l5)) rh5 (Po.le l5 p3)
            | _ => exact p3.elim
  exact key _ 0 0 A1 h1 H2 lT (grw_rh rh1 hT) (Po.le lT p1)
end
end Cod

/-! # tuple(generator expression) -/
namespace Cod
open PySem L2 PyProof.Rows

noncomputable def lstObj (acc : Array Value) (n : Nat) : Obj := { cls := .type "list", dict := none, data := .seq acc n, slots := #[] }
noncomputable def tupC (S : Addr) : Con (List V) := ⟨fun c y => if c.length < lim then some (.inl (c ++ [y])) else none, fun c H Q => ∀ p, H p = none → Q (.ref p) (upd H p (.tup c)),
  fun c sp => ∃ acc n, Vals c acc.toList ∧ c.length ≤ lim ∧ sp = [(S, lstObj acc n)]⟩
theorem Vals.snoc {c : List V} {us : List Value} {y : V} {v : Value} (h : Vals c us) (r : RelV y v) : Vals (c ++ [y]) (us ++ [v]) := Vals.append h (.cons r .nil)
section
variable {X : Cx} {Q : VK}
theorem tup_gx {S : Addr} {a : Addr} {i : Nat} {B : Around} {res : Value} {R : Result → Shared → Prop} (hh : B.handled = none) (hd : B.depth < recursionLimit) (hpn : ∀ h : Heap, (∀ p ∈ X.pn, h.get? p.1 = some p.2) → h.IsGen a i) (hA : Apt X [S])
    (hR : ∀ c acc n σ' H s', (∀ p, H p = none → Q (.ref p) (upd H p (.tup c))) → Vals c acc.toList → c.length ≤ lim → s'.heap.get? S = some (lstObj acc n) → Inv X [] σ' H s' → R (.ok (.ret res)) s') :
    ∀ (n : Nat) (s : Shared) (acc : Array Value) (cap : Nat), acc.size ≤ lim → s.heap.get? S = some (lstObj acc cap) → Aslp X B.in1.in1 (tupC S) [S] Q a i n s → codeAny (model X.prog X.w) B (.builtin "list.extend.loop" ⟨[.ref S, .ref a, res], []⟩) R s := by
  have hms : ∀ c sp, (tupC S).pn c sp → sp.map (·.1) = [S] := fun c sp ⟨t, n, _, _, e⟩ => by rw [e]; rfl
  have slp : ∀ {s1 : Shared} {acc : Array Value} {n2 : Nat} {hp : Heap}, AllBare s1.gens → (∀ b o, b ≠ S → s1.heap.get? b = some o → hp.get? b = some o) → hp.get? S = some (lstObj acc n2) → Slp [S] [(S, lstObj acc n2)] s1 { s1 with heap := hp } := fun hb k1 k2 => by
    refine ⟨rfl, hb, fun b o hb e => k1 b o (fun z => hb (List.mem_singleton.mpr z)) e, fun b hb => ?_, fun p hp => ?_⟩
    · rw [List.mem_singleton.mp hb]; exact ⟨_, k2⟩
    · rw [List.mem_singleton.mp hp]; exact ⟨List.mem_cons_self, k2, fun v z => by cases z⟩
  have main : ∀ n, (∀ m, n = m + 1 → ∀ (s : Shared) (acc : Array Value) (cap : Nat), acc.size ≤ lim → s.heap.get? S = some (lstObj acc cap) → Aslp X B.in1.in1 (tupC S) [S] Q a i m s → codeAny (model X.prog X.w) B (.builtin "list.extend.loop" ⟨[.ref S, .ref a, res], []⟩) R s) →
      ∀ (s : Shared) (acc : Array Value) (cap : Nat), acc.size ≤ lim → s.heap.get? S = some (lstObj acc cap) → Aslp X B.in1.in1 (tupC S) [S] Q a i n s → codeAny (model X.prog X.w) B (.builtin "list.extend.loop" ⟨[.ref S, .ref a, res], []⟩) R s := by
    intro n ih s acc cap hz hS h
    have same : ∀ {c1 : List V} {sp : List (Addr × Obj)}, (tupC S).pn c1 sp → (∀ p ∈ sp, s.heap.get? p.1 = some p.2) → ∃ n1, Vals c1 acc.toList ∧ c1.length ≤ lim ∧ sp = [(S, lstObj acc n1)] := fun {c1 sp} ⟨acc1, n1, r1, z1, e1⟩ h => by
      have := h (S, lstObj acc1 n1) (by rw [e1]; exact List.mem_cons_self)
      rw [hS] at this
      have this := Option.some.inj this
      unfold lstObj at this
      simp only [Obj.mk.injEq, Data.seq.injEq] at this
      have e2 : acc = acc1 := this.2.2.1.1
      subst e2
      exact ⟨n1, r1, z1, e1⟩
    refine codeAny_builtin F.entry_extend_loop ?_
    rw [Around.under_plainId F.plain_extend_loop _]
    show wpAny _ B.in1 (pyNext (.ref a) >>= _) _ _ s
    refine wpAny_bind (pullS (B := B.in1) hh hd hpn hA hms h (fun c1 sp σ' H s' hp h0 q I => ?_) fun c1 y v r sp σ' H s1 hp h0 ry er I hr => ?_)
    · obtain ⟨n1, r1, z1, e1⟩ := same hp h0
      subst e1
      refine wpAny_pure ?_
      exact hR c1 acc n1 σ' H s' q r1 z1 (I.pin _ (List.mem_append_right _ List.mem_cons_self)).1 (I.pins_of fun p hp => absurd hp List.not_mem_nil)
    · obtain ⟨n1, r1, z1, e1⟩ := same hp h0
      subst e1
      have er' : (if c1.length < lim then some (Sum.inl (c1 ++ [y])) else none) = some r := er
      split at er'
      · rename_i hlt
        cases er'
        have hS1 : s1.heap.get? S = some (lstObj acc n1) := (I.pin _ (List.mem_append_right _ List.mem_cons_self)).1
        have hsz : acc.size < lim := by rw [← Array.length_toList, ← r1.length]; exact hlt
        have hszl : acc.size < sizeLine := lim_lt hsz
        show wpAny _ B.in1 (updateSeq S (·.push v) >>= _) _ _ _
        refine wpAny_bind ?_
        have hS2 := Heap.get?_update_self (Obj.mapSeq (·.push v)) hS1 rfl
        obtain ⟨n2, e2⟩ : ∃ n', Obj.mapSeq (·.push v) (lstObj acc n1) = lstObj (acc.push v) n' := ⟨_, rfl⟩
        rw [e2] at hS2
        refine wpAny_updateSeq hS1 rfl (wpAny_pure ⟨plainId_quiet F.plain_extend_loop _, ?_⟩) (by show acc.size ≤ sizeLine; omega) (by show (acc.push v).size ≤ sizeLine + 1; rw [Array.size_push]; omega)
        obtain ⟨m, em, h'⟩ := hr _ _ ⟨acc.push v, n2, by rw [Array.toList_push]; exact Vals.snoc r1 ry, by rw [List.length_append]; exact hlt, rfl⟩ (slp I.bare (fun b o hb e => (Heap.get?_update_other _ _ (Ne.symm hb)).trans e) hS2) rfl
        exact ih m em _ _ _ (by rw [Array.size_push]; exact hsz) hS2 h'
      · cases er'
  intro n
  induction n with
  | zero => exact main 0 fun m e => nomatch e
  | succ n ih => exact main (n + 1) fun m e => by cases e; exact ih
end
section
variable {prog : Program} {w : World} {A : Around} {E : Value → Shared → Prop} {s : Shared} {I : Addr} {i : Nat}
theorem collect_gx {Q : List Value → Shared → Prop} (hg : s.heap.IsGen I i) (hI : I < s.heap.objs.size)
    (h : ∀ (h' : Heap) (n : Nat), (∀ b o, b ≠ s.heap.objs.size → s.heap.get? b = some o → h'.get? b = some o) → h'.get? s.heap.objs.size = some (lstObj #[] n) →
      codeAny (model prog w) A (.builtin "list.extend.loop" ⟨[.ref s.heap.objs.size, .ref I, .ref s.heap.objs.size], []⟩) (fun r s' => r = .ok (.ret (.ref s.heap.objs.size)) ∧ ∃ acc n, s'.heap.get? s.heap.objs.size = some (lstObj acc n) ∧ Q acc.toList s') { s with heap := h' }) :
    wpAny (model prog w) A (collect (.ref I)) Q E s := by
  have hSI : s.heap.objs.size ≠ I := fun e => by rw [e] at hI; exact absurd hI (Nat.lt_irrefl _)
  unfold collect
  refine wpAny_bind (wpAny_runValue (codeAny_builtin F.entry_proto_collect ?_))
  rw [Around.under_plainId F.plain_proto_collect _]
  show wpAny _ A.in1 (newList [] >>= fun l => again (.builtin "list.__iadd__" ⟨[l, .ref I], []⟩)) _ _ s
  refine wpAny_bind (wpAny_newObj_type ?_)
  refine wpAny_pure ⟨plainId_quiet F.plain_list_iadd _, codeAny_builtin F.entry_list_iadd ?_⟩
  rw [Around.under_plainId F.plain_list_iadd _]
  have hk1 : ∀ b o, s.heap.get? b = some o → (s.heap.push { cls := .type "list", data := .seq ([] : List Value).toArray }).get? b = some o := fun b o e => Heap.get?_push_of_some _ e
  have hg1 : (s.heap.push { cls := .type "list", data := .seq ([] : List Value).toArray }).IsGen I i := hg.keeps hk1
  have hT1 : Shared.TypeIs { s with heap := s.heap.push { cls := .type "list", data := .seq ([] : List Value).toArray } } (.ref I) "generator" := Heap.IsGen.typeIs hg1
  show wpAny _ A.in1 (Builtin.List.listExtendWith (.ref s.heap.objs.size) (.ref I) (.ref s.heap.objs.size)) _ _ _
  unfold Builtin.List.listExtendWith
  refine wpAny_bind (wpAny_typeOf hT1 ?_)
  have h1 : Builtin.List.listSameRef (.ref s.heap.objs.size) (.ref I) = false := by simp [Builtin.List.listSameRef, hSI]
  have h2 : (Value.type "generator" == Value.type "list") = false := by decide
  have h3 : (Value.type "generator" == Value.type "tuple") = false := by decide
  simp only [h1, h2, h3, Bool.or_false, Bool.false_eq_true, if_false]
  refine wpAny_bind (wpAny_pyIter_gen hg1 ?_)
  refine wpAny_bind (wpAny_holding ?_)
  unfold Builtin.List.listLengthHint
  refine wpAny_bind (wpAny_specialOf hT1 F.gen_no_len ?_)
  show wpAny _ A.in1 (specialOf (Value.ref I) (Str.ofString "__length_hint__") >>= _) _ _ _
  refine wpAny_bind (wpAny_specialOf hT1 F.gen_no_hint ?_)
  refine wpAny_pure ?_
  show wpAny _ A.in1 (rule "list.extend.makes-room" >>= fun _ => Builtin.List.listTouch (.ref s.heap.objs.size) >>= fun _ =>
    again (.builtin "list.extend.loop" ⟨[.ref s.heap.objs.size, .ref I, .ref s.heap.objs.size], []⟩)) _ _ _
  refine wpAny_bind (wpAny_rule ?_)
  have hS₁ : (s.heap.push { cls := .type "list", data := .seq ([] : List Value).toArray }).get? s.heap.objs.size = some { cls := .type "list", data := .seq ([] : List Value).toArray } := Heap.get?_push_size _ rfl
  refine wpAny_bind ?_
  show wpAny _ A.in1 (updateSeq s.heap.objs.size (·.push .none) >>= fun _ => updateSeq s.heap.objs.size (·.pop)) _ _ _
  refine wpAny_bind (wpAny_updateSeq hS₁ rfl ?_)
  have hS₂ := Heap.get?_update_self (Obj.mapSeq (·.push Value.none)) hS₁ rfl
  refine wpAny_updateSeq hS₂ rfl ?_
  have hS₃ := Heap.get?_update_self (Obj.mapSeq (·.pop)) hS₂ rfl
  have oth : ∀ b o, b ≠ s.heap.objs.size → s.heap.get? b = some o →
      (((s.heap.push { cls := .type "list", data := .seq ([] : List Value).toArray }).update s.heap.objs.size (Obj.mapSeq (·.push Value.none))).update s.heap.objs.size (Obj.mapSeq (·.pop))).get? b = some o :=
    fun b o hb e => (Heap.get?_update_other _ _ (Ne.symm hb)).trans ((Heap.get?_update_other _ _ (Ne.symm hb)).trans (hk1 b o e))
  refine wpAny_pure ⟨plainId_quiet F.plain_extend_loop _, codeAny_mono (h _ _ oth hS₃) fun r s' hr => ?_⟩
  obtain ⟨rfl, acc, n, hS', hq⟩ := hr
  show wpAny _ A (load s.heap.objs.size >>= _) _ _ s'
  refine wpAny_bind (wpAny_load hS' ?_)
  exact wpAny_pure hq
end
/-! ### the call -/
noncomputable def tGtup (T : List Addr) (wi : TI) (g : TG) (te : TE) (vs : List Nat) : TE := fun σ H Q => wi σ H fun J H1 => (∀ P ∈ T, TabD H1 P) ∧ ∀ H2, Grw H1 H2 → ∃ n, ∀ S : Addr, conT (tupC S) J g te vs (L2.wipe σ vs) Q n 0 [] H2
section
variable {X : Cx} {j : Nat} {tg iter elt : Expr} {scope : Scope} {gpos : Pos} {T : List Addr} {d : Bool} {wi : TI} {g : TG} {te : TE} {vs : List Nat} {pins : List (Addr × Obj)} {σ : L2.St} {H1 H2 : Hp} {J : L2.It} {fp : List Addr} {it : Addr} {tn : Nat → Heap → Prop} {a : Addr} {go : Obj} {i : Nat} {code : Value} {s4 s5 : Shared}
noncomputable abbrev gB (A0 : Around) (ge : Expr) (it : Addr) (env : Env) : Around := A0.over (.compLoop ge 0 (.ref it) .none env) []
theorem GxOk.gxT {C : Type} {M : Con C} {S : Addr} {A0 : Around} (hrm : ∀ env, Room j (gB A0 (.GeneratorExp elt [⟨tg, iter, [], 0⟩] scope gpos) it env)) (G : GxOk X j tg iter elt scope gpos T d wi g te vs) (hM : Made X pins σ tg iter elt scope gpos T d H1 H2 J fp it tn a go i code s4 s5) (hS : s5.heap.objs.size ≤ S) (hms : ∀ c sp, M.pn c sp → sp.map (·.1) = [S]) :
    Gx (gX X (gB A0 (.GeneratorExp elt [⟨tg, iter, [], 0⟩] scope gpos) it (gE X scope s4.heap.objs.size code)) (gE X scope s4.heap.objs.size code) fp a go s4 H2) A0 tg iter elt scope gpos J fp it tn g te vs (L2.wipe σ vs) [S] M where
  over := rfl
  calm := G.calm
  xe := fun _ _ z => z
  tr := hM.turn
  fpk := (G.gxS hM hS hms).fpk
  pg := G.pg _ _ _ _ _ _ _ _ (hrm _) hM.zc
  pe := G.pe _ _ _ _ _ _ _ _ (hrm _) hM.zc
  apt := GxOk.apt G hM hS
  msp := hms
  co := G.scp.co
theorem pe_tupG {p pos : Pos} (G : GxOk X j tg iter elt scope gpos T d wi g te vs) (hg : Gl X "tuple") (hm : X.mg "tuple" = none)
    (he : starEach [.GeneratorExp elt [⟨tg, iter, [], 0⟩] scope gpos] X.env = (false, eval (.GeneratorExp elt [⟨tg, iter, [], 0⟩] scope gpos) X.env) :: starEach [] X.env := by rfl) :
    PE X (.Call (.Name "tuple" p) [.GeneratorExp elt [⟨tg, iter, [], 0⟩] scope gpos] [] pos) (tGtup T wi g te vs) := by
  refine ⟨fun pins s σ H Q I h => ?_⟩
  refine wpAny_Call_Name_kw (ld_blt I hg hm boot_tuple ?_)
  refine PySem.callWith_type (by rw [he]; rfl) (Calls.evalArgs_plain ?_)
  refine Calls.spliced_cons (gx_make G.room.depth G.cod G.scp G.it G.fold I h fun J H1 H2 fp it tn a go i code s4 s5 hR hM => ?_)
  refine Calls.spliced_nil ?_
  obtain ⟨n, hc⟩ := hR H2 hM.tab
  have hroom := G.room
  have hrm : ∀ env, Room j (gB X.A.in1.in1.in1.in1 (.GeneratorExp elt [⟨tg, iter, [], 0⟩] scope gpos) it env) := fun env => by
    refine ⟨hroom.hd, ?_, ?_⟩
    · have := hroom.dp
      show X.A.depth + 1 + 3 * j + 5 < _
      omega
    · have := hroom.un
      show X.A.units + 1 + 1 + 1 + 1 + 3 + 16 * j + 200 < _
      omega
  have hgo := hM.goa
  have hgen := hM.gen _ hgo
  have hlt : a < s5.heap.objs.size := Heap.lt_size hgo
  have I0 : Inv (gX X (gB X.A.in1.in1.in1.in1 (.GeneratorExp elt [⟨tg, iter, [], 0⟩] scope gpos) it (gE X scope s4.heap.objs.size code)) (gE X scope s4.heap.objs.size code) fp a go s4 H2) [] (L2.wipe σ vs) H2 s5 := by
    obtain ⟨m, hn⟩ := hM.ns
    refine gX_inv G.scp hM.inv ?_ G.room.hd hM.fpo hM.lt hM.keep hn hM.goa hM.god hM.ga hM.os hM.bare
    have e1 : X.A.in1.in1.in1.in1.frames = some X.stack := hM.inv.ok.frames
    unfold gB Around.over
    have e2 : X.A.frames = some X.stack := hM.inv.ok.frames
    simp only [e1, e2]
    rfl
  have hap := G.apt hM (Nat.le_refl _) (A' := gB X.A.in1.in1.in1.in1 (.GeneratorExp elt [⟨tg, iter, [], 0⟩] scope gpos) it (gE X scope s4.heap.objs.size code))
  have hms : ∀ c sp, (tupC s5.heap.objs.size).pn c sp → sp.map (·.1) = [s5.heap.objs.size] := fun c sp ⟨t, n, _, _, e⟩ => by rw [e]; rfl
  -- the list is collected
  have col : ∀ {E : Value → Shared → Prop} {Q' : List Value → Shared → Prop}, (∀ c (acc : Array Value) σ' H s', (∀ p, H p = none → Q (.ref p) (upd H p (.tup c))) → Vals c acc.toList → c.length ≤ lim → Inv X pins σ H s' → Q' acc.toList s') →
      wpAny (model X.prog X.w) X.A.in1.in1 (collect (.ref a)) Q' E s5 := fun {E Q'} hQ => by
    refine collect_gx hgen hlt fun h' n0 k hS => ?_
    have I1 : Inv (gX X (gB X.A.in1.in1.in1.in1 (.GeneratorExp elt [⟨tg, iter, [], 0⟩] scope gpos) it (gE X scope s4.heap.objs.size code)) (gE X scope s4.heap.objs.size code) fp a go s4 H2) [(s5.heap.objs.size, lstObj #[] n0)] (L2.wipe σ vs) H2 { s5 with heap := h' } := by
      have I1 := I0.kept (t' := s5.toks) (h' := h') (fun b o e => k b o (fun z => by rw [z] at e; exact absurd (Heap.lt_size e) (Nat.lt_irrefl _)) e)
      refine I1.pins_of fun p hp => ?_
      rw [List.mem_singleton.mp hp]
      obtain ⟨q1, q2, q3, q4, q5⟩ := hap _ List.mem_cons_self
      exact ⟨hS, I0.hok.fresh (Nat.le_refl _), q2, q3, fun v z => by cases z⟩
    have keep : ∀ b o, s5.heap.get? b = some o → h'.get? b = some o := fun b o e => k b o (fun z => by rw [z] at e; exact absurd (Heap.lt_size e) (Nat.lt_irrefl _)) e
    refine tup_gx (Q := Q) (X := gX X (gB X.A.in1.in1.in1.in1 (.GeneratorExp elt [⟨tg, iter, [], 0⟩] scope gpos) it (gE X scope s4.heap.objs.size code)) (gE X scope s4.heap.objs.size code) fp a go s4 H2) (B := X.A.in1.in1) G.room.hd G.room.depth (fun h hq => hM.gen h (hq (a, go) List.mem_cons_self)) hap (fun c acc cap σ' H s' q r z hS' I' => ?_) n _ #[] n0 (Nat.zero_le _) hS ?_
    · exact ⟨rfl, acc, cap, hS', hQ c acc σ' H s' q r z (G.back hM I')⟩
    · refine ⟨hM.gen _ (keep _ _ hM.goa), I1.nolimit, _, hM.frs, rfl, ?_⟩
      exact seg_gx0 (G.gxT hrm hM (Nat.le_refl _) hms) (hc _) ⟨#[], n0, .nil, Nat.zero_le _, rfl⟩ (fun p hp => by rw [List.mem_singleton.mp hp]; exact hS) (Inv.gens I1 i rfl) (fun b hb => (hM.fpo b hb).1) (hM.turn.keep 0 _ _ hM.tn0 fun b hb o e => keep b o e)
  have hTI : s5.TypeIs (.ref a) "generator" := hgen.typeIs
  have hsub := sub_tuple_self
  have hinit := init_tuple_lookup
  have hmh := madeHere_tuple
  refine callType_newIn (S := fun A R s => wpAny (model X.prog X.w) A.in1 (Builtin.«tuple.__new__» ⟨[.type "tuple", .ref a], []⟩) (fun fin s' => match fin with | .done f => R (.ok f) s' | .again c' => c'.quiet = true ∧ codeAny (model X.prog X.w) A c' R s') (fun e s' => R (.error e) s') s) F.called_tuple (by decide) (F.typeCall_tuple_1 _) (F.newCall_tuple_1 _) (fun obj => F.args_object_init_2 obj _) F.entry_tuple_new (fun A R s h => h) ?_
  wp_walk using wpAny_typeOf hTI, col
  intro c acc σ' H s' q r z I'
  show wpAny _ _ (Builtin.Tuple.tupleExact acc.toList.toArray >>= fun v => ret v) _ _ _
  unfold Builtin.Tuple.tupleExact
  have hz : c.length ≤ sizeLine := Nat.le_trans z (by rw [sizeLine_eq]; decide)
  refine wpAny_bind (wpAny_newObj_type ?_ (by show acc.toList.toArray.size ≤ sizeLine; rw [Array.toArray_toList, ← Array.length_toList, ← r.length]; exact hz))
  refine wpAny_pure ?_
  have e : acc.toList.toArray = acc := by simp
  rw [e]
  refine ⟨⟨_, Heap.get?_push_size _ rfl, rfl⟩, .ref s'.heap.objs.size, upd H s'.heap.objs.size (.tup c), ?_, rfl, q _ (I'.hok.fresh (Nat.le_refl _))⟩
  exact I'.laid (t' := s'.toks) (fun b o e => Heap.get?_push_of_some _ e) (Nat.le_refl _) (show ObjOk X.prog X.w _ _ _ (.tup c) from ⟨hz, acc.toList, r, by have := IsTup.new s'.heap acc; exact this⟩)
end
/-! ### the mirror -/
noncomputable def gtG (elt : ED) (tg : Tg) (it : Itg) (δ : Sl) : Nat → Nat → List D → AH → R D
  | 0, i, c, h => match nxtI it i h with
    | some none => .ok (.tup c) h
    | _ => .no
  | f + 1, i, c, h => match nxtI it i h with
    | none => .no
    | some none => .ok (.tup c) h
    | some (some d) => match asgT tg d δ with
      | none => .no
      | some δ1 => match elt δ1 h with
        | .ok y h2 => if c.length < lim then gtG elt tg it δ f (i + 1) (c ++ [y]) h2 else .no
        | _ => .no
noncomputable def eGt (mi : ID) (tg : Tg) (elt : ED) (vs : List Nat) : ED := fun δ h => (mi δ h).bind fun it h1 => gtG elt tg it (dwipe δ vs) (cntI it h1) 0 [] h1
section
variable {L : Lk} {W : WX} {A : List Addr} {H H2 : Hp}
theorem gt_of {mi : ID} {tg' : Tg} {me : ED} {vs : List Nat} (hv : ∀ i ∈ tgS tg', i ∈ vs) (σ : L2.St) (H : Hp) (Q : VK) : tE L W (eGt mi tg' me vs) σ H Q → tGtup L.tb (tI L W mi) (tG L tg') (tE L W0 me) vs σ H Q := by
  rintro ⟨A, δ, h, rs, rh, p⟩
  refine ⟨A, δ, h, rs, rh, (Po.bind p).imp fun J H1 ⟨A1, it, h1, l1, rh1, ok, p1⟩ => ⟨rh1.tab, fun H2 hT => ⟨cntI it h1, fun S => ?_⟩⟩⟩
  have lT : Le A1 H1 A1 H2 := grw_le hT
  have fin : ∀ (c : List D) (cv : List V) (A2 : List Addr) (h2 : AH) (H3 : Hp), RH L A2 h2 H3 → RDs L A2 H3 c cv → Po L W σ A2 H3 (RD L) (R.ok (D.tup c) h2) Q → ∀ p, H3 p = none → Q (.ref p) (upd H3 p (.tup cv)) := fun c cv A2 h2 H3 rh2 rc p2 p np => Po.newTup p2 rh2 rc np
  have key : ∀ (f i : Nat) (c : List D) (cv : List V) (A2 : List Addr) (h2 : AH) (H3 : Hp), Le A1 H1 A2 H3 → RH L A2 h2 H3 → RDs L A2 H3 c cv → Po L W σ A2 H3 (RD L) (gtG me tg' it (dwipe δ vs) f i c h2) Q → conT (tupC S) J (tG L tg') (tE L W0 me) vs (L2.wipe σ vs) Q f i cv H3 := by
    intro f
    induction f with
    | zero =>
      intro i c cv A2 h2 H3 l2 rh2 rc p2
      obtain ⟨stop, go⟩ := ok A2 H3 h2 i l2 rh2
      unfold gtG at p2
      split at p2
      · rename_i en
        exact .inl ⟨stop en, rfl, fin c cv A2 h2 H3 rh2 rc p2⟩
      · exact p2.elim
    | succ f ih =>
      intro i c cv A2 h2 H3 l2 rh2 rc p2
      obtain ⟨stop, go⟩ := ok A2 H3 h2 i l2 rh2
      have rs2 : RS L A2 H3 (dwipe δ vs) (L2.wipe σ vs) := (rs.mono (l1.trans l2)).wipe vs
      unfold gtG at p2
      split at p2
      · exact p2.elim
      · rename_i en
        exact .inl ⟨stop en, fin c cv A2 h2 H3 rh2 rc p2⟩
      · rename_i d en
        obtain ⟨g1, g2⟩ := go d en
        refine .inr ⟨g1, fun x H' hy => ?_⟩
        obtain ⟨A3, l3, rh3, rd3⟩ := g2 x H' hy
        refine ⟨A3, dwipe δ vs, h2, d, rs2.mono l3, rh3, rd3, ?_⟩
        cases ea : asgT tg' d (dwipe δ vs) with
        | none => rw [ea] at p2; exact p2.elim
        | some δ3 =>
          rw [ea] at p2
          intro σ' rs' hw
          refine ⟨(hw vs hv).trans (wipe_wipe σ vs), A3, δ3, h2, rs', rh3, ?_⟩
          have p3 := Po.le l3 p2
          cases ee : me δ3 h2 with
          | no => simp only [ee] at p3; exact p3.elim
          | ex c fs h5 => simp only [ee] at p3; exact p3.elim
          | ok y h5 =>
            intro A5 y' H5 l5 rh5 ry
            simp only [ee] at p3
            split at p3
            · rename_i hz
              refine ⟨.inl (cv ++ [y']), ?_, ?_⟩
              · show (if cv.length < lim then _ else _) = _
                rw [if_pos (by rw [← rc.length]; exact hz)]
              · exact ih (i + 1) (c ++ [y]) (cv ++ [y']) A5 h5 H5 (l2.trans (l3.trans l5)) rh5 ((RDs.mono (l3.trans l5) _ _ rc).append (.cons ry .nil)) (Po.le l5 p3)
            · exact p3.elim
  exact key _ 0 [] [] A1 h1 H2 lT (grw_rh rh1 hT) .nil (Po.le lT p1)
end
end Cod

/-! # text.join(list of texts), text.split(text) -/
namespace Cod
open PySem L2 PySem.Spec PyProof.Rows
section
variable {X : Cx} {L : Lk} {W : WX} {A : List Addr} {H : Hp}
noncomputable def strsOf : List D → Option (List Str)
  | [] => some []
  | .str y :: r => match strsOf r with
    | some ys => some (y :: ys)
    | none => none
  | _ => none
theorem strsOf_map : ∀ ys : List Str, strsOf (ys.map D.str) = some ys
  | [] => rfl
  | y :: r => by rw [List.map_cons, strsOf, strsOf_map r]
theorem strsOf_ok : ∀ {ds : List D} {ys : List Str} {vs : List V}, strsOf ds = some ys → RDs L A H ds vs → vs = ys.map V.str
  | [], ys, vs, e, r => by cases e; cases r; rfl
  | .str y :: ds, ys, vs, e, r => by
    rw [strsOf] at e
    cases e1 : strsOf ds with
    | none => rw [e1] at e; cases e
    | some zs =>
      rw [e1] at e
      cases e
      cases r with
      | cons r1 r2 =>
        cases r1
        rw [strsOf_ok e1 r2]
        rfl
theorem RDs.strs : ∀ ys : List Str, RDs L A H (ys.map D.str) (ys.map V.str)
  | [] => .nil
  | y :: r => .cons (.str y) (RDs.strs r)
noncomputable def joinD (d : D) (ds : List D) (h : AH) : R D := match d, ds with
  | .str a, [e] => match seqD h e with
    | some xs => match strsOf xs with
      | some ys => if (ys.map (·.length)).sum + ys.length * a.length ≤ 16777216 then .ok (.str (Txt.join a ys)) h else .no
      | none => .no
    | none => .no
  | _, _ => .no
theorem mt_joinS (hK : X.K = L.K) : MtS X L W "str" "str.join" joinD := by
  refine ⟨_, mt_join, fun σ A h H x d xs ds Q rh rd r p => ?_⟩
  unfold joinD at p
  split at p
  · rename_i a e
    split at p
    · rename_i xs0 e0
      split at p
      · rename_i ys e1
        split at p
        · rename_i hz
          cases rd
          cases r with
          | cons r1 r2 =>
            cases r2
            obtain ⟨q, vs, rfl, hs, rs⟩ := seqD_ok rh r1 e0
            have ev := strsOf_ok e1 rs
            subst ev
            exact ⟨a, q, ys, rfl, rfl, by rw [hK]; exact hs, hz, Po.ok p rh (.str _)⟩
        · exact p.elim
      · exact p.elim
    · exact p.elim
  · exact p.elim
noncomputable def splitD (d : D) (ds : List D) (h : AH) : R D := match d, ds with
  | .str a, [.str b] => if (b.length == 0) = false ∧ a.length + 2 ≤ lim then .ok (.loc h.length) (h ++ [.lst ((Txt.split a b).map D.str)]) else .no
  | _, _ => .no
theorem mt_splitS : MtS X L W "str" "str.split" splitD := by
  refine ⟨_, mt_split, fun σ A h H x d xs ds Q rh rd r p => ?_⟩
  unfold splitD at p
  split at p
  · rename_i a b
    split at p
    · rename_i hz
      cases rd
      cases r with
      | cons r1 r2 =>
        cases r2
        cases r1
        exact ⟨a, b, rfl, rfl, hz.1, lim_ok hz.2, fun q nq => Po.newLst p rh (RDs.strs _) nq⟩
    · exact p.elim
  · exact p.elim
end
end Cod

namespace Cod
open PySem L2 PyProof.Rows

/-! ### what is seen of the text -/
noncomputable def noStar : Expr → Bool
  | .Starred _ _ => false
  | _ => true
theorem star_ok {e : Expr} {es : List Expr} {env : Env} (h : noStar e = true) : starEach (e :: es) env = (false, eval e env) :: starEach es env := by
  cases e <;> first | rfl | cases h
theorem asgE_ok {e : Expr} {es : List Expr} {env : Env} (h : noStar e = true) : assignEach (e :: es) env = (false, assign e env) :: assignEach es env := by
  cases e <;> first | rfl | cases h
noncomputable def noSlice : Expr → Bool
  | .Slice _ _ _ _ => false
  | _ => true
theorem plain_ok {b : Expr} (h : noSlice b = true) : PlainIx b := by
  intro o i
  cases b <;> first | rfl | cases h
theorem asgSub_ok {o i : Expr} {pos : Pos} {env : Env} (h : noSlice i = true) : ∀ v, assign (.Subscript o i pos) env v = (do
      let ov ← holding [v] (eval o env)
      let iv ← holding [v, ov] (eval i env)
      standAt pos
      holding [v, ov, iv] (setItem ov iv v)
      release [v, ov, iv] []) := by
  intro v
  cases i <;> first | rfl | cases h
noncomputable def plainT : Expr → Bool
  | .UnaryOp .Not _ _ => false
  | .BoolOp _ _ _ => false
  | .IfExp _ _ _ _ => false
  | .Compare _ _ _ _ => false
  | _ => true
theorem plainT_ok {e : Expr} {env : Env} (h : plainT e = true) : ∀ whole, isTrue e env whole = (do let v ← whole; standAt e.pos; holding [v] (truthy v)) := by
  intro whole
  cases e with
  | UnaryOp op x p => cases op <;> first | rfl | cases h
  | BoolOp _ _ _ => cases h
  | IfExp _ _ _ _ => cases h
  | Compare _ _ _ _ => cases h
  | _ => rfl
noncomputable def noComp : Expr → Bool
  | .ListComp _ _ _ _ => false
  | .SetComp _ _ _ _ => false
  | .DictComp _ _ _ _ _ => false
  | _ => true
theorem swaps_ok {e : Expr} {t : Option Expr} {l : Nat} {env : Env} (h : noComp e = true) : swapsWith e t l env = pure false := by
  cases e <;> first | rfl | cases h
noncomputable def noSet : Expr → Bool
  | .Set _ _ _ => false
  | _ => true
theorem fold_ok {e : Expr} {env : Env} (h : noSet e = true) : ∀ x, foldedSetIterable e env x = pure x := by
  intro x
  cases e <;> first | rfl | cases h
theorem marks_ok {op : CmpOp} {e : Expr} (h : noSet e = true) : behindInMarks op e = false := by
  cases e <;> first | rfl | cases h
theorem last_ok {op op' : CmpOp} {b c : Expr} (h : noSet c = true) : lastMarks [op, op'] [b, c] = false := by
  show behindInMarks op' c = false
  exact marks_ok h
theorem last3_ok {op op' op2 : CmpOp} {b c d : Expr} (h : noSet d = true) : lastMarks [op, op', op2] [b, c, d] = false := by
  show behindInMarks op2 d = false
  exact marks_ok h
noncomputable def noTup : Expr → Bool
  | .Tuple _ _ _ => false
  | _ => true
theorem stores_ok {t e : Expr} {env : Env} (h : noTup e = true) : swappedStores [t] e env = pure none := by
  cases e <;> first | (cases t <;> rfl) | cases h
noncomputable def noCall0 : Expr → Bool
  | .Call (.Name _ _) [] [] _ => false
  | _ => true
theorem base_ok {o : Expr} {attr : Str} {env : Env} {w : Sem Value} (h : noCall0 o = true) : attributeBase o attr env w = w := by
  cases o with
  | Call f as ks p =>
    cases f with
    | Name x q =>
      cases as with
      | nil =>
        cases ks with
        | nil => cases h
        | cons _ _ => rfl
      | cons _ _ => rfl
    | _ => rfl
  | _ => rfl
noncomputable def ixOf (N : List Str) (x : Str) : Nat := N.findIdx (fun y => decide (y = x))
noncomputable def isLoc (Γ : Gm) (x : Str) : Bool := match Γ.names.lookup x with
  | some .local => true
  | some .cell => Γ.top x
  | _ => false
noncomputable def isVis (Γ : Gm) (x : Str) : Bool := match Γ.names.lookup x with
  | some .local => true
  | some .cell => true
  | some .free => true
  | _ => false
section
variable {Γ : Gm} {fn : Fn} {k : Nat} {X : Cx} {L : Lk} {W : WX}
theorem Ok.vis (O : Ok Γ fn k X L W) {x : Str} (h : isVis Γ x = true) : Vis X.env.scope x := by
  unfold isVis at h
  unfold Vis
  rw [O.names]
  split at h
  · exact .inl (by assumption)
  · exact .inr (.inl (by assumption))
  · exact .inr (.inr (by assumption))
  · cases h
theorem Ok.loc (O : Ok Γ fn k X L W) {x : Str} (h : isLoc Γ x = true) : L2.Loc X.env.scope x ∧ (X.fn x = true ∨ X.env.scope.names.lookup x = some .local) := by
  unfold isLoc at h
  unfold L2.Loc
  rw [O.names]
  split at h
  · exact ⟨.inl (by assumption), .inr (by assumption)⟩
  · exact ⟨.inr (by assumption), .inl (O.top x h)⟩
  · cases h
theorem Ok.gl (O : Ok Γ fn k X L W) {x : Str} (h : Γ.names.lookup x = some .globalImplicit) : Gl X x := by
  show X.env.scope.names.lookup x = _
  rw [O.names]
  exact h
theorem Ok.units (O : Ok Γ fn k X L W) : X.A.units + 64 < cLine := O.room.units
end
noncomputable def plainName (x : Str) : Bool := !(x == ("__debug__" : Str)) && !(x == ("__classdict__" : Str)) && decide (x ≠ "__name__")
theorem plain1 {x : Str} (h : plainName x = true) : (x == ("__debug__" : Str)) = false ∧ (x == ("__classdict__" : Str)) = false ∧ x ≠ "__name__" := by
  unfold plainName at h
  simp only [Bool.and_eq_true, Bool.not_eq_true', decide_eq_true_eq] at h
  exact ⟨h.1.1, h.1.2, h.2⟩
/-! ### targets -/
mutual
noncomputable def cG (Γ : Gm) : Nat → (e : Expr) → Option (CG Γ e)
  | 0, _ => none
  | n + 1, e => match e with
    | .Name x pos => if h : Γ.N[ixOf Γ.N x]? = some x ∧ isLoc Γ x = true then some ⟨.nm (ixOf Γ.N x), fun O => g_name O.nd (by rw [O.hN]; exact h.1) (O.loc h.2).1 (O.loc h.2).2⟩ else none
    | .Tuple es kk pos => match cGs Γ n es with
      | some c => some ⟨.tp c.ts, fun O => g_tup O.hK O.calm (c.ok O) (c.len _).1 (c.len _).2⟩
      | none => none
    | _ => none
noncomputable def cGs (Γ : Gm) : Nat → (es : List Expr) → Option (CGs Γ es)
  | 0, _ => none
  | n + 1, es => match es with
    | [] => some ⟨[], fun O => gs_nil, fun _ => ⟨rfl, rfl⟩⟩
    | e :: es => if hs : noStar e = true then (match cG Γ n e, cGs Γ n es with
      | some c, some cs => some ⟨c.tg :: cs.ts, fun O => gs_cons (c.ok O) (cs.ok O) (by rw [asgE_ok hs]; rfl), fun env => by
          rw [asgE_ok hs]
          have := cs.len env
          exact ⟨by simp [this.1], by simp [List.findIdx?_cons, this.2]⟩⟩
      | _, _ => none) else none
end
/-! ### operators by name -/
structure COp (op : Operator) where
  g : D → D → AH → R D
  ok : ∀ {X : Cx} {L : Lk} {W : WX}, X.K = L.K → OpS X L W (binaryOp op) g
noncomputable def cOp : (op : Operator) → Option (COp op)
  | .Add => some ⟨addD, fun hK => op_addS hK⟩
  | .Sub => some ⟨subD, fun _ => op_subS⟩
  | .Mult => some ⟨mulD, fun hK => op_mulS hK⟩
  | .FloorDiv => some ⟨fdivD, fun _ => op_fdivS⟩
  | .Mod => some ⟨modD, fun _ => op_modS⟩
  | .Pow => some ⟨powD, fun _ => op_powS⟩
  | _ => none
structure CCmp (op : CmpOp) where
  g : D → D → AH → R D
  ok : ∀ {X : Cx} {L : Lk} {W : WX}, X.K = L.K → X.A.units + 64 < cLine → OpS X L W (compareOp op) g
noncomputable def cCmp : (op : CmpOp) → Option (CCmp op)
  | .Eq => some ⟨eqD, fun hK hu => op_eqS hK hu⟩
  | .NotEq => some ⟨neD, fun hK hu => op_neS hK hu⟩
  | .Lt => some ⟨cmpI fun i j => decide (i < j), fun _ _ => op_cmpI op_lt⟩
  | .LtE => some ⟨cmpI fun i j => decide (i ≤ j), fun _ _ => op_cmpI op_le⟩
  | .Gt => some ⟨cmpI fun i j => decide (j < i), fun _ _ => op_cmpI op_gt⟩
  | .GtE => some ⟨cmpI fun i j => decide (j ≤ i), fun _ _ => op_cmpI op_ge⟩
  | .Is => some ⟨isD false, fun _ _ => op_isS⟩
  | .IsNot => some ⟨isD true, fun _ _ => op_isnotS⟩
  | .In => some ⟨inD false, fun hK hu => op_inX hK op_in_seq (op_inK (by omega)) op_inSf⟩
  | .NotIn => some ⟨inD true, fun hK hu => op_inX hK op_notIn_seq (op_notInK (by omega)) op_inSt⟩
/-- a built-in by its name -/
structure CBi (x : Str) where
  v : Value
  g : List D → AH → R D
  boot : bootBuiltins x = some v
  kind : (∃ id, v = .builtin id) ∨ ∃ id, v = .type id
  ok : ∀ {X : Cx} {L : Lk} {W : WX}, X.K = L.K → X.calm = true → CaS X L W v g
noncomputable def mkBi (x : Str) (id : String) (g : List D → AH → R D) (b : bootBuiltins x = some (.builtin id)) (ok : ∀ {X : Cx} {L : Lk} {W : WX}, X.K = L.K → X.calm = true → CaS X L W (.builtin id) g) : CBi x := ⟨_, g, b, .inl ⟨id, rfl⟩, ok⟩
noncomputable def mkTy (x : Str) (id : String) (g : List D → AH → R D) (b : bootBuiltins x = some (.type id)) (ok : ∀ {X : Cx} {L : Lk} {W : WX}, X.K = L.K → X.calm = true → CaS X L W (.type id) g) : CBi x := ⟨_, g, b, .inr ⟨id, rfl⟩, ok⟩
noncomputable def cBi (x : Str) : Option (CBi x) :=
  if h : x = "len" then some (h ▸ mkBi "len" "len" lenD PySem.boot_len fun hK _ => ca_len hK) else
  if h : x = "isinstance" then some (h ▸ mkBi "isinstance" "isinstance" isiD (by decide +kernel) fun hK _ => ca_isi hK) else
  if h : x = "int" then some (h ▸ mkTy "int" "int" intD (by decide +kernel) fun _ _ => ca_int) else
  if h : x = "abs" then some (h ▸ mkBi "abs" "abs" absD (by decide +kernel) fun _ _ => ca_abs) else
  if h : x = "list" then some (h ▸ mkTy "list" "list" listD (by decide +kernel) fun hK hc => ca_list hK hc) else
  if h : x = "tuple" then some (h ▸ mkTy "tuple" "tuple" tupleD (by decide +kernel) fun hK _ => ca_tuple hK) else
  if h : x = "max" then some (h ▸ mkBi "max" "max" maxD (by decide +kernel) fun hK hc => ca_max hK hc) else
  if h : x = "min" then some (h ▸ mkBi "min" "min" minD (by decide +kernel) fun hK hc => ca_min hK hc) else
  if h : x = "sorted" then some (h ▸ mkBi "sorted" "sorted" sortedD (by decide +kernel) fun hK hc => ca_sorted hK hc) else
  if h : x = "sum" then some (h ▸ mkBi "sum" "sum" sumD (by decide +kernel) fun hK hc => ca_sum hK hc) else
  if h : x = "str" then some (h ▸ mkTy "str" "str" strD (by decide +kernel) fun _ _ => ca_str) else
  if h : x = "dict" then some (h ▸ mkTy "dict" "dict" dictD (by decide +kernel) fun _ _ => ca_dict) else none
/-- a built-in type's name as a value -/
structure CTy (x : Str) where
  n : String
  boot : bootBuiltins x = some (.type n)
noncomputable def cTy (x : Str) : Option (CTy x) :=
  if h : x = "int" then some ⟨"int", h ▸ (by decide +kernel)⟩ else
  if h : x = "bool" then some ⟨"bool", h ▸ (by decide +kernel)⟩ else
  if h : x = "str" then some ⟨"str", h ▸ (by decide +kernel)⟩ else
  if h : x = "tuple" then some ⟨"tuple", h ▸ (by decide +kernel)⟩ else
  if h : x = "list" then some ⟨"list", h ▸ (by decide +kernel)⟩ else
  if h : x = "dict" then some ⟨"dict", h ▸ (by decide +kernel)⟩ else none
/-- a method of a built-in by its name -/
structure CMt (name : Str) where
  T : String
  id : String
  g : D → List D → AH → R D
  pa : PlainAttrs T
  slot : Slot T name id
  ty : typeOf (.builtin id) = pure (.type "method_descriptor")
  ok : ∀ {X : Cx} {L : Lk} {W : WX}, X.K = L.K → X.A.units + 64 < cLine → MtS X L W T id g
noncomputable def cMt (x : Str) : Option (CMt x) :=
  if h : x = "join" then some (h ▸ (⟨"str", "str.join", joinD, PySem.F.plainAttrs_str, PySem.F.slot_str_join, PySem.F.type_str_join, fun hK _ => mt_joinS hK⟩ : CMt "join")) else
  if h : x = "split" then some (h ▸ (⟨"str", "str.split", splitD, PySem.F.plainAttrs_str, PySem.F.slot_str_split, PySem.F.type_str_split, fun _ _ => mt_splitS⟩ : CMt "split")) else
  if h : x = "append" then some (h ▸ (⟨"list", "list.append", appD, PySem.F.plainAttrs_list, PySem.F.slot_list_append, PySem.F.type_list_append, fun _ _ => mt_app⟩ : CMt "append")) else
  if h : x = "pop" then some (h ▸ (⟨"list", "list.pop", popAtD, PySem.F.plainAttrs_list, PySem.F.slot_list_pop, PySem.F.type_list_pop, fun _ _ => mt_popAtS⟩ : CMt "pop")) else
  if h : x = "extend" then some (h ▸ (⟨"list", "list.extend", extD, PySem.F.plainAttrs_list, PySem.F.slot_list_extend, PySem.F.type_list_extend, fun _ _ => mt_extS⟩ : CMt "extend")) else
  if h : x = "get" then some (h ▸ (⟨"dict", "dict.get", dgetD, PySem.F.plainAttrs_dict, PySem.F.slot_dict_get, (by show builtinType _ = _; rw [builtinType_eq_fast]; kernel_rfl), fun _ hu => mt_dgetS (by omega)⟩ : CMt "get")) else
  if h : x = "setdefault" then some (h ▸ (⟨"dict", "dict.setdefault", dsetD, PySem.F.plainAttrs_dict, PySem.F.slot_dict_setdefault, PySem.F.type_dict_setdefault, fun _ _ => mt_dsetS⟩ : CMt "setdefault")) else none
/-- .. by the count of its further arguments -/
noncomputable def cMtN (x : Str) (n : Nat) : Option (CMt x) :=
  if h : x = "pop" ∧ n = 1 then some (h.1 ▸ (⟨"dict", "dict.pop", dpopD, PySem.F.plainAttrs_dict, PySem.F.slot_dict_pop, PySem.F.type_dict_pop, fun _ _ => mt_dpopS⟩ : CMt "pop")) else cMt x
noncomputable def cMt0 (x : Str) : Option (CMt x) :=
  if h : x = "pop" then some (h ▸ (⟨"list", "list.pop", popD, PySem.F.plainAttrs_list, PySem.F.slot_list_pop, PySem.F.type_list_pop, fun _ _ => mt_popS⟩ : CMt "pop")) else none
noncomputable def gFnO (Γ : Gm) (x : Str) : (o : Option Gi) → Γ.glb.lookup x = o → Option { p : Nat × Nat // Γ.glb.lookup x = some (.fn p.1 p.2) }
  | some (.fn i n), h => some ⟨(i, n), h⟩
  | _, _ => none
noncomputable def gFn (Γ : Gm) (x : Str) : Option { p : Nat × Nat // Γ.glb.lookup x = some (.fn p.1 p.2) } := gFnO Γ x _ rfl
noncomputable def gClO (Γ : Gm) (x : Str) : (o : Option Gi) → Γ.glb.lookup x = o → Option { p : Nat × Nat × Nat // Γ.glb.lookup x = some (.cls p.1 p.2.1 p.2.2) }
  | some (.cls c i n), h => some ⟨(c, i, n), h⟩
  | _, _ => none
noncomputable def gCl (Γ : Gm) (x : Str) : Option { p : Nat × Nat × Nat // Γ.glb.lookup x = some (.cls p.1 p.2.1 p.2.2) } := gClO Γ x _ rfl
noncomputable def hasMt (Γ : Gm) (m : Str) : Bool := Γ.mth.any fun e => e.1.2 == m
theorem hasMt_ok {Γ : Gm} {m : Str} (h : hasMt Γ m = true) : ∃ c i np, Γ.mth.lookup (c, m) = some (i, np) := by
  obtain ⟨⟨⟨c, m'⟩, i, np⟩, hm, e⟩ := List.any_eq_true.mp h
  have e : m' = m := beq_iff_eq.mp e
  subst e
  generalize Γ.mth = l at hm
  have : ∃ p, l.lookup (c, m') = some p := by
    induction l with
    | nil => cases hm
    | cons q r ih =>
      obtain ⟨k, v⟩ := q
      rw [List.lookup_cons]
      cases z : (c, m') == k with
      | true => exact ⟨_, rfl⟩
      | false =>
        rcases List.mem_cons.mp hm with e | hm
        · cases e; simp at z
        · exact ih hm
  obtain ⟨⟨i, np⟩, e⟩ := this
  exact ⟨c, i, np, e⟩
noncomputable def gValO (Γ : Gm) (x : Str) : (o : Option Gi) → Γ.glb.lookup x = o → Option { d : D // Γ.glb.lookup x = some (.val d) }
  | some (.val d), h => some ⟨d, h⟩
  | _, _ => none
noncomputable def gVal (Γ : Gm) (x : Str) : Option { d : D // Γ.glb.lookup x = some (.val d) } := gValO Γ x _ rfl
noncomputable def scOf (names : List (Str × NameKind)) : Scope := { kind := .function, names := names, isGenerator := false, isCoroutine := false }
theorem blkC_eq {N : List Str} {sc sc' scope : Scope} {own : List (Str × Nat)} (h : sc.names = sc'.names) : blkC N sc scope own = blkC N sc' scope own := by
  unfold blkC
  rw [h]
noncomputable def inBlk (Γ : Gm) (scope : Scope) : Gm := { Γ with names := (relS scope (scOf Γ.names)).names, top := fun x => scope.names.lookup x == some .cell, df := false, gx := Γ.gx && Γ.g1 }
noncomputable def ownOf (Γ : Gm) (scope : Scope) : List (Str × Nat) := (scope.names.filter fun y => (y.2 == .local || y.2 == .cell) && decide (y.1 ∈ Γ.N)).map fun y => (y.1, ixOf Γ.N y.1)
theorem Ok.blk {Γ : Gm} {fn : Fn} {k : Nat} {X : Cx} {L : Lk} {W : WX} (O : Ok Γ fn k X L W) (s : Shared) (H : Hp) (scope : Scope) (cl : List (Str × Addr)) (C : Addr) (fp : List Addr) (hk : scope.kind = .function) : Ok (inBlk Γ scope) fn k (X.blk s H scope (compEnvC scope cl C X.env) fp) L W0 where
  hN := O.hN
  nd := O.nd
  names := by
    show (relS scope X.env.scope).names = (relS scope (scOf Γ.names)).names
    unfold relS scOf
    simp only [O.names, O.kind]
  kind := hk
  calm := O.calm
  tk := takes0
  own := PassesOwn.never
  room := O.room
  hK := O.hK
  hw := O.hw
  top := fun x h => h
  gfn := O.gfn
  gval := O.gval
  gblt := O.gblt
  cod := fun h => by
    have h : (Γ.gx && Γ.g1) = true := h
    rw [Bool.and_eq_true] at h
    exact (O.cod h.1).blk h.2 rfl rfl rfl
  gexc := O.gexc
  xtab := O.xtab
  xn := O.xn
  gtup := O.gtup
  stk := fun h => nomatch h
  dfg := fun h => nomatch h
  gcls := O.gcls
  gmth := O.gmth
  gmk := O.gmk
  gxm := O.gxm
/-! ### inside a generator expression -/
noncomputable def inGx (Γ : Gm) (scope : Scope) : Gm := { Γ with names := scope.names, top := fun _ => false, nest := Γ.nest - 1, gx := Γ.g1, g1 := false, df := false }
theorem Ok.gxc {Γ : Gm} {fn : Fn} {k : Nat} {X : Cx} {L : Lk} {W : WX} (O : Ok Γ fn k X L W) {scope : Scope} (A' : Around) (Cc : Addr) (cv : Value) (fp : List Addr) (a : Addr) (go : Obj) (s : Shared) (H : Hp) (hk : scope.kind = .function) (hgx : Γ.gx = true) {gpos : Pos} (hr : Room (3 * k + (Γ.nest - 1)) A') (hz : Zg L.tb Γ.g1 gpos H cv) : Ok (inGx Γ scope) fn k (gX X A' (gE X scope Cc cv) fp a go s H) L W0 where
  hN := O.hN
  nd := O.nd
  names := rfl
  kind := hk
  calm := O.calm
  tk := takes0
  own := PassesOwn.never
  room := hr
  hK := O.hK
  hw := O.hw
  top := fun x h => nomatch h
  gfn := O.gfn
  gval := O.gval
  gblt := O.gblt
  cod := fun h => (O.cod hgx).gx fun _ => hz h
  gexc := O.gexc
  xtab := O.xtab
  xn := O.xn
  gtup := O.gtup
  stk := fun h => nomatch h
  dfg := fun h => nomatch h
  gcls := O.gcls
  gmth := O.gmth
  gmk := O.gmk
  gxm := O.gxm
noncomputable def gscC (N : List Str) (names : List (Str × NameKind)) (scope : Scope) (vs : List Nat) : Bool :=
  decide (scope.kind = .function) && decide (scope.isCoroutine = false) && scope.names.all (fun y => decide (y.2 ≠ .cell)) && decide (scope.names.lookup (".0" : Str) = some NameKind.local) &&
  (List.range N.length).all (fun i => match N[i]? with
    | some x => if scope.names.lookup x = some .local then decide (i ∈ vs) else true
    | none => true) && scope.names.all (fun y => if y.2 = .free then decide (names.lookup y.1 = some .cell) || decide (names.lookup y.1 = some .free) else true)
theorem gscC_ok {N : List Str} {names : List (Str × NameKind)} {scope : Scope} {vs : List Nat} {env : Env} (he : env.scope.names = names) (h : gscC N names scope vs = true) : GScp N env scope vs := by
  unfold gscC at h
  simp only [Bool.and_eq_true, decide_eq_true_eq, List.all_eq_true] at h
  obtain ⟨⟨⟨⟨⟨h1, h2⟩, h3⟩, h4⟩, h5⟩, h6⟩ := h
  have hf : ∀ y ∈ scope.names, y.2 = .free → env.scope.names.lookup y.1 = some .cell ∨ env.scope.names.lookup y.1 = some .free := fun y hy e => by
    have := h6 y hy
    rw [if_pos e] at this
    rw [he]
    simpa using this
  refine ⟨h1, h2, h3, h4, fun i x hx hl => ?_, fun x hx => hf (x, .free) (PySem.mem_of_lookup hx) rfl, hf⟩
  have := h5 i (List.mem_range.mpr (List.getElem?_eq_some_iff.mp hx).1)
  simp only [hx] at this
  rw [if_pos hl] at this
  simpa using this
end Cod

/-! # instances of the program's own classes -/
namespace Cod
open PySem L2 PySem.Spec PyProof.Rows
theorem wpAny_Call_own {prog : Program} {w : World} {A : Around} {env : Env} {E : Value → Shared → Prop} {s : Shared} {o : Expr} {name : Str} {apos pos : Pos} {args : List Expr} {Q : Value → Shared → Prop}
    (hbase : attributeBase o name env (eval o env) = eval o env)
    (hfew : ((backTo pos (starEach args env)).all (fun x => !x.1) && (backToKw pos (keywordEach [] env)).all (fun x => x.1.isSome)
      && decide (args.length + ([] : List Keyword).length + (if ([] : List Keyword).isEmpty then 0 else 1) < 30)) = true)
    (hline : (apos.endLine == pos.line) = true)
    (h : wpAny (model prog w) A (eval o env) (fun ov s₁ => ∀ pl, wpAny (model prog w) A (getMethod ov name pl) (fun fx s₂ => wpAny (model prog w) A (callWith pos fx.1 fx.2 (backTo pos (starEach args env)) (backToKw pos (keywordEach [] env))) Q E s₂) E s₁) E s) :
    wpAny (model prog w) A (eval (.Call (.Attribute o name apos) args [] pos) env) Q E s := by
  rw [arm_eval_Call, hbase]
  refine wpAny_bind (wpAny_mono h (fun ov s₁ h₁ => ?_) fun _ _ e => e)
  refine wpAny_bind (wpAny_standAt ?_)
  have hform : methodCallForm (args.length + ([] : List Keyword).length) (backTo pos (starEach args env)) (backToKw pos (keywordEach [] env)) = true := hfew
  have hpos : methodCallPos true o env apos pos = pure pos := by unfold methodCallPos; simp [hline]
  unfold methodCall
  rw [hform]
  refine wpAny_bind (wpAny_holding (wpAny_mono (h₁ _) (fun fx s₂ h₂ => ?_) fun _ _ x => x))
  exact wpAny_bind (wpAny_of_eq hpos h₂)
section
variable {X : Cx} {CX : CXT} {k : Nat} {f C : Addr} {fd : FuncData} {ps : List Str} {sp : Sp} {E : L2.St → XK} {x m : Str} {p pos apos : Pos} {e o : Expr} {es : List Expr} {ta : TE} {t : TA}
noncomputable def tMethS (C : Addr) (m : Str) (sp : Sp) (E : L2.St → XK) (ta : TE) (t : TA) : TE := fun σ H Q => ta σ H fun x H1 => ∃ a dx fs, x = .ref a ∧ H1 a = some (.ins C dx fs) ∧ fs.lookup m = none ∧ t σ H1 fun vs H2 => sp (x :: vs) H2 Q (E σ)
theorem pe_methS (he : PE X o ta) (c : Cls X.K C) (hm : Meth X.K C m f) (F : FnOk X.prog X.w X.K X.mg X.base CX k f fd ps sp) (hr : Room k X.A) (hb : Binds X.K fd ps []) (hx : ∀ σ, PassesAt CX X σ (E σ)) (ha : PA X (e :: es) t)
    (hbase : attributeBase o m X.env (eval o X.env) = eval o X.env)
    (hfew : ((backTo pos (starEach (e :: es) X.env)).all (fun x => !x.1) && (backToKw pos (keywordEach [] X.env)).all (fun x => x.1.isSome)
      && decide ((e :: es).length + ([] : List Keyword).length + (if ([] : List Keyword).isEmpty then 0 else 1) < 30)) = true)
    (hline : (apos.endLine == pos.line) = true) (hst : starEach (e :: es) X.env = (false, eval e X.env) :: starEach es X.env) (hpl : (backTo pos (starEach es X.env)).any (·.1) = false) :
    PE X (.Call (.Attribute o m apos) (e :: es) [] pos) (tMethS C m sp E ta t) := by
  refine ⟨fun pins s σ H Q I h => ?_⟩
  refine wpAny_Call_own hbase hfew hline (thn (he.run pins s σ H _ I h) fun u s1 ⟨x, H1, I1, rx, a, dx, fs, ex, ea, l, q⟩ pl => ?_)
  subst ex
  obtain rfl : u = Value.ref a := rx
  refine getmeth_ok I1 ea c hm l ?_
  refine PySem.W.callWith_K (first := [.ref a]) (h₀ := X.base) I.ok.mod.kin hm.kp (thn (ha.run pos pins s1 σ H1 _ I1 q) fun us s2 ⟨vs, H2, I2, r, q2⟩ => ⟨I2.kIn, ?_⟩) hst hpl
  exact run_fnS (us := .ref a :: us) (vs := .ref a :: vs) F hr hb (hx σ) I2 (.cons rfl r) q2
theorem pe_methS0 (he : PE X o ta) (c : Cls X.K C) (hm : Meth X.K C m f) (F : FnOk X.prog X.w X.K X.mg X.base CX k f fd ps sp) (hr : Room k X.A) (hb : Binds X.K fd ps []) (hx : ∀ σ, PassesAt CX X σ (E σ))
    (hbase : attributeBase o m X.env (eval o X.env) = eval o X.env) (hline : (apos.endLine == pos.line) = true) :
    PE X (.Call (.Attribute o m apos) [] [] pos) (tMethS C m sp E ta tNil) := by
  refine ⟨fun pins s σ H Q I h => ?_⟩
  refine wpAny_Call_own hbase rfl hline (thn (he.run pins s σ H _ I h) fun u s1 ⟨x, H1, I1, rx, a, dx, fs, ex, ea, l, q⟩ pl => ?_)
  subst ex
  obtain rfl : u = Value.ref a := rx
  refine getmeth_ok I1 ea c hm l ?_
  exact PySem.W.callWith_K0 (first := [.ref a]) I1.kIn hm.kp (run_fnS (us := [.ref a]) (vs := [.ref a]) F hr hb (hx σ) I1 (.cons rfl .nil) q)
theorem run_makeS {pins : List (Addr × Obj)} {σ : L2.St} {H : Hp} {s : Shared} {Q : VK} {us : List Value} {vs : List V} (M : Mk X.K C f) (F : FnOk X.prog X.w X.K X.mg X.base CX k f fd ps sp) (hr : Room (k + 1) X.A) (hb : Binds X.K fd ps [])
    (hx : PassesAt CX X σ (E σ)) (I : Inv X pins σ H s) (r : Vals vs us)
    (h : ∀ x dx, H x = none → H dx = none → dx ≠ x → sp (.ref x :: vs) (upd (upd H dx (.own x)) x (.ins C dx [])) (fun v H2 => v = .non ∧ Q (.ref x) H2) (E σ)) :
    wpAny (model X.prog X.w) X.A (call (.ref C) us) (EP X pins σ Q) X.xe s := by
  have hq := h (s.heap.objs.size + 1) s.heap.objs.size (I.hok.fresh (Nat.le_succ _)) (I.hok.fresh (Nat.le_refl _)) (Nat.ne_of_lt (Nat.lt_succ_self _))
  have I2 := Inv.made (C := C) I
  have r2 : Vals (V.ref (s.heap.objs.size + 1) :: vs) (Value.ref (s.heap.objs.size + 1) :: us) := .cons rfl r
  have hl : (Value.ref (s.heap.objs.size + 1) :: us).length = ps.length := by
    have e := r2.length
    rw [F.len _ _ _ _ hq] at e
    exact e.symm
  have b := hb { s with heap := (s.heap.push PySem.W.emptyDict).push (PySem.W.instObj C s.heap.objs.size) } (Value.ref (s.heap.objs.size + 1) :: us) I2.kIn (by rw [List.append_nil]; exact hl)
  rw [List.append_nil] at b
  refine wpAny_call (make_map (f := f) I.kIn M.makes M.init (beq_iff_eq.mp M.fn) (codeAny_mono (F.run _ X.stack _ _ ⟨Value.ref (s.heap.objs.size + 1) :: us, []⟩ (Value.ref (s.heap.objs.size + 1) :: us) _ _ (E σ) (hr.make C us [])
    (I2.env0.make C us []) b r2 hq) fun r s' hq' => ?_))
  cases r with
  | error e => exact hx pins _ _ e s' I2 hq'
  | ok fl =>
    cases fl with
    | ret u =>
      obtain ⟨v, H', I3, rv, ev, q3⟩ := I2.after hq'
      subst ev
      exact ⟨rv, ⟨V.ref (s.heap.objs.size + 1), H', I3, rfl, q3⟩⟩
    | next => exact False.elim hq'
    | brk => exact False.elim hq'
    | cont => exact False.elim hq'
noncomputable def tMakeS (C : Addr) (sp : Sp) (E : L2.St → XK) (t : TA) : TE := fun σ H Q => t σ H fun vs H1 => ∀ x dx, H1 x = none → H1 dx = none → dx ≠ x →
  sp (.ref x :: vs) (upd (upd H1 dx (.own x)) x (.ins C dx [])) (fun v H2 => v = .non ∧ Q (.ref x) H2) (E σ)
theorem pe_makeS (M : Mk X.K C f) (F : FnOk X.prog X.w X.K X.mg X.base CX k f fd ps sp) (hr : Room (k + 1) X.A) (hg : Gl X x) (hm : X.mg x = some (.ref C)) (hb : Binds X.K fd ps []) (hx : ∀ σ, PassesAt CX X σ (E σ))
    (ha : PA X (e :: es) t) (hdb : (x == ("__debug__" : Str)) = false) (he : starEach (e :: es) X.env = (false, eval e X.env) :: starEach es X.env) (hpl : (backTo pos (starEach es X.env)).any (·.1) = false) :
    PE X (.Call (.Name x p) (e :: es) [] pos) (tMakeS C sp E t) := by
  refine ⟨fun pins s σ H Q I h => ?_⟩
  refine wpAny_Call_Name_kw (ld_glob I hg hm ?_ hdb)
  refine PySem.W.callWith_K (h₀ := X.base) I.ok.mod.kin M.kp (thn (ha.run pos pins s σ H _ I h) fun us s1 ⟨vs, H1, I1, r, q⟩ => ⟨I1.kIn, ?_⟩) he hpl
  exact run_makeS M F hr hb (hx σ) I1 r q
theorem pe_makeS0 (M : Mk X.K C f) (F : FnOk X.prog X.w X.K X.mg X.base CX k f fd ps sp) (hr : Room (k + 1) X.A) (hg : Gl X x) (hm : X.mg x = some (.ref C)) (hb : Binds X.K fd ps []) (hx : ∀ σ, PassesAt CX X σ (E σ))
    (hdb : (x == ("__debug__" : Str)) = false) : PE X (.Call (.Name x p) [] [] pos) (tMakeS C sp E tNil) := by
  refine ⟨fun pins s σ H Q I h => ?_⟩
  refine wpAny_Call_Name_kw (ld_glob I hg hm ?_ hdb)
  exact PySem.W.callWith_K0 I.kIn M.kp (run_makeS (us := []) M F hr hb (hx σ) I .nil h)
end
/-! ### fields -/
noncomputable def putFD (f : Str) (v : D) : List (Str × D) → List (Str × D)
  | [] => [(f, v)]
  | (g, x) :: r => if g = f then (g, v) :: r else (g, x) :: putFD f v r
section
variable {L : Lk} {A : List Addr} {H : Hp}
theorem RKs.lookF {f : Str} : ∀ {ds : List (Str × D)} {vs : List (Str × V)}, RKs L A H ds vs → (∀ d, ds.lookup f = some d → ∃ v, vs.lookup f = some v ∧ RD L A H d v) ∧ (ds.lookup f = none → vs.lookup f = none)
  | _, _, .nil => ⟨(fun d e => by cases e), fun _ => rfl⟩
  | _, _, .cons (k := k) p q => by
    have ih := RKs.lookF (f := f) q
    rw [List.lookup_cons, List.lookup_cons]
    cases h : f == k with
    | true => exact ⟨(fun d e => by cases e; exact ⟨_, rfl, p⟩), (fun e => by cases e)⟩
    | false => exact ih
theorem RKs.putF {f : Str} {d : D} {v : V} (r : RD L A H d v) : ∀ {ds : List (Str × D)} {vs : List (Str × V)}, RKs L A H ds vs → RKs L A H (putFD f d ds) (L2.putF f v vs)
  | _, _, .nil => .cons r .nil
  | _, _, .cons (k := k) p q => by
    unfold putFD L2.putF
    by_cases h : k = f
    · rw [if_pos h, if_pos h]; exact .cons r q
    · rw [if_neg h, if_neg h]; exact .cons p (RKs.putF r q)
end
noncomputable def fldI (cls : List (Nat × List Str)) (f : Str) (d : D) (h : AH) : R D := match d with
  | .loc n => match h[n]? with
    | some (.ins c fs) => if lookC cls c f = true then (match fs.lookup f with
      | some v => .ok v h
      | none => .no) else .no
    | _ => .no
  | _ => .no
noncomputable def eFldI (cls : List (Nat × List Str)) (f : Str) (m : ED) : ED := fun δ h => (m δ h).bind (fldI cls f)
noncomputable def setFI (cls : List (Nat × List Str)) (f : Str) (v : D) (d : D) (h : AH) : Option AH := match d with
  | .loc n => match h[n]? with
    | some (.ins c fs) => if lookC cls c f = true ∧ fs.length < 1000 then some (h.set n (.ins c (putFD f v fs))) else none
    | _ => none
  | _ => none
noncomputable def sFldI (cls : List (Nat × List Str)) (f : Str) (mo mv : ED) : SD := fun δ h => (mv δ h).thn δ fun v h1 => (mo δ h1).thn δ fun d h2 => match setFI cls f v d h2 with
  | some h3 => .nx δ h3
  | none => .no
/-- o.f op= e -/
noncomputable def sAugI (cls : List (Nat × List Str)) (f : Str) (g : D → D → AH → R D) (mo mv : ED) : SD := fun δ h => (mo δ h).thn δ fun d h1 => match d with
  | .loc n => match h1[n]? with
    | some (.ins c fs) => if lookC cls c f = true then (match fs.lookup f with
      | some x => (mv δ h1).thn δ fun y h2 => (g x y h2).thn δ fun z h3 => match h3[n]? with
        | some (.ins c' fs') => if c' = c ∧ fs'.length < 1000 then .nx δ (h3.set n (.ins c' (putFD f z fs'))) else .no
        | _ => .no
      | none => .no) else .no
    | _ => .no
  | _ => .no
section
variable {X : Cx} {L : Lk} {W : WX}
theorem e_fldI {cls : List (Nat × List Str)} {f : Str} {e : Expr} {m : ED} {pos : Pos} (hc : ClsOk X.K L cls) (he : PE X e (tE L W m)) (hb : attributeBase e f X.env (eval e X.env) = eval e X.env) : PE X (.Attribute e f pos) (tE L W (eFldI cls f m)) := by
  refine PE.weak (pe_fld he hb) fun σ H Q ⟨A, δ, h, rs, rh, p⟩ => ⟨A, δ, h, rs, rh, (Po.bind p).imp fun x H1 ⟨A1, d, h1, l, rh1, q, p1⟩ => ?_⟩
  unfold fldI at p1
  split at p1
  · cases q with
    | @loc n a ea =>
      split at p1
      · rename_i c fs e0
        obtain ⟨dx, ws, g, rk⟩ := rh1.get _ a _ ea e0
        split at p1
        · rename_i hl
          split at p1
          · rename_i v ev
            obtain ⟨v', e1, r⟩ := rk.lookF.1 v ev
            exact ⟨a, _, dx, ws, v', rfl, g, (hc c f hl).1, (hc c f hl).2, e1, Po.ok p1 rh1 r⟩
          · exact p1.elim
        · exact p1.elim
      · exact p1.elim
  · exact p1.elim
theorem s_fldI {cls : List (Nat × List Str)} {f : Str} {o value : Expr} {mo mv : ED} {pos pos' : Pos} (hc : ClsOk X.K L cls) (ho : PE X o (tE L W mo)) (hv : PE X value (tE L W mv)) (hs : swapsWith value (some (.Attribute o f pos')) pos.line X.env = pure false) :
    PS X (.Assign [.Attribute o f pos'] value pos) (tS L W (sFldI cls f mo mv)) := by
  refine PS.weak (ps_fld ho hv hs) fun E σ H ⟨A, δ, h, rs, rh, p⟩ => ⟨A, δ, h, rs, rh, (PoS.thn rs p).imp fun y H1 ⟨A1, v, h1, l1, rh1, q1, p1⟩ => ?_⟩
  refine ⟨A1, δ, h1, rs.mono l1, rh1, (PoS.thn (rs.mono l1) p1).imp fun x H2 ⟨A2, d, h2, l2, rh2, q2, p2⟩ => ?_⟩
  split at p2
  · rename_i h3 e3
    unfold setFI at e3
    split at e3
    · cases q2 with
      | @loc n a ea =>
        split at e3
        · rename_i c fs e0
          obtain ⟨dx, ws, g, rk⟩ := rh2.get _ a _ ea e0
          split at e3
          · rename_i hl
            cases e3
            have mu : mutH (H2 a) := by rw [g]; trivial
            refine ⟨a, _, dx, ws, rfl, g, (hc c f hl.1).1, (hc c f hl.1).2, by rw [← rk.length]; exact hl.2, ?_⟩
            exact p2 A2 _ _ (Le.put mu) ((rs.mono (l1.trans l2)).mono (Le.put mu)) (rh2.put ea e0 rfl mu ⟨dx, _, upd_same, RKs.mono (Le.put mu) (rk.putF (RD.mono l2 _ _ q1))⟩)
          · cases e3
        · cases e3
    · cases e3
  · exact p2.elim
theorem s_augI {cls : List (Nat × List Str)} {f : Str} {op : Operator} {g : D → D → AH → R D} {o value : Expr} {mo mv : ED} {pos tpos : Pos} (hc : ClsOk X.K L cls) (og : OpS X L W (inplaceOp op) g) (ho : PE X o (tE L W mo)) (hv : PE X value (tE L W mv)) :
    PS X (.AugAssign (.Attribute o f tpos) op value pos) (tS L W (sAugI cls f g mo mv)) := by
  obtain ⟨r, hor, hr⟩ := og
  refine ⟨fun pins s σ H E I ⟨A, δ, h, rs, rh, p⟩ => ?_⟩
  refine (ps_fldaug (f := f) (tpos := tpos) (pos := pos) (rd := fun x y H Q => r x y H Q) ho hv (fun pins s σ H x y u v Q I r1 r2 h => hor pins s σ H x y u v Q I r1 r2 h)).run pins s σ H E I ⟨A, δ, h, rs, rh, (PoS.thn rs p).imp fun x H1 ⟨A1, d, h1, l1, rh1, q1, p1⟩ => ?_⟩
  split at p1
  · cases q1 with
    | @loc n a ea =>
      split at p1
      · rename_i c fs e0
        obtain ⟨dx, ws, g1, rk⟩ := rh1.get _ a _ ea e0
        split at p1
        · rename_i hl
          split at p1
          · rename_i x0 ex
            obtain ⟨v', e1, rx⟩ := rk.lookF.1 x0 ex
            refine ⟨a, _, dx, ws, v', rfl, g1, (hc c f hl).1, (hc c f hl).2, e1, A1, δ, h1, rs.mono l1, rh1, (PoS.thn (rs.mono l1) p1).imp fun y H2 ⟨A2, e, h2, l2, rh2, q2, p2⟩ => ?_⟩
            refine hr σ A2 h2 H2 v' y x0 e _ rh2 (RD.mono l2 _ _ rx) q2 ((PoS.thn (rs.mono (l1.trans l2)) p2).imp fun z H3 ⟨A3, z0, h3, l3, rh3, q3, p3⟩ => ?_)
            split at p3
            · rename_i c' fs' e3
              have ea3 := l3.at (l2.at ea)
              obtain ⟨dx', ws', g3, rk3⟩ := rh3.get _ a _ ea3 e3
              split at p3
              · rename_i hh
                obtain ⟨rfl, hlen⟩ := hh
                have mu : mutH (H3 a) := by rw [g3]; trivial
                refine ⟨dx', ws', g3, by rw [← rk3.length]; exact hlen, ?_⟩
                exact p3 A3 _ _ (Le.put mu) ((rs.mono ((l1.trans l2).trans l3)).mono (Le.put mu)) (rh3.put ea3 e3 rfl mu ⟨dx', _, upd_same, RKs.mono (Le.put mu) (rk3.putF q3)⟩)
              · exact p3.elim
            · exact p3.elim
          · exact p1.elim
        · exact p1.elim
      · exact p1.elim
  · exact p1.elim
end
/-! ### methods, new instances -/
noncomputable def mthD (mth : Mth) (fn : Fn) (m : Str) (ma : AD) (δ : Sl) (d : D) (h1 : AH) : R D := match d with
  | .loc n => match h1[n]? with
    | some (.ins c fs) => match mth.lookup (c, m) with
      | some (i, np) => if (fs.lookup m).isNone = true then (ma δ h1).bind fun ds h2 => callD np (fn i) (.loc n :: ds) h2 else .no
      | none => .no
    | _ => .no
  | _ => .no
noncomputable def eMth (mth : Mth) (fn : Fn) (m : Str) (mo : ED) (ma : AD) : ED := fun δ h => (mo δ h).bind (mthD mth fn m ma δ)
noncomputable def eMk (c i np : Nat) (fn : Fn) (ma : AD) : ED := fun δ h => (ma δ h).bind fun ds h1 => (callD np (fn i) (.loc h1.length :: ds) (h1 ++ [.ins c []])).bind fun r h2 => match r with
  | .non => .ok (.loc h1.length) h2
  | _ => .no
section
variable {X : Cx} {L : Lk} {W : WX} {fn : Fn} {k : Nat} {mth : Mth}
theorem e_mth {m : Str} {o e : Expr} {es : List Expr} {apos pos : Pos} {mo : ED} {ma : AD} (hm : MthOk X L fn k mth) (hr : Room k X.A) (ne : ∃ c i np, mth.lookup (c, m) = some (i, np)) (tk : Takes X W) (ho : PE X o (tE L W mo)) (ha : PA X (e :: es) (tAr L W ma))
    (hbase : attributeBase o m X.env (eval o X.env) = eval o X.env)
    (hfew : ((backTo pos (starEach (e :: es) X.env)).all (fun x => !x.1) && (backToKw pos (keywordEach [] X.env)).all (fun x => x.1.isSome)
      && decide ((e :: es).length + ([] : List Keyword).length + (if ([] : List Keyword).isEmpty then 0 else 1) < 30)) = true)
    (hline : (apos.endLine == pos.line) = true) (hst : starEach (e :: es) X.env = (false, eval e X.env) :: starEach es X.env) (hpl : (backTo pos (starEach es X.env)).any (·.1) = false) :
    PE X (.Call (.Attribute o m apos) (e :: es) [] pos) (tE L W (eMth mth fn m mo ma)) := by
  refine ⟨fun pins s σ H Q I ⟨A, δ, h, rs, rh, p⟩ => ?_⟩
  unfold eMth at p
  cases eo : mo δ h with
  | no => rw [eo] at p; exact p.elim
  | ex c fs h1 =>
    rw [eo] at p
    obtain ⟨c0, i0, np0, e0⟩ := ne
    obtain ⟨fd, ps, hC, hM, hB, hF⟩ := hm _ _ _ _ e0
    exact (pe_methS (E := WE W) ho hC hM hF hr hB (passAt tk) ha hbase hfew hline hst hpl).run pins s σ H Q I ⟨A, δ, h, rs, rh, by rw [eo]; exact p⟩
  | ok d h1 =>
    rw [eo] at p
    replace p : Po L W σ A H (RD L) (mthD mth fn m ma δ d h1) Q := p
    unfold mthD at p
    split at p
    · rename_i n
      split at p
      · rename_i c fs e0
        split at p
        · rename_i i np el
          split at p
          · rename_i hn
            obtain ⟨fd, ps, hC, hM, hB, hF⟩ := hm _ _ _ _ el
            refine (pe_methS (E := WE W) ho hC hM hF hr hB (passAt tk) ha hbase hfew hline hst hpl).run pins s σ H Q I ⟨A, δ, h, rs, rh, ?_⟩
            rw [eo]
            intro A1 v H1 l1 rh1 q1
            cases q1 with
            | @loc _ a ea =>
              obtain ⟨dx, ws, g, rk⟩ := rh1.get _ a _ ea e0
              refine ⟨a, dx, ws, rfl, g, rk.lookF.2 (Option.isNone_iff_eq_none.mp hn), A1, δ, h1, rs.mono l1, rh1, (Po.bind (Po.le l1 p)).imp fun vs H2 ⟨A2, ds, h2, l2, rh2, q2, p2⟩ => ?_⟩
              unfold callD at p2
              split at p2
              · rename_i hnp
                have rr : RDs L A2 H2 (.loc n :: ds) (.ref a :: vs) := .cons (.loc (l2.at ea)) q2
                exact ⟨by rw [← rr.length]; exact hnp, A2, _, h2, rh2, rr, Po.wish p2 fun c d H hw => hw⟩
              · exact p2.elim
          · exact p.elim
        · exact p.elim
      · exact p.elim
    · exact p.elim
theorem e_mth0 {m : Str} {o : Expr} {apos pos : Pos} {mo : ED} (hm : MthOk X L fn k mth) (hr : Room k X.A) (ne : ∃ c i np, mth.lookup (c, m) = some (i, np)) (tk : Takes X W) (ho : PE X o (tE L W mo))
    (hbase : attributeBase o m X.env (eval o X.env) = eval o X.env) (hline : (apos.endLine == pos.line) = true) :
    PE X (.Call (.Attribute o m apos) [] [] pos) (tE L W (eMth mth fn m mo aNil)) := by
  refine ⟨fun pins s σ H Q I ⟨A, δ, h, rs, rh, p⟩ => ?_⟩
  unfold eMth at p
  cases eo : mo δ h with
  | no => rw [eo] at p; exact p.elim
  | ex c fs h1 =>
    rw [eo] at p
    obtain ⟨c0, i0, np0, e0⟩ := ne
    obtain ⟨fd, ps, hC, hM, hB, hF⟩ := hm _ _ _ _ e0
    exact (pe_methS0 (E := WE W) ho hC hM hF hr hB (passAt tk) hbase hline).run pins s σ H Q I ⟨A, δ, h, rs, rh, by rw [eo]; exact p⟩
  | ok d h1 =>
    rw [eo] at p
    replace p : Po L W σ A H (RD L) (mthD mth fn m aNil δ d h1) Q := p
    unfold mthD at p
    split at p
    · rename_i n
      split at p
      · rename_i c fs e0
        split at p
        · rename_i i np el
          split at p
          · rename_i hn
            obtain ⟨fd, ps, hC, hM, hB, hF⟩ := hm _ _ _ _ el
            refine (pe_methS0 (E := WE W) ho hC hM hF hr hB (passAt tk) hbase hline).run pins s σ H Q I ⟨A, δ, h, rs, rh, ?_⟩
            rw [eo]
            intro A1 v H1 l1 rh1 q1
            cases q1 with
            | @loc _ a ea =>
              obtain ⟨dx, ws, g, rk⟩ := rh1.get _ a _ ea e0
              refine ⟨a, dx, ws, rfl, g, rk.lookF.2 (Option.isNone_iff_eq_none.mp hn), ?_⟩
              have p2 : Po L W σ A1 H1 (RD L) (callD np (fn i) [.loc n] h1) Q := Po.le l1 p
              unfold callD at p2
              split at p2
              · rename_i hnp
                have rr : RDs L A1 H1 [.loc n] [.ref a] := .cons (.loc ea) .nil
                exact ⟨by rw [← rr.length]; exact hnp, A1, _, h1, rh1, rr, Po.wish p2 fun c d H hw => hw⟩
              · exact p2.elim
          · exact p.elim
        · exact p.elim
      · exact p.elim
    · exact p.elim
theorem mk_read {c i np : Nat} {ds : List D} {vs : List V} {h1 : AH} {A1 : List Addr} {H1 : Hp} {σ : L2.St} {Q : VK} (rh1 : RH L A1 h1 H1) (q : RDs L A1 H1 ds vs)
    (p1 : Po L W σ A1 H1 (RD L) ((callD np (fn i) (.loc h1.length :: ds) (h1 ++ [.ins c []])).bind fun r h2 => match r with
      | .non => .ok (.loc h1.length) h2
      | _ => .no) Q) (x dx : Addr) (nx : H1 x = none) (ndx : H1 dx = none) (nex : dx ≠ x) :
    spOf L np (fn i) (.ref x :: vs) (upd (upd H1 dx (.own x)) x (.ins (L.cA c) dx [])) (fun v H2 => v = .non ∧ Q (.ref x) H2) (WE W σ) := by
  have l1 : Le A1 H1 A1 (upd H1 dx (.own x)) := Le.new ndx
  have nx' : (upd H1 dx (.own x)) x = none := by rw [upd_ne (Ne.symm nex)]; exact nx
  have l2 : Le A1 (upd H1 dx (.own x)) (A1 ++ [x]) (upd (upd H1 dx (.own x)) x (.ins (L.cA c) dx [])) := Le.newA nx'
  have l := l1.trans l2
  have rh2 : RH L (A1 ++ [x]) (h1 ++ [.ins c []]) (upd (upd H1 dx (.own x)) x (.ins (L.cA c) dx [])) := (rh1.newI ndx).newO nx' ⟨dx, [], upd_same, .nil⟩
  have ex : (A1 ++ [x])[h1.length]? = some x := by rw [← rh1.len]; simp
  have rr : RDs L (A1 ++ [x]) (upd (upd H1 dx (.own x)) x (.ins (L.cA c) dx [])) (.loc h1.length :: ds) (.ref x :: vs) := .cons (.loc ex) (RDs.mono l _ _ q)
  unfold callD at p1
  split at p1
  · rename_i hnp
    refine ⟨by rw [← rr.length]; exact hnp, A1 ++ [x], _, _, rh2, rr, ?_⟩
    have p2 := Po.le l p1
    refine Po.wish ((Po.bind p2).imp fun v H2 ⟨A2, r, h2, l3, rh3, q3, p3⟩ => ?_) fun c d H hw => hw
    split at p3
    · cases q3
      exact ⟨rfl, Po.ok p3 rh3 (.loc (l3.at ex))⟩
    · exact p3.elim
  · exact p1.elim
theorem e_mk {c i np : Nat} {f : Addr} {fd : FuncData} {ps : List Str} {x : Str} {ma : AD} {e : Expr} {es : List Expr} {p pos : Pos} (M : Mk X.K (L.cA c) f) (G : FnOk X.prog X.w X.K X.mg X.base (L2.CX X.prog X.w) k f fd ps (spOf L np (fn i))) (hr : Room (k + 1) X.A) (hg : Gl X x) (hm : X.mg x = some (.ref (L.cA c))) (hb : Binds X.K fd ps [])
    (tk : Takes X W) (ha : PA X (e :: es) (tAr L W ma)) (hdb : (x == ("__debug__" : Str)) = false) (he : starEach (e :: es) X.env = (false, eval e X.env) :: starEach es X.env) (hpl : (backTo pos (starEach es X.env)).any (·.1) = false) :
    PE X (.Call (.Name x p) (e :: es) [] pos) (tE L W (eMk c i np fn ma)) := by
  refine PE.weak (pe_makeS (E := WE W) M G hr hg hm hb (passAt tk) ha hdb he hpl) fun σ H Q ⟨A, δ, h, rs, rh, p⟩ => ?_
  refine ⟨A, δ, h, rs, rh, (Po.bind p).imp fun vs H1 ⟨A1, ds, h1, l, rh1, q, p1⟩ => fun x dx nx ndx nex => mk_read rh1 q p1 x dx nx ndx nex⟩
theorem e_mk0 {c i np : Nat} {f : Addr} {fd : FuncData} {ps : List Str} {x : Str} {p pos : Pos} (M : Mk X.K (L.cA c) f) (G : FnOk X.prog X.w X.K X.mg X.base (L2.CX X.prog X.w) k f fd ps (spOf L np (fn i))) (hr : Room (k + 1) X.A) (hg : Gl X x) (hm : X.mg x = some (.ref (L.cA c))) (hb : Binds X.K fd ps [])
    (tk : Takes X W) (hdb : (x == ("__debug__" : Str)) = false) :
    PE X (.Call (.Name x p) [] [] pos) (tE L W (eMk c i np fn aNil)) := by
  refine PE.weak (pe_makeS0 (E := WE W) M G hr hg hm hb (passAt tk) hdb) fun σ H Q ⟨A, δ, h, rs, rh, p⟩ => ?_
  exact fun x dx nx ndx nex => mk_read rh .nil (by exact p) x dx nx ndx nex
end
end Cod

/-! several fields stored at once: o.f, o.g, .. = a, b, .. (four and more) -/
open PySem L2
namespace Cod
section
variable {X : Cx} {o : Expr} {f : Str} {pos : Pos} {ta : TE}
noncomputable def gFld (K : PySem.W.Frag) (ta : TE) (f : Str) : TG := fun y σ H Q => ta σ H fun x H2 => ∃ a C dx fs, x = .ref a ∧ H2 a = some (.ins C dx fs) ∧ Cls K C ∧ NoAttr K C f ∧ fs.length < 1000 ∧ Q σ (upd H2 a (.ins C dx (putF f y fs)))
theorem pg_fld (ho : PE X o ta) : PG X (.Attribute o f pos) (gFld X.K ta f) := by
  refine ⟨fun pins s σ H v u Q I r h => ?_⟩
  rw [assign_Attribute]
  refine wpAny_bind (wpAny_holding (thn (ho.run pins s σ H _ I h) fun ov s1 ⟨x, H1, I1, r1, a, C, dx, fs, ex, ea, c, n, l, q⟩ => ?_))
  subst ex
  obtain rfl : ov = Value.ref a := r1
  refine wpAny_bind (wpAny_standAt (wpAny_bind (wpAny_holding (setattr_ok I1 ea c n l r fun s3 I3 => ?_))))
  exact wpAny_release ⟨σ, _, I3, q⟩
end
noncomputable def putFs (cls : List (Nat × List Str)) : List (Str × Nat) → List D → Sl → AH → Option AH
  | [], [], _, h => some h
  | (f, i) :: r, v :: vs, δ, h => match δ[i]? with
    | some (some d) => match setFI cls f v d h with
      | some h2 => putFs cls r vs δ h2
      | none => none
    | _ => none
  | _, _, _, _ => none
noncomputable def sFlds (cls : List (Nat × List Str)) (ts : List (Str × Nat)) (m : ED) : SD := fun δ h => (m δ h).thn δ fun d h1 => match d with
  | .tup ds => match putFs cls ts ds δ h1 with
    | some h2 => .nx δ h2
    | none => .no
  | _ => .no
section
variable {X : Cx} {L : Lk} {W : WX}
noncomputable def tFs (L : Lk) (cls : List (Nat × List Str)) (ts : List (Str × Nat)) : TGs := fun us σ H Q => ∃ A δ h ds, RS L A H δ σ ∧ RH L A h H ∧ RDs L A H ds us ∧ match putFs cls ts ds δ h with
  | some h' => ∀ A' H', RH L A' h' H' → Le A H A' H' → Q σ H'
  | none => False
theorem fs_nil {cls : List (Nat × List Str)} : PGs X [] (tFs L cls []) := by
  refine PGs.weak pgs_nil fun us σ H Q ⟨A, δ, h, ds, rs, rh, q, p⟩ => ?_
  cases q with
  | nil => exact ⟨rfl, p A H rh (Le.refl _ _)⟩
  | cons _ _ => exact p.elim
theorem fs_cons {cls : List (Nat × List Str)} {f x : Str} {i : Nat} {es : List Expr} {ts : List (Str × Nat)} {px pa : Pos} (hc : ClsOk X.K L cls) (h1 : PE X (.Name x px) (tE L W (eVar i))) (h2 : PGs X es (tFs L cls ts))
    (hs : (assignEach (.Attribute (.Name x px) f pa :: es) X.env).map (·.2) = assign (.Attribute (.Name x px) f pa) X.env :: (assignEach es X.env).map (·.2)) : PGs X (.Attribute (.Name x px) f pa :: es) (tFs L cls ((f, i) :: ts)) := by
  refine PGs.weak (pgs_cons (pg_fld h1) h2 hs) fun us σ H Q ⟨A, δ, h, ds, rs, rh, q, p⟩ => ?_
  cases q with
  | nil => exact p.elim
  | @cons d v ds vs r1 r2 =>
    refine ⟨v, vs, rfl, A, δ, h, rs, rh, ?_⟩
    simp only [putFs] at p
    cases e1 : δ[i]? with
    | none => rw [e1] at p; exact p.elim
    | some o1 =>
      rw [e1] at p
      cases o1 with
      | none => exact p.elim
      | some d0 =>
        dsimp only at p
        unfold eVar
        rw [e1]
        intro A1 w H1 l1 rh1 rw1
        cases e2 : setFI cls f d d0 h with
        | none => rw [e2] at p; exact p.elim
        | some h2 =>
          simp only [e2] at p
          cases e3 : putFs cls ts ds δ h2 with
          | none => rw [e3] at p; exact p.elim
          | some h3 =>
          simp only [e3] at p
          unfold setFI at e2
          split at e2
          · cases rw1 with
            | @loc n a ea =>
              split at e2
              · rename_i c fs e0
                obtain ⟨dx, ws, g, rk⟩ := rh1.get _ a _ ea e0
                split at e2
                · rename_i hl
                  cases e2
                  have mu : mutH (H1 a) := by rw [g]; trivial
                  refine ⟨a, _, dx, ws, rfl, g, (hc c f hl.1).1, (hc c f hl.1).2, by rw [← rk.length]; exact hl.2, ?_⟩
                  have l2 : Le A H A1 (upd H1 a (.ins (L.cA c) dx (putF f v ws))) := l1.trans (Le.put mu)
                  refine ⟨A1, δ, _, ds, rs.mono l2, rh1.put (o := .ins c (putFD f d fs)) ea e0 rfl mu ⟨dx, _, upd_same, RKs.mono (Le.put mu) (rk.putF (RD.mono l1 _ _ r1))⟩, RDs.mono l2 _ _ r2, ?_⟩
                  rw [e3]
                  exact fun A2 H2 rh2 l3 => p A2 H2 rh2 (l2.trans l3)
                · cases e2
              · cases e2
          · cases e2
theorem flds_of {cls : List (Nat × List Str)} {es vs : List Expr} {k k2 : Nat} {ts : List (Str × Nat)} {p1 p2 pos : Pos} {m : ED} (hK : X.K = L.K) (hc : X.calm = true) (h : PGs X es (tFs L cls ts)) (he : PE X (.Tuple vs k2 p2) (tE L W m))
    (hn : (assignEach es X.env).length = ts.length) (hst : (assignEach es X.env).findIdx? (·.1) = none) (h4 : swappedStores [.Tuple es k p1] (.Tuple vs k2 p2) X.env = pure none) :
    PS X (.Assign [.Tuple es k p1] (.Tuple vs k2 p2) pos) (tS L W (sFlds cls ts m)) := by
  refine PS.weak (ps_asg he (pg_tup hc h hn hst) rfl h4 rfl) fun E σ H ⟨A, δ, h, rs, rh, p⟩ => ⟨A, δ, h, rs, rh, (PoS.thn rs p).imp fun v H1 ⟨A1, d, h1, l, rh1, q, p1⟩ => ?_⟩
  cases q with
  | @tup a xs us hs hr =>
    dsimp only at p1
    have hl : xs.length = ts.length := by
      have : ∀ (ts : List (Str × Nat)) (xs : List D) (h : AH), (putFs cls ts xs δ h).isSome = true → xs.length = ts.length := by
        intro ts
        induction ts with
        | nil => intro xs h hh; cases xs with
          | nil => rfl
          | cons _ _ => simp [putFs] at hh
        | cons t ts ih => intro xs h hh; cases xs with
          | nil => simp [putFs] at hh
          | cons x xs =>
            simp only [putFs] at hh
            split at hh
            · split at hh
              · simp [ih _ _ hh]
              · cases hh
            · cases hh
      refine this ts xs h1 ?_
      cases e : putFs cls ts xs δ h1 with
      | none => rw [e] at p1; exact p1.elim
      | some _ => rfl
    refine ⟨a, us, rfl, by rw [hK]; exact hs, by rw [← hr.length]; exact hl, A1, δ, h1, xs, rs.mono l, rh1, hr, ?_⟩
    cases e : putFs cls ts xs δ h1 with
    | none => rw [e] at p1; exact p1.elim
    | some h2 =>
      simp only [e] at p1
      exact fun A2 H2 rh2 l2 => p1 A2 _ H2 l2 (rs.mono (l.trans l2)) rh2
  | _ => exact p1.elim
end
end Cod

/-! # try .. except C as e -/
namespace Cod
open PySem L2 PySem.Spec PyProof.Rows
noncomputable abbrev Lk.wx (L : Lk) (z : Option (Addr × Nat × Option Addr)) : Lk := { L with xn := z }
section
variable {L : Lk} {A : List Addr} {H : Hp}
mutual
theorem RD.wx (z : Option (Addr × Nat × Option Addr)) : ∀ (d : D) (v : V), RD L A H d v → RD (L.wx z) A H d v
  | .non, _, h => by cases h; exact .non
  | .bl _, _, h => by cases h; exact .bl _
  | .int _, _, h => by cases h; exact .int _
  | .str _, _, h => by cases h; exact .str _
  | .ty _, _, h => by cases h; exact .ty _
  | .fn i, _, h => by cases h; exact RD.fn (L := L.wx z) i
  | .cl i, _, h => by cases h; exact RD.cl (L := L.wx z) i
  | .loc _, _, h => by cases h with | loc e => exact .loc e
  | .tup xs, _, h => by cases h with | tup e q => exact RD.tup (L := L.wx z) e (RDs.wx z xs _ q)
  | .kd ks xs, _, h => by cases h with | kd e q => exact RD.kd (L := L.wx z) e (RDs.wx z xs _ q)
theorem RDs.wx (z : Option (Addr × Nat × Option Addr)) : ∀ (ds : List D) (vs : List V), RDs L A H ds vs → RDs (L.wx z) A H ds vs
  | [], _, h => by cases h; exact .nil
  | d :: ds, _, h => by cases h with | cons p q => exact .cons (RD.wx z d _ p) (RDs.wx z ds _ q)
end
theorem RKs.wx {κ : Type} (z : Option (Addr × Nat × Option Addr)) : ∀ {ds : List (κ × D)} {vs : List (κ × V)}, RKs L A H ds vs → RKs (L.wx z) A H ds vs
  | _, _, .nil => .nil
  | _, _, .cons p q => .cons (RD.wx z _ _ p) (RKs.wx z q)
theorem RX.wx (z : Option (Addr × Nat × Option Addr)) {fs : List (Str × D)} {d : Option Addr} (h : RX L A H fs d) : RX (L.wx z) A H fs d := by
  cases d with
  | none => exact h
  | some a => obtain ⟨ws, e, r⟩ := h; exact ⟨ws, e, RKs.wx z r⟩
theorem RS.wx (z : Option (Addr × Nat × Option Addr)) {δ : Sl} {σ : L2.St} (r : RS L A H δ σ) : RS (L.wx z) A H δ σ :=
  ⟨r.len, fun i d e => let ⟨v, e1, q⟩ := r.get i d e; ⟨v, e1, RD.wx z _ _ q⟩⟩
/-- what stood ahead of the suite -/
theorem RO.inX (hx : L.xn = none) (z : Option (Addr × Nat × Option Addr)) {a : Addr} {o : O} (h : RO L A H a o) : RO (L.wx z) A H a o := by
  cases o with
  | lst xs => obtain ⟨vs, q, r⟩ := h; exact ⟨vs, q, RDs.wx z _ _ r⟩
  | frz xs => obtain ⟨vs, q, r⟩ := h; exact ⟨vs, q, RDs.wx z _ _ r⟩
  | dct xs => obtain ⟨vs, q, r⟩ := h; exact ⟨vs, q, RKs.wx z r⟩
  | lck xs => obtain ⟨vs, q, r⟩ := h; exact ⟨vs, q, RKs.wx z r⟩
  | ins c xs => obtain ⟨dx, vs, q, r⟩ := h; exact ⟨dx, vs, q, RKs.wx z r⟩
  | exn c fs => obtain ⟨d, q, r⟩ := h; rw [hx] at q; cases q
  | ded => trivial
theorem Kfz.inX (hx : L.xn = none) (z : Option (Addr × Nat × Option Addr)) {a : Addr} {o : O} (h : Kfz L A H a o) : Kfz (L.wx z) A H a o := by
  rcases h with ⟨xs, vs, e, k, r⟩ | ⟨c, fs, d, e, k, r⟩ | e
  · exact .inl ⟨xs, vs, e, k, RDs.wx z _ _ r⟩
  · rw [hx] at k; cases k
  · exact .inr (.inr e)
noncomputable def killO : O → O
  | .exn _ _ => .ded
  | o => o
noncomputable def killX (h : AH) : AH := h.map killO
theorem RO.outX {z : Option (Addr × Nat × Option Addr)} {a : Addr} {o : O} (h : RO L A H a o) : RO (L.wx z) A H a (killO o) := by
  cases o with
  | lst xs => obtain ⟨vs, q, r⟩ := h; exact ⟨vs, q, RDs.wx z _ _ r⟩
  | frz xs => obtain ⟨vs, q, r⟩ := h; exact ⟨vs, q, RDs.wx z _ _ r⟩
  | dct xs => obtain ⟨vs, q, r⟩ := h; exact ⟨vs, q, RKs.wx z r⟩
  | lck xs => obtain ⟨vs, q, r⟩ := h; exact ⟨vs, q, RKs.wx z r⟩
  | ins c xs => obtain ⟨dx, vs, q, r⟩ := h; exact ⟨dx, vs, q, RKs.wx z r⟩
  | exn c fs => trivial
  | ded => trivial
theorem Kfz.outX {z : Option (Addr × Nat × Option Addr)} {a : Addr} {o : O} (h : Kfz L A H a o) : Kfz (L.wx z) A H a (killO o) := by
  rcases h with ⟨xs, vs, rfl, k, r⟩ | ⟨c, fs, d, rfl, k, r⟩ | rfl
  · exact .inl ⟨xs, vs, rfl, k, RDs.wx z _ _ r⟩
  · exact .inr (.inr rfl)
  · exact .inr (.inr rfl)
theorem RH.outX {z : Option (Addr × Nat × Option Addr)} {h : AH} (r : RH L A h H) : RH (L.wx z) A (killX h) H := by
  have at_ : ∀ {n : Nat} {o : O}, (killX h)[n]? = some o → ∃ u, h[n]? = some u ∧ o = killO u := fun {n o} e => by
    unfold killX at e
    rw [List.getElem?_map, Option.map_eq_some_iff] at e
    obtain ⟨u, e1, e2⟩ := e
    exact ⟨u, e1, e2.symm⟩
  refine ⟨by unfold killX; rw [List.length_map]; exact r.len, fun m n a o u e1 e2 e3 e4 => ?_, fun n a o e1 e2 => ?_, r.tab⟩
  · obtain ⟨o', f3, rfl⟩ := at_ e3
    obtain ⟨u', f4, rfl⟩ := at_ e4
    exact (r.ap m n a o' u' e1 e2 f3 f4).imp id (Or.imp Kfz.outX Kfz.outX)
  · obtain ⟨o', f2, rfl⟩ := at_ e2
    exact RO.outX (r.get n a o' e1 f2)
theorem RH.inX {h : AH} {a : Addr} {c : Nat} {d : Option Addr} {fs : List (Str × D)} (hx : L.xn = none) (r : RH L A h H) (rx : RX L A H fs d) (l : Le A H (A ++ [a]) H) : RH (L.wx (some (a, c, d))) (A ++ [a]) (h ++ [.exn c fs]) H := by
  have old : ∀ {n : Nat} {b : Addr} {w : O}, (A ++ [a])[n]? = some b → (h ++ [O.exn c fs])[n]? = some w → (A[n]? = some b ∧ h[n]? = some w) ∨ (n = A.length ∧ b = a ∧ w = .exn c fs) := fun {n b w} e e' => by
    by_cases hn : n < A.length
    · rw [List.getElem?_append_left hn] at e
      rw [List.getElem?_append_left (by rw [← r.len]; exact hn)] at e'
      exact .inl ⟨e, e'⟩
    · have hn' : n = A.length := by
        have := (List.getElem?_eq_some_iff.mp e).1
        rw [List.length_append] at this
        simp at this
        omega
      subst hn'
      rw [List.getElem?_append_right (Nat.le_refl _), Nat.sub_self] at e
      rw [List.getElem?_append_right (by rw [← r.len]; exact Nat.le_refl _), ← r.len, Nat.sub_self] at e'
      cases e
      cases e'
      exact .inr ⟨rfl, rfl, rfl⟩
  have kx : Kfz (L.wx (some (a, c, d))) (A ++ [a]) H a (.exn c fs) := .inr (.inl ⟨c, fs, d, rfl, rfl, RX.wx _ (RX.mono l rx)⟩)
  refine ⟨by rw [List.length_append, List.length_append, r.len]; rfl, fun m n b o u e1 e2 e3 e4 => ?_, fun n b o e1 e2 => ?_, r.tab⟩
  · rcases old e1 e3 with ⟨f1, f3⟩ | ⟨f1, f2, f3⟩
    · rcases old e2 e4 with ⟨g1, g3⟩ | ⟨g1, g2, g3⟩
      · exact (r.ap m n b o u f1 g1 f3 g3).imp id (Or.imp (fun k => (Kfz.mono l k).inX hx _) fun k => (Kfz.mono l k).inX hx _)
      · subst g2 g3; exact .inr (.inr kx)
    · subst f2 f3; exact .inr (.inl kx)
  · rcases old e1 e2 with ⟨f1, f2⟩ | ⟨f1, f2, f3⟩
    · exact ((r.get n b o f1 f2).mono l rfl).inX hx _
    · subst f2 f3; exact ⟨d, rfl, RX.wx _ (RX.mono l rx)⟩
end
/-! ### what leaves the heap as it is -/
noncomputable def keepR {α : Type} (h : AH) : R α → Prop
  | .ok _ h1 => h1 = h
  | _ => True
noncomputable def keepT (h : AH) : RT → Prop
  | .nx _ h1 => h1 = h
  | .rt _ h1 => h1 = h
  | .bk _ h1 => h1 = h
  | .ct _ h1 => h1 = h
  | _ => True
theorem keep_bind {α β : Type} {h : AH} {r : R α} {f : α → AH → R β} (k : keepR h r) (g : ∀ a, keepR h (f a h)) : keepR h (r.bind f) := by
  cases r with
  | ok a h1 => have : h1 = h := k; subst this; exact g a
  | ex c fs h1 => trivial
  | no => trivial
theorem keep_thn {α : Type} {h : AH} {r : R α} {δ : Sl} {f : α → AH → RT} (k : keepR h r) (g : ∀ a, keepT h (f a h)) : keepT h (r.thn δ f) := by
  cases r with
  | ok a h1 => have : h1 = h := k; subst this; exact g a
  | ex c fs h1 => trivial
  | no => trivial
theorem keep_var {i : Nat} {δ : Sl} {h : AH} : keepR h (eVar i δ h) := by unfold eVar; split <;> trivial
theorem keep_okO {α : Type} {o : Option α} {h : AH} : keepR h (okO o h) := by unfold okO; split <;> trivial
theorem keep_not {d : D} {h : AH} : keepR h (notD d h) := by unfold notD; split <;> trivial
theorem keep_tup {xs : List D} {h : AH} : keepR h (mkTup xs h) := by unfold mkTup; split <;> trivial
theorem keep_tru {d : D} {h : AH} : keepR h (truD d h) := by unfold truD; repeat (first | trivial | split)
theorem keep_and {a b : ED} {δ : Sl} {h : AH} (ka : keepR h (a δ h)) (kb : keepR h (b δ h)) : keepR h (eAnd a b δ h) := keep_bind ka fun x => by
  split
  · exact kb
  · trivial
  · trivial
theorem keep_or {a b : ED} {δ : Sl} {h : AH} (ka : keepR h (a δ h)) (kb : keepR h (b δ h)) : keepR h (eOr a b δ h) := keep_bind ka fun x => by
  split
  · trivial
  · exact kb
  · trivial
theorem keep_bAnd {a b : BD} {δ : Sl} {h : AH} (ka : keepR h (a δ h)) (kb : keepR h (b δ h)) : keepR h (bAnd a b δ h) := keep_bind ka fun x => by
  split
  · exact kb
  · trivial
theorem keep_bOr {a b : BD} {δ : Sl} {h : AH} (ka : keepR h (a δ h)) (kb : keepR h (b δ h)) : keepR h (bOr a b δ h) := keep_bind ka fun x => by
  split
  · trivial
  · exact kb
theorem keep_seq {m n : SD} {δ : Sl} {h : AH} (km : keepT h (m δ h)) (kn : ∀ δ, keepT h (n δ h)) : keepT h (sSeq m n δ h) := by
  unfold sSeq RT.thn
  split
  · rename_i δ1 h1 e
    rw [e] at km
    have : h1 = h := km
    subst this
    exact kn δ1
  · exact km
theorem RH.noX {L : Lk} {A : List Addr} {H : Hp} {h : AH} (r : RH L A h H) (hx : L.xn = none) : killX h = h := by
  unfold killX
  have : ∀ o ∈ h, killO o = o := fun o ho => by
    obtain ⟨n, hn⟩ := List.mem_iff_getElem?.mp ho
    obtain ⟨a, ea, ro⟩ := r.addr hn
    cases o with
    | exn c fs => obtain ⟨d, q, _⟩ := ro; rw [hx] at q; cases q
    | _ => rfl
  rw [List.map_congr_left this, List.map_id']
/-- behind the suite: the name is unset, the exception is gone -/
noncomputable def unX (i : Nat) (h : AH) : RT → RT
  | .nx δ _ => .nx (δ.set i none) (h ++ [.ded])
  | .rt d _ => .rt d (h ++ [.ded])
  | .bk δ _ => .bk (δ.set i none) (h ++ [.ded])
  | .ct δ _ => .ct (δ.set i none) (h ++ [.ded])
  | _ => .no
noncomputable def sTry (tab : List ((Nat × Nat) × Bool)) (xf : List (Nat × List Str)) (c i : Nat) (mb ms : SD) : SD := fun δ h => match mb δ h with
  | .ex c' fs δ' h' => match tab.lookup (c', c), xf.lookup c' with
    | some true, some _ => unX i h' (ms (δ'.set i (some (.loc h'.length))) (h' ++ [.exn c' fs]))
    | some false, _ => .ex c' fs δ' h'
    | _, _ => .no
  | r => r
/-- what a suite leans on -/
structure OkS (Γ : Gm) (X : Cx) (a : Addr) (oe : Obj) (pn : List (Addr × Obj)) (c : Nat) (d : Option Addr) (L : Lk) : Prop where
  hN : X.N = Γ.N
  nd : X.N.Nodup
  names : X.env.scope.names = Γ.names
  kind : X.env.scope.kind = .function
  hK : X.K = L.K
  top : ∀ x, Γ.top x = true → X.fn x = true
  gblt : ∀ x, x ∈ Γ.blt → X.mg x = none
  gexc : ∀ x c n fs, Γ.glb.lookup x = some (.exc c n fs) → X.mg x = some (.ref (L.cA c))
  xtab : XTab X.K L Γ.tab Γ.xf
  xn : L.xn = some (a, c, d)
  zc : Zc (.ref (L.cA c)) d oe
  dat : ∃ vs, oe.data = .fields vs
  cx : ∃ fs, Γ.xf.lookup c = some fs
structure HE (Γ : Gm) (e : Expr) where
  m : ED
  ok : ∀ {X : Cx} {a : Addr} {oe : Obj} {pn : List (Addr × Obj)} {c : Nat} {d : Option Addr} {L : Lk}, OkS Γ X a oe pn c d L → PE (X.suite a ((a, oe) :: pn)) e (tE L W0 m)
  hp : ∀ δ h, keepR h (m δ h)
structure HB (Γ : Gm) (e : Expr) where
  m : BD
  ok : ∀ {X : Cx} {a : Addr} {oe : Obj} {pn : List (Addr × Obj)} {c : Nat} {d : Option Addr} {L : Lk}, OkS Γ X a oe pn c d L → PT (X.suite a ((a, oe) :: pn)) e (tBo L W0 m)
  hp : ∀ δ h, keepR h (m δ h)
structure HW (Γ : Gm) (e : Expr) where
  m : BD
  ok : ∀ {X : Cx} {a : Addr} {oe : Obj} {pn : List (Addr × Obj)} {c : Nat} {d : Option Addr} {L : Lk}, OkS Γ X a oe pn c d L → PW (X.suite a ((a, oe) :: pn)) e (tBo L W0 m)
  hp : ∀ δ h, keepR h (m δ h)
structure HA (Γ : Gm) (es : List Expr) where
  m : AD
  ok : ∀ {X : Cx} {a : Addr} {oe : Obj} {pn : List (Addr × Obj)} {c : Nat} {d : Option Addr} {L : Lk}, OkS Γ X a oe pn c d L → PA (X.suite a ((a, oe) :: pn)) es (tAr L W0 m)
  hp : ∀ δ h, keepR h (m δ h)
  star : ∀ (env : Env) (p : Pos), (backTo p (starEach es env)).any (·.1) = false
structure HS (Γ : Gm) (s : Stmt) where
  m : SD
  ok : ∀ {X : Cx} {a : Addr} {oe : Obj} {pn : List (Addr × Obj)} {c : Nat} {d : Option Addr} {L : Lk}, OkS Γ X a oe pn c d L → PS (X.suite a ((a, oe) :: pn)) s (tS L W0 m)
  hp : ∀ δ h, keepT h (m δ h)
structure HSs (Γ : Gm) (s : List Stmt) where
  m : SD
  ok : ∀ {X : Cx} {a : Addr} {oe : Obj} {pn : List (Addr × Obj)} {c : Nat} {d : Option Addr} {L : Lk}, OkS Γ X a oe pn c d L → PSs (X.suite a ((a, oe) :: pn)) s (tS L W0 m)
  hp : ∀ δ h, keepT h (m δ h)
theorem s_try {Γ : Gm} {fn : Fn} {k : Nat} {X : Cx} {L : Lk} {W : WX} {x n : Str} {c i : Nat} {body suite : List Stmt} {b₀ : Stmt} {np pos pos' : Pos} {mb ms : SD} (O : Ok Γ fn k X L W) (hdf : Γ.df = true) (hi : X.N[i]? = some n) (hln : X.env.kindOf n = some .local) (hc : Gl X x) (hdb : (x == ("__debug__" : Str)) = false) (hm : X.mg x = some (.ref (L.cA c)))
    (hgx : ∀ x c n fs, Γ.glb.lookup x = some (.exc c n fs) → X.mg x = some (.ref (L.cA c)))
    (hb : ∀ {k : Nat} {X : Cx} {L : Lk} {W : WX}, Ok Γ fn k X L W → PSs X body (tS L W mb))
    (hs : ∀ {X : Cx} {a : Addr} {oe : Obj} {pn : List (Addr × Obj)} {c : Nat} {d : Option Addr} {L : Lk}, OkS Γ X a oe pn c d L → PSs (X.suite a ((a, oe) :: pn)) (b₀ :: suite) (tS L W0 ms)) (hp : ∀ δ h, keepT h (ms δ h)) :
    PS X (.Try body [.ExceptHandler (some (.Name x np)) (some n) (b₀ :: suite) pos'] [] [] pos) (tS L W (sTry Γ.tab Γ.xf c i mb ms)) := by
  refine PS.weak (ps_try_as (c := .ref (L.cA c)) (i := i) (tb := fun W => tS L W mb) (ts := fun a cls d D σ H => ∃ c', cls = .ref (L.cA c') ∧ (∃ fs, Γ.xf.lookup c' = some fs) ∧ tS (L.wx (some (a, c', d))) W0 ms D σ H) (O.stk hdf).1 (O.stk hdf).2.1 O.nd hi hln ⟨hc, hdb, .inl hm⟩ O.tk (fun W' pn xe tk own => hb (k := k) ⟨O.hN, O.nd, O.names, O.kind, O.calm, tk, own, O.room, O.hK, O.hw, O.top, O.gfn, O.gval, O.gblt, fun hg => (O.cod hg).blk (O.dfg hdf) rfl rfl rfl, O.gexc, O.xtab, O.xn, O.gtup, O.stk, O.gxm, O.dfg, O.gcls, O.gmth, O.gmk⟩) fun a oe cls d pn hz hd => ⟨fun pins s σ H D I => ?_⟩) ?_
  · rintro ⟨c', rfl, hcx, ht⟩
    exact (hs (L := L.wx (some (a, c', d))) (pn := pn) ⟨O.hN, O.nd, O.names, O.kind, O.hK, O.top, O.gblt, hgx, ⟨O.xtab.sub, O.xtab.ve⟩, rfl, hz, hd, hcx⟩).run pins s σ H D I ht
  · rintro D σ H ⟨A, δ, h, rs, rh, p⟩
    refine ⟨A, δ, h, rs, rh, ?_⟩
    unfold sTry at p
    cases e : mb δ h with
    | nx δ1 h1 => rw [e] at p; exact p
    | rt d1 h1 => rw [e] at p; exact p
    | bk δ1 h1 => rw [e] at p; exact p
    | ct δ1 h1 => rw [e] at p; exact p
    | no => rw [e] at p; exact p
    | ex c' fs δ1 h1 =>
      rw [e] at p
      intro A1 σ1 dd H1 l1 rs1 rh1 rx
      simp only at p
      split at p
      · rename_i fs' ht hx'
        refine ⟨true, (O.xtab.sub c' c true ht).1, fun _ a na => ⟨c', rfl, ⟨_, hx'⟩, ?_⟩, fun z => nomatch z⟩
        have l2 : Le A1 H1 (A1 ++ [a]) H1 := ⟨⟨[a], rfl⟩, fun _ _ h => h, fun _ _ _ h => h, fun _ _ h => h⟩
        have hat : (A1 ++ [a])[h1.length]? = some a := by rw [← rh1.len]; simp
        refine ⟨A1 ++ [a], δ1.set i (some (.loc h1.length)), h1 ++ [.exn c' fs], ((rs1.mono l2).wx _).set (.loc hat), rh1.inX O.xn rx.1 l2, ?_⟩
        have back : ∀ {z : Option (Addr × Nat × Option Addr)}, (L.wx z).wx none = L := fun {z} => by
          show ({ L with xn := none } : Lk) = L
          have := O.xn
          cases L
          simp only at this
          rw [this]
        have hh := hp (δ1.set i (some (.loc h1.length))) (h1 ++ [.exn c' fs])
        have hkx : killX (h1 ++ [.exn c' fs]) = h1 ++ [.ded] := by
          have := rh1.noX O.xn
          unfold killX at this ⊢
          rw [List.map_append, this]
          rfl
        cases es : ms (δ1.set i (some (.loc h1.length))) (h1 ++ [.exn c' fs]) with
        | nx δ2 h2 =>
          rw [es] at p hh
          obtain rfl : h2 = _ := hh
          intro A2 σ2 H2 l3 rs2 rh2
          have q1 := RS.unset (i := i) (rs2.wx none)
          have q2 := rh2.outX (z := none)
          rw [hkx] at q2
          rw [back] at q1 q2
          exact p A2 _ H2 ((l1.trans l2).trans l3) q1 q2
        | rt d2 h2 =>
          rw [es] at p hh
          obtain rfl : h2 = _ := hh
          intro A2 v H2 l3 rh2 rd2
          have q1 := RD.wx none _ _ rd2
          have q2 := rh2.outX (z := none)
          rw [hkx] at q2
          rw [back] at q1 q2
          exact p A2 v H2 ((l1.trans l2).trans l3) q2 q1
        | bk δ2 h2 =>
          rw [es] at p hh
          obtain rfl : h2 = _ := hh
          intro A2 σ2 H2 l3 rs2 rh2
          have q1 := RS.unset (i := i) (rs2.wx none)
          have q2 := rh2.outX (z := none)
          rw [hkx] at q2
          rw [back] at q1 q2
          exact p A2 _ H2 ((l1.trans l2).trans l3) q1 q2
        | ct δ2 h2 =>
          rw [es] at p hh
          obtain rfl : h2 = _ := hh
          intro A2 σ2 H2 l3 rs2 rh2
          have q1 := RS.unset (i := i) (rs2.wx none)
          have q2 := rh2.outX (z := none)
          rw [hkx] at q2
          rw [back] at q1 q2
          exact p A2 _ H2 ((l1.trans l2).trans l3) q1 q2
        | ex c2 fs2 δ2 h2 => rw [es] at p; exact p.elim
        | no => rw [es] at p; exact p.elim
      · rename_i ht
        exact ⟨false, (O.xtab.sub c' c false ht).1, fun (z : false = true) => (nomatch z), fun _ => p A1 σ1 dd H1 l1 rs1 rh1 rx⟩
      · exact p.elim
/-! ### expressions of a suite -/
noncomputable def rIsX (K : PySem.W.Frag) (D a : Addr) (d : Option Addr) : List V → Hp → VK → Prop := fun xs H Q => ∃ (c : V) (cv : Value) (b : Bool), xs = [.ref a, c] ∧ (∀ u, RelV c u → u = cv) ∧ PySem.W.kitOne K (.ref D) cv = some b ∧ (∀ dd, d = some dd → ∃ fs, H dd = some (.xd fs)) ∧ Q (.bl b) H
theorem call_isX {X : Cx} {a D : Addr} {oe : Obj} {d : Option Addr} {pn : List (Addr × Obj)} (C : ExcC X.K D) (hz : Zc (.ref D) d oe) (hf : ∃ vs, oe.data = .fields vs) : CallR (X.suite a ((a, oe) :: pn)) (.builtin "isinstance") (rIsX X.K D a d) := by
  intro pins s σ H xs us Q I r ⟨c, cv, b, ex, hcv, e, hd, q⟩
  subst ex
  cases r with
  | cons rx rr =>
    cases rr with
    | cons rt rr =>
      cases rr
      cases rx
      obtain rfl := hcv _ rt
      have hget := (I.pin (a, oe) (List.mem_append_left _ List.mem_cons_self)).1
      obtain ⟨vs, hv⟩ := hf
      have hno : PySem.W.notCls oe = true := by unfold PySem.W.notCls; rw [hv] <;> rfl
      have hcl : (PySem.W.clsIn X.K D).isSome = true := by
        have := C.hd
        unfold PySem.W.hasDictIn at this
        cases z : PySem.W.clsIn X.K D with
        | none => rw [z] at this; cases this
        | some _ => rfl
      have J : ∃ od, PySem.W.InstAt s.heap a oe D od := by
        cases d with
        | none => exact ⟨none, hget, hz.1, hno, by rw [hz.2]; trivial⟩
        | some dd =>
          obtain ⟨fs, hfs⟩ := hd dd rfl
          have hx : ObjOk X.prog X.w H s.heap dd (.xd fs) := I.hok dd _ hfs
          obtain ⟨mA, hns, _⟩ := hx
          obtain ⟨od, ho, _⟩ := lookIn_ns hns
          exact ⟨some od, hget, hz.1, hno, by rw [hz.2]; exact ho⟩
      obtain ⟨od, J⟩ := J
      exact PySem.W.kia_one (PySem.W.kitx_exc hcl C.hg C.hk C.hs C.ha C.hn C.ht C.hm) I.kIn J e (fun z => nomatch z) fun tk => ⟨.bl b, H, I.kept (t' := tk) fun _ _ z => z, rfl, q⟩
/-- e.f of the exception that is held -/
noncomputable def fldX (f : Str) (d : D) (h : AH) : R D := match d with
  | .loc n => match h[n]? with
    | some (.exn _ fs) => okO (fs.lookup f) h
    | _ => .no
  | _ => .no
noncomputable def isX (tab : List ((Nat × Nat) × Bool)) (ds : List D) (h : AH) : R D := match ds with
  | [.loc n, .cl c2] => match h[n]? with
    | some (.exn c _) => match tab.lookup (c, c2) with
      | some b => .ok (.bl b) h
      | none => .no
    | _ => .no
  | [.loc n, .ty t] => match h[n]? with
    | some (.exn _ _) => if t = "ValueError" then .ok (.bl true) h else .no
    | _ => .no
  | _ => .no
theorem keep_fldX {f : Str} {d : D} {h : AH} : keepR h (fldX f d h) := by
  unfold fldX
  split
  · split
    · exact keep_okO
    · trivial
  · trivial
theorem keep_isX {tab : List ((Nat × Nat) × Bool)} {ds : List D} {h : AH} : keepR h (isX tab ds h) := by
  unfold isX
  repeat (first | trivial | split)
theorem RKs.look {L : Lk} {A : List Addr} {H : Hp} {f : Str} : ∀ {fs : List (Str × D)} {ws : List (Str × V)} {d : D}, RKs L A H fs ws → fs.lookup f = some d → ∃ v, ws.lookup f = some v ∧ RD L A H d v
  | _, _, _, .nil, e => by cases e
  | _, _, _, .cons (k := k) p q, e => by
    rw [List.lookup_cons] at e ⊢
    split at e
    · cases e; exact ⟨_, rfl, p⟩
    · exact RKs.look q e
section
variable {Γ : Gm} {X : Cx} {a : Addr} {oe : Obj} {pn : List (Addr × Obj)} {c : Nat} {d : Option Addr} {L : Lk} {W : WX}
theorem OkS.at_ (O : OkS Γ X a oe pn c d L) {A : List Addr} {H : Hp} {h : AH} {n : Nat} {c' : Nat} {fs : List (Str × D)} {v : V} (rh : RH L A h H) (rd : RD L A H (.loc n) v) (e : h[n]? = some (.exn c' fs)) : v = .ref a ∧ c' = c ∧ RX L A H fs d := by
  cases rd with
  | loc ea =>
    obtain ⟨d', h1, h2⟩ := rh.get n _ _ ea e
    rw [O.xn] at h1
    cases h1
    exact ⟨rfl, rfl, h2⟩
theorem x_fld (O : OkS Γ X a oe pn c d L) {e : Expr} {me : ED} {f : Str} {pos : Pos} (hf : ∀ fs, Γ.xf.lookup c = some fs → f ∈ fs) (he : PE (X.suite a ((a, oe) :: pn)) e (tE L W me)) (hb : attributeBase e f X.env (eval e X.env) = eval e X.env) : PE (X.suite a ((a, oe) :: pn)) (.Attribute e f pos) (tE L W (e1 (fldX f) me)) := by
  obtain ⟨fs0, hfs0⟩ := O.cx
  obtain ⟨_, t2, _, t4⟩ := O.xtab.ve c fs0 hfs0
  refine PE.weak (pe_xf (C := L.cA c) t2 (t4 f (hf fs0 hfs0)) O.zc O.dat he hb) fun σ H Q ⟨A, δ, h, rs, rh, p⟩ => ⟨A, δ, h, rs, rh, (Po.bind p).imp fun v H1 ⟨A1, d1, h1, l, rh1, q, p1⟩ => ?_⟩
  unfold fldX at p1
  split at p1
  · rename_i n
    split at p1
    · rename_i c' fs e1
      obtain ⟨rfl, rfl, rx⟩ := O.at_ rh1 q e1
      obtain ⟨dz, ez, pz⟩ := okO_ok p1
      cases d with
      | none => have : fs = [] := rx; subst this; cases ez
      | some dd =>
        obtain ⟨ws, hw, rk⟩ := rx
        obtain ⟨v, ev, rv⟩ := RKs.look rk ez
        exact ⟨rfl, rfl, dd, ws, v, rfl, hw, ev, Po.ok pz rh1 rv⟩
    · exact p1.elim
  · exact p1.elim
theorem x_isi (O : OkS Γ X a oe pn c d L) {e e2 : Expr} {es : List Expr} {ma : AD} {p pos : Pos} (hg : Gl X "isinstance") (hm : X.mg "isinstance" = none) (ha : PA (X.suite a ((a, oe) :: pn)) (e :: es) (tAr L W ma)) (hst : starEach (e :: es) X.env = (false, eval e X.env) :: starEach es X.env) (hpl : (backTo pos (starEach es X.env)).any (·.1) = false) : PE (X.suite a ((a, oe) :: pn)) (.Call (.Name "isinstance" p) (e :: es) [] pos) (tE L W (eA (isX Γ.tab) ma)) := by
  obtain ⟨fs0, hfs0⟩ := O.cx
  obtain ⟨t1, _, t3, _⟩ := O.xtab.ve c fs0 hfs0
  refine PE.weak (pe_callB (X := X.suite a ((a, oe) :: pn)) (call_isX t3 O.zc O.dat) hg hm (by rfl) ha (by decide) (by decide) hst hpl) fun σ H Q ⟨A, δ, h, rs, rh, p⟩ => ⟨A, δ, h, rs, rh, (Po.bind p).imp fun vs H1 ⟨A1, ds, h1, l, rh1, q, p1⟩ => ?_⟩
  have hdx : ∀ {fs : List (Str × D)}, RX L A1 H1 fs d → ∀ dd, d = some dd → ∃ ws, H1 dd = some (.xd ws) := fun {fs} rx dd e => by
    subst e
    obtain ⟨ws, hw, _⟩ := rx
    exact ⟨ws, hw⟩
  unfold isX at p1
  split at p1
  · rename_i n c2
    cases q with
    | cons q1 q =>
      cases q with
      | cons q2 q =>
        cases q
        split at p1
        · rename_i c' fs e1
          obtain ⟨rfl, rfl, rx⟩ := O.at_ rh1 q1 e1
          split at p1
          · rename_i b hb
            cases q2
            exact ⟨_, .ref (L.cA c2), b, rfl, fun u hu => hu, (O.xtab.sub _ c2 b hb).2, hdx rx, Po.ok p1 rh1 (.bl _)⟩
          · exact p1.elim
        · exact p1.elim
  · rename_i n t
    cases q with
    | cons q1 q =>
      cases q with
      | cons q2 q =>
        cases q
        split at p1
        · rename_i c' fs e1
          obtain ⟨rfl, rfl, rx⟩ := O.at_ rh1 q1 e1
          split at p1
          · rename_i ht
            subst ht
            cases q2
            exact ⟨_, .type "ValueError", true, rfl, fun u hu => hu, t1, hdx rx, Po.ok p1 rh1 (.bl _)⟩
          · exact p1.elim
        · exact p1.elim
  · exact p1.elim
end
/-! ### the suite compiled -/
section
variable {Γ : Gm} {X : Cx} {a : Addr} {oe : Obj} {pn : List (Addr × Obj)} {c : Nat} {d : Option Addr} {L : Lk}
theorem OkS.vis (O : OkS Γ X a oe pn c d L) {x : Str} (h : isVis Γ x = true) : Vis X.env.scope x := by
  unfold isVis at h
  unfold Vis
  rw [O.names]
  split at h
  · exact .inl (by assumption)
  · exact .inr (.inl (by assumption))
  · exact .inr (.inr (by assumption))
  · cases h
theorem OkS.loc (O : OkS Γ X a oe pn c d L) {x : Str} (h : isLoc Γ x = true) : L2.Loc X.env.scope x ∧ (X.fn x = true ∨ X.env.scope.names.lookup x = some .local) := by
  unfold isLoc at h
  unfold L2.Loc
  rw [O.names]
  split at h
  · exact ⟨.inl (by assumption), .inr (by assumption)⟩
  · exact ⟨.inr (by assumption), .inl (O.top x h)⟩
  · cases h
theorem OkS.gl (O : OkS Γ X a oe pn c d L) {x : Str} (h : Γ.names.lookup x = some .globalImplicit) : Gl X x := by
  show X.env.scope.names.lookup x = _
  rw [O.names]
  exact h
end
theorem lkN {β : Type} : ∀ {l : List (Nat × β)} {c : Nat} {b : β}, l.lookup c = some b → (c, b) ∈ l
  | [], _, _, e => by cases e
  | (k, v) :: r, c, b, e => by
    rw [List.lookup_cons] at e
    split at e
    · rename_i h
      cases e
      have : c = k := by simpa using h
      rw [this]
      exact List.mem_cons_self
    · exact List.mem_cons_of_mem _ (lkN e)
theorem allX {xf : List (Nat × List Str)} {f : Str} (h : xf.all (fun p => decide (f ∈ p.2)) = true) {c : Nat} {fs : List Str} (e : xf.lookup c = some fs) : f ∈ fs := by
  rw [List.all_eq_true] at h
  exact of_decide_eq_true (h (c, fs) (lkN e))
noncomputable def gExc (Γ : Gm) (x : Str) : Option { c : Nat // ∃ n fs, Γ.glb.lookup x = some (.exc c n fs) } := match h : Γ.glb.lookup x with
  | some (.exc c n fs) => some ⟨c, n, fs, rfl⟩
  | _ => none
mutual
noncomputable def hE : Nat → (Γ : Gm) → (e : Expr) → Option (HE Γ e)
  | 0, _, _ => none
  | n + 1, Γ, e => match e with
    | .Constant c j pos => match c with
      | .int i => some ⟨eC (.int i), fun _ => e_int, fun _ _ => rfl⟩
      | .bool i => some ⟨eC (.bl i), fun _ => e_bl, fun _ _ => rfl⟩
      | .str i => some ⟨eC (.str i), fun _ => e_str, fun _ _ => rfl⟩
      | .none => some ⟨eC .non, fun _ => e_non, fun _ _ => rfl⟩
      | _ => none
    | .Name x pos => if hp : plainName x = true then
        (if h : Γ.N[ixOf Γ.N x]? = some x ∧ isVis Γ x = true then some ⟨eVar (ixOf Γ.N x), fun O => e_var (by rw [show (Cx.suite _ _ _).N = _ from O.hN]; exact h.1) (O.vis h.2) (plain1 hp).1 (plain1 hp).2.1, fun _ _ => keep_var⟩
        else if hg : Γ.names.lookup x = some .globalImplicit then (match gExc Γ x with
          | some ⟨c2, hc2⟩ => some ⟨eC (.cl c2), fun {X a oe pn c d L} O => by
              obtain ⟨n2, fs2, hh⟩ := hc2
              exact e_glob (X := X.suite a ((a, oe) :: pn)) (v := .ref (L.cA c2)) (O.gl hg) (O.gexc x c2 n2 fs2 hh) rfl (fun _ _ => .cl c2) (plain1 hp).1, fun _ _ => rfl⟩
          | none => if hv : x = "ValueError" ∧ x ∈ Γ.blt then some ⟨eC (.ty "ValueError"), fun {X a oe pn c d L} O => by
              obtain ⟨rfl, hb⟩ := hv
              exact e_const (pe_bltn (X := X.suite a ((a, oe) :: pn)) (v := .ty "ValueError") (O.gl hg) (O.gblt _ hb) (show bootBuiltins "ValueError" = some (.type "ValueError") from rfl) rfl (by decide) (by decide)) fun _ _ => .ty "ValueError", fun _ _ => rfl⟩ else none)
        else none) else none
    | .Attribute (.Name y p) f pos => if h : Γ.xf.all (fun p => decide (f ∈ p.2)) = true then (match hE n Γ (.Name y p) with
      | some c => some ⟨e1 (fldX f) c.m, fun O => x_fld O (fun fs e => allX h e) (c.ok O) rfl, fun δ h => keep_bind (c.hp δ h) fun x => keep_fldX⟩
      | none => none) else none
    | .Call (.Name x p) (e :: es) [] pos => if h : x = "isinstance" ∧ Γ.names.lookup x = some .globalImplicit ∧ x ∈ Γ.blt ∧ noStar e = true then (match hE n Γ e, hA n Γ es with
      | some ce, some ces => some ⟨eA (isX Γ.tab) (aCons ce.m ces.m), fun O => by
          obtain ⟨rfl, hg, hb, hs⟩ := h
          exact x_isi (e2 := e) O (O.gl hg) (O.gblt _ hb) (a_cons (ce.ok O) (ces.ok O) (star_ok hs)) (star_ok hs) (ces.star _ _), fun δ h => keep_bind (keep_bind (ce.hp δ h) fun x => keep_bind (ces.hp δ h) fun xs => rfl) fun xs => keep_isX⟩
      | _, _ => none) else none
    | .UnaryOp .Not a pos => match hE n Γ a with
      | some ca => some ⟨e1 notD ca.m, fun O => e_not (ca.ok O), fun δ h => keep_bind (ca.hp δ h) fun x => keep_not⟩
      | none => none
    | .BoolOp op es pos => hBo n Γ op es pos
    | .Tuple es kk pos => match hA n Γ es with
      | some c => some ⟨eA mkTup c.m, fun O => e_tup (c.ok O), fun δ h => keep_bind (c.hp δ h) fun x => keep_tup⟩
      | none => none
    | _ => none
noncomputable def hBo : Nat → (Γ : Gm) → (op : BoolOp) → (es : List Expr) → (pos : Pos) → Option (HE Γ (.BoolOp op es pos))
  | 0, _, _, _, _ => none
  | n + 1, Γ, op, es, pos => match es with
    | [a] => match hE n Γ a with
      | some ca => some ⟨ca.m, fun O => e_one (ca.ok O), ca.hp⟩
      | none => none
    | a :: b :: r => match hE n Γ a, hBo n Γ op (b :: r) pos with
      | some ca, some cr => (match op, cr with
        | .And, cr => some ⟨eAnd ca.m cr.m, fun O => e_and (ca.ok O) (cr.ok O), fun δ h => keep_and (ca.hp δ h) (cr.hp δ h)⟩
        | .Or, cr => some ⟨eOr ca.m cr.m, fun O => e_or (ca.ok O) (cr.ok O), fun δ h => keep_or (ca.hp δ h) (cr.hp δ h)⟩)
      | _, _ => none
    | [] => none
noncomputable def hA : Nat → (Γ : Gm) → (es : List Expr) → Option (HA Γ es)
  | 0, _, _ => none
  | n + 1, Γ, es => match es with
    | [] => some ⟨aNil, fun _ => a_nil, fun _ _ => rfl, fun _ _ => rfl⟩
    | e :: es => if hs : noStar e = true then (match hE n Γ e, hA n Γ es with
      | some c, some cs => some ⟨aCons c.m cs.m, fun O => a_cons (c.ok O) (cs.ok O) (star_ok hs), fun δ h => keep_bind (c.hp δ h) fun x => keep_bind (cs.hp δ h) fun xs => rfl, fun env p => by
          rw [star_ok hs]
          show (false || (backTo p (starEach es env)).any (·.1)) = false
          rw [cs.star env p]
          rfl⟩
      | _, _ => none) else none
end
mutual
noncomputable def hB : Nat → (Γ : Gm) → (e : Expr) → Option (HB Γ e)
  | 0, _, _ => none
  | n + 1, Γ, e => match e with
    | .UnaryOp .Not a pos => match hB n Γ a with
      | some ca => some ⟨bNot ca.m, fun O => b_not (ca.ok O), fun δ h => keep_bind (ca.hp δ h) fun x => rfl⟩
      | none => none
    | .BoolOp op es pos => match hW n Γ op es pos with
      | some c => some ⟨c.m, fun O => (c.ok O).pt, c.hp⟩
      | none => none
    | e => if hp : plainT e = true then (match hE n Γ e with
      | some c => some ⟨bTru c.m, fun {X a oe pn cc d L} O => b_tru (X := X.suite a ((a, oe) :: pn)) O.hK (c.ok O) (plainT_ok hp), fun δ h => keep_bind (c.hp δ h) fun x => keep_tru⟩
      | none => none) else none
noncomputable def hW : Nat → (Γ : Gm) → (op : BoolOp) → (es : List Expr) → (pos : Pos) → Option (HW Γ (.BoolOp op es pos))
  | 0, _, _, _, _ => none
  | n + 1, Γ, op, es, pos => match es with
    | [a] => match hB n Γ a with
      | some ca => (match op with
        | .And => some ⟨ca.m, fun O => w_and1 (ca.ok O), ca.hp⟩
        | .Or => some ⟨ca.m, fun O => w_or1 (ca.ok O), ca.hp⟩)
      | none => none
    | a :: b :: r => match hB n Γ a, hW n Γ op (b :: r) pos with
      | some ca, some cr => (match op, cr with
        | .And, cr => some ⟨bAnd ca.m cr.m, fun O => w_and (ca.ok O) (cr.ok O), fun δ h => keep_bAnd (ca.hp δ h) (cr.hp δ h)⟩
        | .Or, cr => some ⟨bOr ca.m cr.m, fun O => w_or (ca.ok O) (cr.ok O), fun δ h => keep_bOr (ca.hp δ h) (cr.hp δ h)⟩)
      | _, _ => none
    | [] => none
end
end Cod

/-! # try with several clauses -/
namespace Cod
open PySem L2 PySem.Spec PyProof.Rows
noncomputable abbrev TSx := Addr → Value → Option Addr → TS
/-- what holds behind a suite: a clause's name is unset -/
noncomputable def endAs (j : Option Nat) (D : Ends) : Ends := match j with
  | some i => { nx := fun σ' H' => D.nx (σ'.set i none) H', rt := D.rt, bk := fun σ' H' => D.bk (σ'.set i none) H', ct := fun σ' H' => D.ct (σ'.set i none) H' }
  | none => D
noncomputable def slotAs (j : Option Nat) (a : Addr) (σ : L2.St) : L2.St := match j with
  | some i => σ.set i (some (.ref a))
  | none => σ
/-- the clauses, one behind the other -/
noncomputable def wMs (K : PySem.W.Frag) (Wout : WX) (D : Ends) : List (Value × Option Nat × TSx) → WX
  | [] => Wout
  | (c, j, ts) :: r => fun cls d σ H => ∃ b, PySem.W.exmOne K cls c = some b ∧ (b = true → ∀ a, H a = none → ts a cls d (endAs j D) (slotAs j a σ) H) ∧ (b = false → wMs K Wout D r cls d σ H)
inductive HdsM (X : Cx) : List ExceptHandler → List (Value × Option Nat × TSx) → Prop
  | nil : HdsM X [] []
  | one {x : Str} {c : Value} {ts : TSx} {b₀ : Stmt} {suite : List Stmt} {np pos' : Pos} {hds : List ExceptHandler} {l : List (Value × Option Nat × TSx)} (hc : Names X x c)
      (hsu : ∀ (a : Addr) (oe : Obj) (cls : Value) (d : Option Addr) (pn : List (Addr × Obj)), Zc cls d oe → (∃ vs, oe.data = .fields vs) → PSs (X.suite a ((a, oe) :: pn)) (b₀ :: suite) (ts a cls d)) (r : HdsM X hds l) :
      HdsM X (.ExceptHandler (some (.Name x np)) none (b₀ :: suite) pos' :: hds) ((c, none, ts) :: l)
  | as {x n : Str} {i : Nat} {c : Value} {ts : TSx} {b₀ : Stmt} {suite : List Stmt} {np pos' : Pos} {hds : List ExceptHandler} {l : List (Value × Option Nat × TSx)} (hc : Names X x c) (hi : X.N[i]? = some n) (hln : X.env.kindOf n = some .local)
      (hsu : ∀ (a : Addr) (oe : Obj) (cls : Value) (d : Option Addr) (pn : List (Addr × Obj)), Zc cls d oe → (∃ vs, oe.data = .fields vs) → PSs (X.suite a ((a, oe) :: pn)) (b₀ :: suite) (ts a cls d)) (r : HdsM X hds l) :
      HdsM X (.ExceptHandler (some (.Name x np)) (some n) (b₀ :: suite) pos' :: hds) ((c, some i, ts) :: l)
section
variable {X : Cx} {body : List Stmt} {h₀ : ExceptHandler} {hds : List ExceptHandler} {l : List (Value × Option Nat × TSx)} {pos : Pos} {tb : WX → TS} {Wout : WX}
theorem ps_try_ms (hs : X.stack = X.env :: X.outer) (hf : X.env.frame = some X.env.locals) (hN : X.N.Nodup) (tk : Takes X Wout)
    (hb : ∀ (W : WX) (pn : List (Addr × Obj)) (xe : Value → Shared → Prop), Takes (X.tr pn xe) W → PassesOwn (model X.prog X.w) X.A X.env xe → PSs (X.tr pn xe) body (tb W))
    (hh : HdsM X (h₀ :: hds) l) : PS X (.Try body (h₀ :: hds) [] [] pos) (fun D σ H => tb (wMs X.K Wout D l) D σ H) := by
  refine ⟨fun pins s σ H D I h => ?_⟩
  have ok := I.ok
  have hfr : X.A.frames = some (X.env :: X.outer) := by rw [ok.frames, hs]
  refine wpAny_Try_except ?_
  refine wpAny_mono ((hb (wMs X.K Wout D l) (X.pn ++ pins) (fun e s₁ => wpAny (model X.prog X.w) X.A (noteFrame e X.env) (fun _ s₂ => wpAny (model X.prog X.w) X.A (setFlight e none) (fun _ s₃ =>
    wpAny (model X.prog X.w) X.A (handleBy e X.env (h₀ :: hds)) (SP X pins D) X.xe s₃) X.xe s₂) X.xe s₁) (fun u s' xx => ?_) PassesOwn.looking).run [] s σ H D (I.toTry _) h) (fun f s1 hsp => ?_) (fun e s1 he => he)
  · obtain ⟨a, B, sI, pins', σ', H', cls, d, rfl, J', nb, up, sky, na, os, ag, w⟩ := xx
    have J : Inv X pins σ' H' sI := J'.ofTry ok
    have sky' : Sky B (X.env :: X.outer) a (Zc cls d) X.env.locals s'.heap := by rw [← hs]; exact sky
    show wpAny (model X.prog X.w) X.A (noteFrame (.ref a) X.env) _ _ _
    refine Sky.land Zc.steady hfr hf sky' fun h3 fl3 up3 => ?_
    have J3 : Inv X pins σ' H' { s' with heap := h3 } := J.landed nb fl3.1 (up.trans up3) os ag
    obtain ⟨oe3, vs3, he3, hz3, hd3⟩ := fl3.there
    have nfr : a ∉ frs (X.env :: X.outer) := fun hm => by
      obtain ⟨_, o', e', hnf⟩ := (fl3.2.2.1).mem hm
      rw [he3] at e'; cases e'
      exact hnf _ hd3
    have nL : a ≠ X.env.locals := fun z => nfr (List.mem_filterMap.mpr ⟨X.env, List.mem_cons_self, by rw [hf, z]⟩)
    have nF : a ∉ X.fs := fun hm => by
      obtain ⟨e, he, q⟩ := List.mem_filterMap.mp hm
      exact nfr (List.mem_filterMap.mpr ⟨e, List.mem_cons_of_mem _ he, q⟩)
    have S3 := J3.suite he3 hd3 na nL nF
    have named : ∀ {x : Str} {c : Value} {np : Pos}, Names X x c → ∀ {Q : Value → Shared → Prop} {E : Value → Shared → Prop}, Q c { s' with heap := h3 } → wpAny (model X.prog X.w) (X.A.mark (some (.ref a))) (eval (.Name x np) X.env) Q E { s' with heap := h3 } := fun {x c np} hc {Q E} q => by
      obtain ⟨hg, hdbg, hm | ⟨hm, hv, hnn⟩⟩ := hc
      · exact ld_glob (X := X.suite a ((a, oe3) :: (X.pn ++ pins))) S3 hg hm q hdbg
      · exact ld_blt (X := X.suite a ((a, oe3) :: (X.pn ++ pins))) S3 hg hm hv q hnn hdbg
    have LT : PySem.W.Looks (model X.prog X.w) h3 (typeOf (.ref a)) cls := fun A Q E s k q => wpAny_typeOf_ref (k _ _ he3) (by rw [hz3.1]; exact q)
    have go : ∀ {hds' : List ExceptHandler} {l' : List (Value × Option Nat × TSx)}, HdsM X hds' l' → wMs X.K Wout D l' cls d σ' H' →
        wpAny (model X.prog X.w) X.A (handleBy (.ref a) X.env hds') (SP X pins D) X.xe { s' with heap := h3 } := by
      intro hds' l' hk
      induction hk with
      | nil =>
        intro w
        refine wpAny_handleBy_nil ?_
        obtain ⟨k1, k2, k3, oe, vs, T, oT, ts', he, hz, hd, h1, hr⟩ := id fl3
        unfold PySem.passOn
        refine wpAny_bind (wpAny_field he hd h1 ?_)
        rw [if_neg (show ¬ ((Value.ref T == Value.none) = true) from by simp)]
        have fin : wpAny (model X.prog X.w) X.A (setFlight (.ref a) X.env.frame) (fun _ s4 => wpAny (model X.prog X.w) X.A (throw (.ref a) : Sem Flow) (SP X pins D) X.xe s4) X.xe { s' with heap := h3 } := by
          rw [hf]
          refine HandSPX.setFlight_upZ fl3 fun h4 hh4 up4 => wpAny_throw (tk _ _ ?_)
          exact ⟨a, B, sI, pins, σ', H', cls, d, rfl, J, nb, (up.trans up3).trans up4, .inr (.inr (by rw [hs]; exact hh4)), na, os, ag, w⟩
        first
          | exact wpAny_bind (wpAny_pure (wpAny_bind fin))
          | exact wpAny_bind fin
      | @one x c ts b₀ suite np pos' hds2 l2 hc hsu r ih =>
        rintro ⟨b, hb1, hyes, hno⟩
        have LM := PySem.W.exm_one (M := model X.prog X.w) (J3.kIn) LT hb1
        refine wpAny_handleBy_cons (codeAny_handlers_test (named hc (LM.here ?_))) (by intro q; cases q)
        cases b with
        | true =>
          refine codeAny_handlers_suite (HandSPX.lands_againZ fl3 fun h4 fl4 up4 => ?_)
          have J4 : Inv X pins σ' H' { s' with heap := h4 } := J.landed nb fl4.1 ((up.trans up3).trans up4) os ag
          obtain ⟨oe4, vs4, he4, hz4, hd4⟩ := fl4.there
          refine wpAny_mono ((hsu a oe4 cls d (X.pn ++ pins) hz4 ⟨_, hd4⟩).run [] _ _ H' _ (J4.suite he4 hd4 na nL nF) (hyes rfl a na)) (fun f s6 hsp => ?_) (fun _ _ z => False.elim z)
          cases f with
          | next => obtain ⟨σ6, H6, S6, q6⟩ := hsp; exact ⟨_, _, S6.unsuite ok, q6⟩
          | brk => obtain ⟨σ6, H6, S6, q6⟩ := hsp; exact ⟨_, _, S6.unsuite ok, q6⟩
          | cont => obtain ⟨σ6, H6, S6, q6⟩ := hsp; exact ⟨_, _, S6.unsuite ok, q6⟩
          | ret u => obtain ⟨v6, σ6, H6, S6, r6, q6⟩ := hsp; exact ⟨_, _, _, S6.unsuite ok, r6, q6⟩
        | false => exact ih (hno rfl)
      | @as x n i c ts b₀ suite np pos' hds2 l2 hc hi hln hsu r ih =>
        rintro ⟨b, hb1, hyes, hno⟩
        have LM := PySem.W.exm_one (M := model X.prog X.w) (J3.kIn) LT hb1
        refine wpAny_handleBy_cons (codeAny_handlers_test (named hc (LM.here ?_))) (by intro q; cases q)
        cases b with
        | true =>
          refine codeAny_handlers_suite_as (HandSPX.lands_againZ fl3 fun h4 fl4 up4 => ?_)
          have J4 : Inv X pins σ' H' { s' with heap := h4 } := J.landed nb fl4.1 ((up.trans up3).trans up4) os ag
          obtain ⟨oe4, vs4, he4, hz4, hd4⟩ := fl4.there
          refine store_ok (X := X.suite a ((a, oe4) :: (X.pn ++ pins))) (v := .ref a) (J4.suite he4 hd4 na nL nF) hN hi (.inl hln) rfl (fun s5 S5 => ?_) (.inr hln)
          refine wpAny_mono ((hsu a oe4 cls d (X.pn ++ pins) hz4 ⟨_, hd4⟩).run [] s5 _ H' _ S5 (hyes rfl a na)) (fun f s6 hsp => ?_) (fun _ _ z => False.elim z)
          have gone : ∀ {σ6 : L2.St} {H6 : Hp} {Q : Shared → Prop}, Inv (X.suite a ((a, oe4) :: (X.pn ++ pins))) [] σ6 H6 s6 → (∀ s7, Inv X pins (σ6.set i none) H6 s7 → Q s7) →
              wpAny (model X.prog X.w) X.A (do bindName X.env n .none; unbindBehindTheSuite X.env n pos') (fun _ s7 => Q s7) X.xe s6 := fun {σ6 H6 Q} S6 hq => gone_ok (S6.unsuite ok) hN hi hln hq
          cases f with
          | next => obtain ⟨σ6, H6, S6, q6⟩ := hsp; exact gone S6 fun s7 J7 => ⟨_, _, J7, q6⟩
          | brk => obtain ⟨σ6, H6, S6, q6⟩ := hsp; exact gone S6 fun s7 J7 => ⟨_, _, J7, q6⟩
          | cont => obtain ⟨σ6, H6, S6, q6⟩ := hsp; exact gone S6 fun s7 J7 => ⟨_, _, J7, q6⟩
          | ret u => obtain ⟨v6, σ6, H6, S6, r6, q6⟩ := hsp; exact gone S6 fun s7 J7 => ⟨_, _, _, J7, r6, q6⟩
        | false => exact ih (hno rfl)
    exact go hh w
  · cases f with
    | next => obtain ⟨σ', H', J', q⟩ := hsp; exact wpAny_execs_nil ⟨σ', H', J'.ofTry ok, q⟩
    | brk => obtain ⟨σ', H', J', q⟩ := hsp; exact ⟨σ', H', J'.ofTry ok, q⟩
    | cont => obtain ⟨σ', H', J', q⟩ := hsp; exact ⟨σ', H', J'.ofTry ok, q⟩
    | ret u => obtain ⟨v, σ', H', J', r, q⟩ := hsp; exact ⟨v, σ', H', J'.ofTry ok, r, q⟩
end
/-! ### the mirror -/
noncomputable def unsetJ (j : Option Nat) (δ : Sl) : Sl := match j with
  | some i => δ.set i none
  | none => δ
noncomputable def setJ (j : Option Nat) (m : Nat) (δ : Sl) : Sl := match j with
  | some i => δ.set i (some (.loc m))
  | none => δ
/-- behind a clause: its name is unset, the exception is gone -/
noncomputable def unXj (j : Option Nat) (h : AH) : RT → RT
  | .nx δ _ => .nx (unsetJ j δ) (h ++ [.ded])
  | .rt d _ => .rt d (h ++ [.ded])
  | .bk δ _ => .bk (unsetJ j δ) (h ++ [.ded])
  | .ct δ _ => .ct (unsetJ j δ) (h ++ [.ded])
  | _ => .no
noncomputable def goM (tab : List ((Nat × Nat) × Bool)) (xf : List (Nat × List Str)) (c' : Nat) (fs : List (Str × D)) (δ' : Sl) (h' : AH) : List (Nat × Option Nat × SD) → RT
  | [] => .ex c' fs δ' h'
  | (c, j, ms) :: r => match tab.lookup (c', c), xf.lookup c' with
    | some true, some _ => unXj j h' (ms (setJ j h'.length δ') (h' ++ [.exn c' fs]))
    | some false, _ => goM tab xf c' fs δ' h' r
    | _, _ => .no
noncomputable def sTryM (tab : List ((Nat × Nat) × Bool)) (xf : List (Nat × List Str)) (mb : SD) (hs : List (Nat × Option Nat × SD)) : SD := fun δ h => match mb δ h with
  | .ex c' fs δ' h' => goM tab xf c' fs δ' h' hs
  | r => r
noncomputable def tsM (Γ : Gm) (L : Lk) (ms : SD) : TSx := fun a cls d D σ H => ∃ c', cls = .ref (L.cA c') ∧ (∃ fs, Γ.xf.lookup c' = some fs) ∧ tS (L.wx (some (a, c', d))) W0 ms D σ H
structure CH (Γ : Gm) (hds : List ExceptHandler) where
  m : List (Nat × Option Nat × SD)
  ok : ∀ {fn : Fn} {k : Nat} {X : Cx} {L : Lk} {W : WX}, Ok Γ fn k X L W → HdsM X hds (m.map fun p => (.ref (L.cA p.1), p.2.1, tsM Γ L p.2.2))
  hp : ∀ p ∈ m, ∀ δ h, keepT h (p.2.2 δ h)
theorem suite_go {L : Lk} {W : WX} {A1 : List Addr} {H1 : Hp} {En : Ends} {j : Option Nat} {a : Addr} {z : Addr × Nat × Option Addr} {h1 : AH} {c' : Nat} {fs : List (Str × D)} {r : RT} (hxn : L.xn = none) (rh1 : RH L A1 h1 H1)
    (hh : keepT (h1 ++ [.exn c' fs]) r) (p : PoS L W A1 H1 (unXj j h1 r) En) : PoS (L.wx (some z)) W0 (A1 ++ [a]) H1 r (endAs j En) := by
  have l2 : Le A1 H1 (A1 ++ [a]) H1 := ⟨⟨[a], rfl⟩, fun _ _ h => h, fun _ _ _ h => h, fun _ _ h => h⟩
  have back : ∀ {z : Option (Addr × Nat × Option Addr)}, (L.wx z).wx none = L := fun {z} => by
    show ({ L with xn := none } : Lk) = L
    have := hxn
    cases L
    simp only at this
    rw [this]
  have hkx : killX (h1 ++ [.exn c' fs]) = h1 ++ [.ded] := by
    have := rh1.noX hxn
    unfold killX at this ⊢
    rw [List.map_append, this]
    rfl
  cases r with
  | nx δ2 h2 =>
    obtain rfl : h2 = _ := hh
    intro A2 σ2 H2 l3 rs2 rh2
    have q2 := rh2.outX (z := none)
    rw [hkx, back] at q2
    cases j with
    | none =>
      have q1 := rs2.wx none
      rw [back] at q1
      exact p A2 _ H2 (l2.trans l3) q1 q2
    | some i =>
      have q1 := RS.unset (i := i) (rs2.wx none)
      rw [back] at q1
      exact p A2 _ H2 (l2.trans l3) q1 q2
  | rt d2 h2 =>
    obtain rfl : h2 = _ := hh
    intro A2 v H2 l3 rh2 rd2
    have q1 := RD.wx none _ _ rd2
    have q2 := rh2.outX (z := none)
    rw [hkx] at q2
    rw [back] at q1 q2
    cases j <;> exact p A2 v H2 (l2.trans l3) q2 q1
  | bk δ2 h2 =>
    obtain rfl : h2 = _ := hh
    intro A2 σ2 H2 l3 rs2 rh2
    have q2 := rh2.outX (z := none)
    rw [hkx, back] at q2
    cases j with
    | none =>
      have q1 := rs2.wx none
      rw [back] at q1
      exact p A2 _ H2 (l2.trans l3) q1 q2
    | some i =>
      have q1 := RS.unset (i := i) (rs2.wx none)
      rw [back] at q1
      exact p A2 _ H2 (l2.trans l3) q1 q2
  | ct δ2 h2 =>
    obtain rfl : h2 = _ := hh
    intro A2 σ2 H2 l3 rs2 rh2
    have q2 := rh2.outX (z := none)
    rw [hkx, back] at q2
    cases j with
    | none =>
      have q1 := rs2.wx none
      rw [back] at q1
      exact p A2 _ H2 (l2.trans l3) q1 q2
    | some i =>
      have q1 := RS.unset (i := i) (rs2.wx none)
      rw [back] at q1
      exact p A2 _ H2 (l2.trans l3) q1 q2
  | ex c2 fs2 δ2 h2 => exact p.elim
  | no => exact p.elim
theorem wMs_of {Γ : Gm} {X : Cx} {L : Lk} {W : WX} {En : Ends} {A A1 : List Addr} {H H1 : Hp} {δ1 : Sl} {σ1 : L2.St} {h1 : AH} {c' : Nat} {fs : List (Str × D)} {dd : Option Addr} (hxn : L.xn = none) (xt : XTab X.K L Γ.tab Γ.xf)
    (l1 : Le A H A1 H1) (rs1 : RS L A1 H1 δ1 σ1) (rh1 : RH L A1 h1 H1) (rx : RX L A1 H1 fs dd ∧ NwX H dd) : ∀ (m : List (Nat × Option Nat × SD)), (∀ p ∈ m, ∀ δ h, keepT h (p.2.2 δ h)) → PoS L W A H (goM Γ.tab Γ.xf c' fs δ1 h1 m) En →
      wMs X.K W En (m.map fun p => (.ref (L.cA p.1), p.2.1, tsM Γ L p.2.2)) (.ref (L.cA c')) dd σ1 H1
  | [], _, p => p A1 σ1 dd H1 l1 rs1 rh1 rx
  | (c, j, ms) :: r, hk, p => by
    unfold goM at p
    split at p
    · rename_i fs' ht hx'
      refine ⟨true, (xt.sub c' c true ht).1, fun _ a na => ⟨c', rfl, ⟨_, hx'⟩, ?_⟩, fun z => nomatch z⟩
      have l2 : Le A1 H1 (A1 ++ [a]) H1 := ⟨⟨[a], rfl⟩, fun _ _ h => h, fun _ _ _ h => h, fun _ _ h => h⟩
      have hat : (A1 ++ [a])[h1.length]? = some a := by rw [← rh1.len]; simp
      refine ⟨A1 ++ [a], setJ j h1.length δ1, h1 ++ [.exn c' fs], ?_, rh1.inX hxn rx.1 l2, suite_go hxn rh1 (hk _ (by simp) _ _) (PoS.le l1 p)⟩
      cases j with
      | none => exact (rs1.mono l2).wx _
      | some i => exact ((rs1.mono l2).wx _).set (.loc hat)
    · rename_i ht
      exact ⟨false, (xt.sub c' c false ht).1, fun z => (nomatch z), fun _ => wMs_of hxn xt l1 rs1 rh1 rx r (fun p hp => hk p (by simp [hp])) p⟩
    · exact p.elim
theorem s_tryM {Γ : Gm} {fn : Fn} {k : Nat} {X : Cx} {L : Lk} {W : WX} {body : List Stmt} {h₀ : ExceptHandler} {hds : List ExceptHandler} {pos : Pos} {mb : SD} (O : Ok Γ fn k X L W) (hdf : Γ.df = true)
    (hb : ∀ {k : Nat} {X : Cx} {L : Lk} {W : WX}, Ok Γ fn k X L W → PSs X body (tS L W mb)) (C : CH Γ (h₀ :: hds)) :
    PS X (.Try body (h₀ :: hds) [] [] pos) (tS L W (sTryM Γ.tab Γ.xf mb C.m)) := by
  refine PS.weak (ps_try_ms (tb := fun W => tS L W mb) (O.stk hdf).1 (O.stk hdf).2.1 O.nd O.tk (fun W' pn xe tk own => hb (k := k) ⟨O.hN, O.nd, O.names, O.kind, O.calm, tk, own, O.room, O.hK, O.hw, O.top, O.gfn, O.gval, O.gblt, fun hg => (O.cod hg).blk (O.dfg hdf) rfl rfl rfl, O.gexc, O.xtab, O.xn, O.gtup, O.stk, O.gxm, O.dfg, O.gcls, O.gmth, O.gmk⟩) (C.ok O)) ?_
  rintro D σ H ⟨A, δ, h, rs, rh, p⟩
  refine ⟨A, δ, h, rs, rh, ?_⟩
  unfold sTryM at p
  cases e : mb δ h with
  | nx δ1 h1 => rw [e] at p; exact p
  | rt d1 h1 => rw [e] at p; exact p
  | bk δ1 h1 => rw [e] at p; exact p
  | ct δ1 h1 => rw [e] at p; exact p
  | no => rw [e] at p; exact p
  | ex c' fs δ1 h1 =>
    rw [e] at p
    intro A1 σ1 dd H1 l1 rs1 rh1 rx
    exact wMs_of O.xn O.xtab l1 rs1 rh1 rx C.m C.hp p
theorem XOk.mg {P : Program} {w : World} {K : PySem.W.Frag} {mg : Str → Option Value} {base : Heap} {C : Addr} {x : Str} {n : Nat} {fs : Option (List (Str × Src))} (h : XOk P w K mg base C x n fs) : mg x = some (.ref C) := by
  cases fs <;> exact h.1
theorem hsu_of {Γ : Gm} {fn : Fn} {k : Nat} {X : Cx} {L : Lk} {W : WX} (O : Ok Γ fn k X L W) {ss : List Stmt} {ms : SD} (hs : ∀ {X : Cx} {a : Addr} {oe : Obj} {pn : List (Addr × Obj)} {c : Nat} {d : Option Addr} {L : Lk}, OkS Γ X a oe pn c d L → PSs (X.suite a ((a, oe) :: pn)) ss (tS L W0 ms))
    (a : Addr) (oe : Obj) (cls : Value) (d : Option Addr) (pn : List (Addr × Obj)) (hz : Zc cls d oe) (hd : ∃ vs, oe.data = .fields vs) : PSs (X.suite a ((a, oe) :: pn)) ss (tsM Γ L ms a cls d) := by
  refine ⟨fun pins s σ H D I => ?_⟩
  rintro ⟨c', rfl, hcx, ht⟩
  exact (hs (L := L.wx (some (a, c', d))) (pn := pn) ⟨O.hN, O.nd, O.names, O.kind, O.hK, O.top, O.gblt, fun y c' n' fs' e => (O.gexc y c' n' fs' e).mg, ⟨O.xtab.sub, O.xtab.ve⟩, rfl, hz, hd, hcx⟩).run pins s σ H D I ht
noncomputable def CH.nil {Γ : Gm} : CH Γ [] := ⟨[], fun _ => .nil, fun p hp => absurd hp List.not_mem_nil⟩
end Cod

/-! # try .. except C as n: n.m(..); raise -/
namespace Cod
open PySem L2 PySem.Spec PyProof.Rows
noncomputable def tXm (a : Addr) (oe : Obj) (m : Str) (sp : Addr × Obj → Sp) (te : TE) (t : TA) : TE := fun σ H Q => te σ H fun x H1 => x = .ref a ∧ (∃ dd fs, oe.dict = some dd ∧ H1 dd = some (.xd fs) ∧ fs.lookup m = none) ∧ t σ H1 fun vs H2 => sp (a, oe) (x :: vs) H2 Q fun _ _ _ => False
theorem pe_xmeth {X : Cx} {a C : Addr} {oe : Obj} {k : Nat} {f : Addr} {m : Str} {fd : FuncData} {ps : List Str} {sp : Addr × Obj → Sp} {te : TE} {t : TA} {o e : Expr} {es : List Expr} {pos apos : Pos} (hp : (a, oe) ∈ X.pn) (hz : oe.cls = .ref C) (hf : ∃ vs, oe.data = .fields vs) (T : XfC X.K C) (M : XMeth X.K C m f) (F : FnM X.prog X.w X.K X.mg X.base (L2.CX X.prog X.w) k f fd ps sp) (hr : L2H.RoomH k X.A)
    (hb : Binds X.K fd ps []) (hsl : ∀ p vs H Q E, sp p vs H Q E → vs.length = ps.length) (he : PE X o te) (ha : PA X (e :: es) t)
    (hbase : attributeBase o m X.env (eval o X.env) = eval o X.env)
    (hfew : ((backTo pos (starEach (e :: es) X.env)).all (fun x => !x.1) && (backToKw pos (keywordEach [] X.env)).all (fun x => x.1.isSome)
      && decide ((e :: es).length + ([] : List Keyword).length + (if ([] : List Keyword).isEmpty then 0 else 1) < 30)) = true)
    (hline : (apos.endLine == pos.line) = true) (hst : starEach (e :: es) X.env = (false, eval e X.env) :: starEach es X.env) (hpl : (backTo pos (starEach es X.env)).any (·.1) = false) :
    PE X (.Call (.Attribute o m apos) (e :: es) [] pos) (tXm a oe m sp te t) := by
  refine ⟨fun pins s σ H Q I h => ?_⟩
  refine wpAny_Call_own hbase hfew hline (thn (he.run pins s σ H _ I h) fun u s1 ⟨x, H1, I1, rx, ex, ⟨dd, fs, hd, ea, l⟩, q⟩ pl => ?_)
  subst ex
  obtain rfl : u = Value.ref a := rx
  obtain ⟨pa, _⟩ := I1.pin (a, oe) (List.mem_append_left _ hp)
  obtain ⟨vs, hdv⟩ := hf
  have hx : ObjOk X.prog X.w H1 s1.heap dd (.xd fs) := I1.hok dd _ ea
  obtain ⟨mA, hns, hrl⟩ := hx
  obtain ⟨od, ho, hl⟩ := lookIn_ns hns
  have hn : mA m = none := RelO.none_of (by rw [← l]; exact hrl m)
  have J : PySem.W.InstAt s1.heap a oe C (some od) := ⟨pa, hz, by unfold PySem.W.notCls; rw [hdv] <;> rfl, by rw [hd]; exact ho⟩
  refine PySem.OEY.exc_method I1.kIn J T.ga T.gg M.at_ M.ty (by show (PySem.W.lookIn m od).map (·.isSome) = some false; rw [hl m, hn]; rfl) ?_
  refine PySem.W.callWith_K (first := [.ref a]) (h₀ := X.base) I.ok.mod.kin M.kp (thn (ha.run pos pins s1 σ H1 _ I1 q) fun us s2 ⟨vs2, H2, I2, r, q2⟩ => ⟨I2.kIn, ?_⟩) hst hpl
  have P1 := I2.pin (a, oe) (List.mem_append_left _ hp)
  have hpin : L2H.PinOk X.stack H2 s2 (a, oe) := ⟨P1.1, P1.2.1, fun hm => (List.mem_cons.mp (I2.stkSub a hm)).elim P1.2.2.1 P1.2.2.2.1, P1.2.2.2.2⟩
  have hlv := hsl _ _ _ _ _ q2
  have r2 : Vals (.ref a :: vs2) (.ref a :: us) := .cons rfl r
  have hlu : (Value.ref a :: us).length = ps.length := by rw [← r2.length]; exact hlv
  have b := hb s2 (.ref a :: us) I2.kIn (by rw [List.append_nil]; exact hlu)
  rw [List.append_nil] at b
  refine wpAny_call (codeAny_mono (F.run X.A X.stack s2 H2 ⟨.ref a :: us, []⟩ (.ref a :: us) (.ref a :: vs2) Q (fun _ _ _ => False) (a, oe) hr hpin I2.env0 b r2 hlv q2) fun r s' hq => ?_)
  cases r with
  | error e =>
    obtain ⟨_, _, _, _, _, _, _, _, _, _, _, _, z⟩ := hq
    exact z.elim
  | ok fl =>
    cases fl with
    | ret u => exact I2.after hq
    | next => exact False.elim hq
    | brk => exact False.elim hq
    | cont => exact False.elim hq
/-! ### an exception's dict is written: nothing else hangs on it -/
section
variable {L : Lk} {A : List Addr} {H : Hp} {d0 : Addr} {o : HO} {ws : List (Str × V)}
theorem SqT.upx {K : PySem.W.Frag} {a : Addr} {xs : List V} (e : H d0 = some (.xd ws)) (h : SqT K H a xs) : SqT K (upd H d0 o) a xs := by
  rcases h with (h | ⟨ob, h⟩) | h
  · exact .inl (.inl (by rw [upd_ne fun z => by rw [z, e] at h; cases h]; exact h))
  · exact .inl (.inr ⟨ob, by rw [upd_ne fun z => by rw [z, e] at h; cases h]; exact h⟩)
  · exact .inr h
mutual
theorem RD.upx (e : H d0 = some (.xd ws)) : ∀ (d : D) (v : V), RD L A H d v → RD L A (upd H d0 o) d v
  | .non, _, h => by cases h; exact .non
  | .bl _, _, h => by cases h; exact .bl _
  | .int _, _, h => by cases h; exact .int _
  | .str _, _, h => by cases h; exact .str _
  | .ty _, _, h => by cases h; exact .ty _
  | .fn _, _, h => by cases h; exact .fn _
  | .cl _, _, h => by cases h; exact .cl _
  | .loc _, _, h => by cases h with | loc q => exact .loc q
  | .tup xs, _, h => by cases h with | tup q r => exact .tup (Cod.SqT.upx e q) (RDs.upx e xs _ r)
  | .kd ks xs, _, h => by cases h with | kd q r => exact .kd q (RDs.upx e xs _ r)
theorem RDs.upx (e : H d0 = some (.xd ws)) : ∀ (ds : List D) (vs : List V), RDs L A H ds vs → RDs L A (upd H d0 o) ds vs
  | [], _, h => by cases h; exact .nil
  | d :: ds, _, h => by cases h with | cons p q => exact .cons (RD.upx e d _ p) (RDs.upx e ds _ q)
end
theorem RKs.upx {κ : Type} (e : H d0 = some (.xd ws)) : ∀ {ds : List (κ × D)} {vs : List (κ × V)}, RKs L A H ds vs → RKs L A (upd H d0 o) ds vs
  | _, _, .nil => .nil
  | _, _, .cons p q => .cons (RD.upx e _ _ p) (RKs.upx e q)
theorem RS.upx {δ : Sl} {σ : L2.St} (e : H d0 = some (.xd ws)) (r : RS L A H δ σ) : RS L A (upd H d0 o) δ σ :=
  ⟨r.len, fun i d q => let ⟨v, e1, q⟩ := r.get i d q; ⟨v, e1, RD.upx e _ _ q⟩⟩
theorem FqL.upx {K : PySem.W.Frag} {a : Addr} {xs : List V} (e : H d0 = some (.xd ws)) (h : FqL K H a xs) : FqL K (upd H d0 o) a xs := by
  rcases h with ⟨ob, h⟩ | h
  · exact .inl ⟨ob, by rw [upd_ne fun z => by rw [z, e] at h; cases h]; exact h⟩
  · exact .inr h
theorem RO_upx {a : Addr} {u : O} (hx : L.xn = none) (e : H d0 = some (HO.xd ws)) (h : RO L A H a u) : RO L A (upd H d0 o) a u := by
  cases u with
  | lst xs => obtain ⟨vs, q, r⟩ := h; exact ⟨vs, by rw [upd_ne fun z => by rw [z, e] at q; cases q]; exact q, RDs.upx e _ _ r⟩
  | frz xs => obtain ⟨vs, q, r⟩ := h; exact ⟨vs, Cod.FqL.upx e q, RDs.upx e _ _ r⟩
  | dct xs => obtain ⟨vs, q, r⟩ := h; exact ⟨vs, by rw [upd_ne fun z => by rw [z, e] at q; cases q]; exact q, RKs.upx e r⟩
  | lck xs => obtain ⟨vs, ⟨ob, q⟩, r⟩ := h; exact ⟨vs, ⟨ob, by rw [upd_ne fun z => by rw [z, e] at q; cases q]; exact q⟩, RKs.upx e r⟩
  | ins c xs => obtain ⟨dx, vs, q, r⟩ := h; exact ⟨dx, vs, by rw [upd_ne fun z => by rw [z, e] at q; cases q]; exact q, RKs.upx e r⟩
  | exn c fs => obtain ⟨d, q, r⟩ := h; rw [hx] at q; cases q
  | ded => trivial
theorem Kfz.upx {a : Addr} {u : O} (hx : L.xn = none) (e : H d0 = some (.xd ws)) (h : Kfz L A H a u) : Kfz L A (upd H d0 o) a u := by
  rcases h with ⟨xs, vs, q, k, r⟩ | ⟨c, fs, d, q, k, r⟩ | q
  · exact .inl ⟨xs, vs, q, k, RDs.upx e _ _ r⟩
  · rw [hx] at k; cases k
  · exact .inr (.inr q)
theorem RH.upx {h : AH} (hx : L.xn = none) (e : H d0 = some (.xd ws)) (r : RH L A h H) : RH L A h (upd H d0 o) :=
  ⟨r.len, fun m n a o u e1 e2 e3 e4 => (r.ap m n a o u e1 e2 e3 e4).imp id (Or.imp (Kfz.upx hx e) (Kfz.upx hx e)), fun n a o e1 e2 => RO_upx hx e (r.get n a o e1 e2), fun P hP => (r.tab P hP).kept fun b u z hu => by
    rw [upd_ne fun y => by
      rw [y, e] at z
      rcases hu with ⟨ps, rfl⟩ | ⟨c, Q, rfl⟩
      · cases z
      · have z' : some (HO.xd ws) = some (HO.ext _) := z
        cases z']
    exact z⟩
end
theorem RKs.look2 {L : Lk} {A : List Addr} {H : Hp} {f : Str} : ∀ {fs : List (Str × D)} {ws : List (Str × V)}, RKs L A H fs ws → (fs.lookup f = none → ws.lookup f = none)
  | _, _, .nil, _ => rfl
  | _, _, .cons (k := k) p q, e => by
    rw [List.lookup_cons] at e ⊢
    split at e
    · cases e
    · exact RKs.look2 q e
theorem mark_ok {L : Lk} {A : List Addr} {H : Hp} {mk : MkI} {ds : List D} {vs : List V} {fs gs : List (Str × D)} {ws : List (Str × V)} (rd : RDs L A H ds vs) (rk : RKs L A H fs ws) (e : markD mk ds fs = some gs) : ∃ us, markV mk vs ws = some us ∧ RKs L A H gs us := by
  unfold markD at e
  split at e
  · rename_i x hx
    obtain ⟨v, hv, rv⟩ := RKs.look rk hx
    cases rv
    unfold markV
    rw [hv]
    by_cases hc : x = mk.c
    · rw [if_pos hc] at e
      obtain ⟨us, hu, ru⟩ := fld_ok rd rk e
      exact ⟨us, by simp only [hc, if_true]; exact hu, ru⟩
    · rw [if_neg hc] at e
      cases e
      exact ⟨ws, by simp only [if_neg hc], rk⟩
  · cases e
/-! ### the mirror -/
noncomputable def sTryA (tab : List ((Nat × Nat) × Bool)) (xf : List (Nat × List Str)) (xm : List ((Nat × Str) × MkI)) (c i : Nat) (mt : Str) (mb : SD) (ma : AD) : SD := fun δ h => match mb δ h with
  | .ex c' fs δ' h' => match tab.lookup (c', c), xf.lookup c', xm.lookup (c', mt) with
    | some true, some _, some mk => match ma (δ'.set i (some (.loc h'.length))) (h' ++ [.exn c' fs]) with
      | .ok ds _ => if (decide (ds.length = mk.n) && decide (fs.length + mk.asg.length ≤ 900) && (fs.lookup mt).isNone && decide (i < δ'.length)) = true then (match markD mk ds fs with
        | some gs => .ex c' gs (δ'.set i none) (h' ++ [.ded])
        | none => .no) else .no
      | _ => .no
    | some false, _, _ => .ex c' fs δ' h'
    | _, _, _ => .no
  | r => r
theorem s_tryA {Γ : Gm} {fn : Fn} {k : Nat} {X : Cx} {L : Lk} {W : WX} {x n mt : Str} {c i : Nat} {body : List Stmt} {e : Expr} {es : List Expr} {np q apos pos pos' pos2 pos3 rp : Pos} {mb : SD} {ma : AD} (O : Ok Γ fn k X L W) (hdf : Γ.df = true) (hnest : 1 ≤ Γ.nest) (hi : X.N[i]? = some n) (hln : X.env.kindOf n = some .local) (hpn : (n == ("__debug__" : Str)) = false ∧ (n == ("__classdict__" : Str)) = false) (hc : Gl X x) (hdb : (x == ("__debug__" : Str)) = false) (hm : X.mg x = some (.ref (L.cA c)))
    (hb : ∀ {k : Nat} {X : Cx} {L : Lk} {W : WX}, Ok Γ fn k X L W → PSs X body (tS L W mb))
    (ha : ∀ {X : Cx} {a : Addr} {oe : Obj} {pn : List (Addr × Obj)} {c : Nat} {d : Option Addr} {L : Lk}, OkS Γ X a oe pn c d L → PA (X.suite a ((a, oe) :: pn)) (e :: es) (tAr L W0 ma)) (hp : ∀ δ h, keepR h (ma δ h))
    (hfew : ∀ env : Env, ((backTo pos2 (starEach (e :: es) env)).all (fun x => !x.1) && (backToKw pos2 (keywordEach [] env)).all (fun x => x.1.isSome)
      && decide ((e :: es).length + ([] : List Keyword).length + (if ([] : List Keyword).isEmpty then 0 else 1) < 30)) = true)
    (hline : (apos.endLine == pos2.line) = true) (hst : ∀ env : Env, starEach (e :: es) env = (false, eval e env) :: starEach es env) (hpl : ∀ env : Env, (backTo pos2 (starEach es env)).any (·.1) = false) (hsw : ∀ env : Env, swapsWith (.Call (.Attribute (.Name n q) mt apos) (e :: es) [] pos2) none pos3.line env = pure false) :
    PS X (.Try body [.ExceptHandler (some (.Name x np)) (some n) [.Expr (.Call (.Attribute (.Name n q) mt apos) (e :: es) [] pos2) pos3, .Raise none none rp] pos'] [] [] pos) (tS L W (sTryA Γ.tab Γ.xf Γ.xm c i mt mb ma)) := by
  refine PS.weak (ps_try_again (ss := [.Expr (.Call (.Attribute (.Name n q) mt apos) (e :: es) [] pos2) pos3]) (c := .ref (L.cA c)) (i := i) (tb := fun W => tS L W mb)
    (ts := fun a cls d D σ H => ∃ c' mk, cls = .ref (L.cA c') ∧ Γ.xm.lookup (c', mt) = some mk ∧ (∃ fs, Γ.xf.lookup c' = some fs) ∧ (∃ dd fs, d = some dd ∧ H dd = some (.xd fs) ∧ fs.lookup mt = none) ∧ σ[i]? = some (some (.ref a)) ∧
      tAr (L.wx (some (a, c', d))) W0 ma σ H fun vs H2 => vs.length = mk.n ∧ ∃ dd fs gs, d = some dd ∧ H2 dd = some (.xd fs) ∧ fs.length + mk.asg.length ≤ 900 ∧ markV mk vs fs = some gs ∧ D.nx σ (upd H2 dd (.xd gs)))
    (O.stk hdf).1 (O.stk hdf).2.1 (O.stk hdf).2.2 O.nd hi hln ⟨hc, hdb, .inl hm⟩ O.tk rfl (fun W' pn xe tk own => hb (k := k) ⟨O.hN, O.nd, O.names, O.kind, O.calm, tk, own, O.room, O.hK, O.hw, O.top, O.gfn, O.gval, O.gblt, fun hg => (O.cod hg).blk (O.dfg hdf) rfl rfl rfl, O.gexc, O.xtab, O.xn, O.gtup, O.stk, O.gxm, O.dfg, O.gcls, O.gmth, O.gmk⟩) fun a oe cls d pn hz hd => ⟨fun pins s σ H D I => ?_⟩) ?_
  · rintro ⟨c', mk, rfl, hxm, hcx, hdd, hsi, ht⟩
    obtain ⟨f, fd, ps, Tx, M, hbi, hlen, F⟩ := O.gxm c' mt mk hxm
    have hrm : L2H.RoomH 1 (X.suite a ((a, oe) :: pn)).A := (fun hr : L2H.RoomH 1 X.A => ⟨hr.dp, hr.un⟩) (L2H.roomH_of (O.room.mono (by omega)))
    have hoks : OkS Γ X a oe pn c' d (L.wx (some (a, c', d))) := ⟨O.hN, O.nd, O.names, O.kind, O.hK, O.top, O.gblt, fun y c' n' fs' e => (O.gexc y c' n' fs' e).mg, ⟨O.xtab.sub, O.xtab.ve⟩, rfl, hz, hd, hcx⟩
    refine (pss_cons (ps_expr (pe_xmeth (X := X.suite a ((a, oe) :: pn)) (C := L.cA c') List.mem_cons_self hz.1 hd Tx M F hrm hbi (fun p vs H Q E h => by rw [hlen]; exact h.1) (pe_var hi (.inl hln) hpn.1 hpn.2) (ha hoks) rfl (hfew _) hline (hst _) (hpl _)) (hsw _)) pss_nil).run pins s σ H D I ?_
    obtain ⟨dd, fs, rfl, hdd, hl⟩ := hdd
    refine ⟨.ref a, hsi, rfl, ⟨dd, fs, hz.2, hdd, hl⟩, ?_⟩
    obtain ⟨A, δ, h, rs, rh, p⟩ := ht
    refine ⟨A, δ, h, rs, rh, p.imp ?_⟩
    rintro vs H2 ⟨hvl, dd', fs', gs, e1, e2, e3, e4, q⟩
    cases e1
    exact ⟨by simp [hvl], dd, vs, fs', gs, hz.1, hz.2, hd, rfl, e2, e3, e4, q⟩
  · rintro D σ H ⟨A, δ, h, rs, rh, p⟩
    refine ⟨A, δ, h, rs, rh, ?_⟩
    unfold sTryA at p
    cases eb : mb δ h with
    | nx δ1 h1 => rw [eb] at p; exact p
    | rt d1 h1 => rw [eb] at p; exact p
    | bk δ1 h1 => rw [eb] at p; exact p
    | ct δ1 h1 => rw [eb] at p; exact p
    | no => rw [eb] at p; exact p
    | ex c' fs δ1 h1 =>
      rw [eb] at p
      intro A1 σ1 dd H1 l1 rs1 rh1 rx
      simp only at p
      split at p
      · rename_i fs' mk ht hx' hxm
        have hh := hp (δ1.set i (some (.loc h1.length))) (h1 ++ [.exn c' fs])
        cases em : ma (δ1.set i (some (.loc h1.length))) (h1 ++ [.exn c' fs]) with
        | ex c2 fs2 h2 => rw [em] at p; exact p.elim
        | no => rw [em] at p; exact p.elim
        | ok ds h2 =>
          rw [em] at p hh
          obtain rfl : h2 = _ := hh
          simp only at p
          split at p
          · rename_i hcond
            simp only [Bool.and_eq_true, decide_eq_true_eq] at hcond
            obtain ⟨⟨⟨hn, hle⟩, hnn⟩, hilt⟩ := hcond
            split at p
            · rename_i gs hgs
              obtain ⟨rx1, rx2⟩ := rx
              cases dd with
              | none =>
                have hfs : fs = [] := rx1
                subst hfs
                unfold markD at hgs
                cases hgs
              | some d0 =>
                obtain ⟨ws, hw, rk⟩ := id rx1
                refine ⟨true, (O.xtab.sub c' c true ht).1, fun _ a na => ⟨c', mk, rfl, hxm, ⟨_, hx'⟩, ⟨d0, ws, rfl, hw, RKs.look2 rk (by simpa using hnn)⟩, ?_, ?_⟩, fun z => nomatch z⟩
                · have hil : i < σ1.length := by rw [rs1.len]; exact hilt
                  exact List.getElem?_set_self hil
                · have l2 : Le A1 H1 (A1 ++ [a]) H1 := ⟨⟨[a], rfl⟩, fun _ _ h => h, fun _ _ _ h => h, fun _ _ h => h⟩
                  have hat : (A1 ++ [a])[h1.length]? = some a := by rw [← rh1.len]; simp
                  refine ⟨A1 ++ [a], δ1.set i (some (.loc h1.length)), h1 ++ [.exn c' fs], ((rs1.mono l2).wx _).set (.loc hat), rh1.inX O.xn rx1 l2, ?_⟩
                  rw [em]
                  intro A3 vs H3 l3 rh3 rd3
                  have back : ∀ {z : Option (Addr × Nat × Option Addr)}, (L.wx z).wx none = L := fun {z} => by
                    show ({ L with xn := none } : Lk) = L
                    have := O.xn
                    cases L
                    simp only at this
                    rw [this]
                  have hkx : killX (h1 ++ [.exn c' fs]) = h1 ++ [.ded] := by
                    have := rh1.noX O.xn
                    unfold killX at this ⊢
                    rw [List.map_append, this]
                    rfl
                  have hw3 : H3 d0 = some (.xd ws) := l3.xd _ _ hw
                  have rd3' := RDs.wx none _ _ rd3
                  rw [back] at rd3'
                  have l13 := l2.trans l3
                  obtain ⟨us, hu, ru⟩ := mark_ok rd3' (rk.mono l13) hgs
                  have rh3' := rh3.outX (z := none)
                  rw [hkx, back] at rh3'
                  have l03 := l1.trans l13
                  have rs3 := RS.unset (i := i) (rs1.mono l13)
                  have hlk : ws.length = fs.length := rk.length.symm
                  have es : (σ1.set i (some (V.ref a))).set i none = σ1.set i none := List.set_set ..
                  refine ⟨by rw [← rd3.length]; exact hn, d0, ws, us, rfl, hw3, by omega, hu, ?_⟩
                  show W (.ref (L.cA c')) (some d0) ((σ1.set i (some (V.ref a))).set i none) _
                  rw [es]
                  refine p A3 (σ1.set i none) (some d0) _ ⟨l03.ap, fun b xs q => ?_, fun b o u q => ?_, fun b ws' q => ?_⟩ (Cod.RS.upx hw3 rs3) (Cod.RH.upx O.xn hw3 rh3') ⟨⟨us, upd_same, Cod.RKs.upx hw3 ru⟩, rx2⟩
                  · have q3 := l03.tp b xs q
                    rw [upd_ne fun z => by rw [z, hw3] at q3; cases q3]; exact q3
                  · have q3 := l03.fz b o u q
                    rw [upd_ne fun z => by rw [z, hw3] at q3; cases q3]; exact q3
                  · rw [upd_ne fun z => rx2 d0 rfl ws' (by rw [← z]; exact q)]
                    exact l03.xd b ws' q
            · exact p.elim
          · exact p.elim
      · rename_i ht
        exact ⟨false, (O.xtab.sub c' c false ht).1, fun (z : false = true) => (nomatch z), fun _ => p A1 σ1 dd H1 l1 rs1 rh1 rx⟩
      · exact p.elim
end Cod

/-! # list comprehensions whose element may raise -/
namespace Cod
open PySem L2 PyProof.Rows PySem.HandSPX

section
variable {M : Model} {A : Around} {E : Value → Shared → Prop} {s : Shared} {env : Env}
/-- behind the block -/
noncomputable def endX (M : Model) (A : Around) (E : Value → Shared → Prop) (Q : Value → Shared → Prop) (acc : Value) (C : Addr) (fr : Option Addr) (r : Result) (s' : Shared) : Prop :=
  match r with
  | .ok _ => ∃ m, s'.heap.Ns C m ∧ ∀ h', Heap.SameBut C s'.heap h' → Q acc { s' with heap := h' }
  | .error x => ∃ m, s'.heap.Ns C m ∧ ∀ h', Heap.SameBut C s'.heap h' → ∀ cenv : Env, cenv.locals = C → cenv.frame = fr → wpAny M A (PySem.passOn "comprehension.variables-let-go" x cenv : Sem Value) (fun _ _ => False) E { s' with heap := h' }
theorem compX {e : Expr} {scope : Scope} {pos : Pos} {newAcc first : Sem Value} {g : Comprehension} {gs : List Comprehension} {cl : List (Str × Addr)} {Q : Value → Shared → Prop}
    (hcl : clausesOf e = g :: gs) (hs : ∀ x, foldedSetIterable g.iter env x = pure x) (hclos : closureFor scope env = pure cl)
    (hkind : scope.kind = .function) (hnames : ∀ x ∈ scope.names, x.2 = .local → scope.names.lookup x.1 = some .local)
    (h : wpAny M A first (fun x s₁ => wpAny M A (pyIter x) (fun it s₂ => wpAny M A newAcc (fun acc s₃ =>
      wpAny M A (newFunctionEnv scope env.globals cl [] env.qual none .none (some env)) (fun cenv s₄ =>
        codeAny M A (.compStart e 0 it acc { cenv with scope := relabel scope env }) (endX M A E Q acc cenv.locals cenv.frame) s₄) E s₃) E s₂) E s₁) E s) :
    wpAny M A (comprehension e scope env pos newAcc false first none) Q E s := by
  unfold comprehension
  rw [hclos, hcl]
  refine wpAny_bind (wpAny_mono h (fun x s₁ h₁ => wpAny_bind (wpAny_standAt (wpAny_bind (wpAny_of_eq (hs x) (wpAny_bind (wpAny_holding (wpAny_mono h₁ (fun it s₂ h₂ =>
    wpAny_standIf (wpAny_bind (wpAny_mono h₂ (fun acc s₃ h₃ => wpAny_bind (wpAny_pure (wpAny_bind (wpAny_mono h₃ (fun cenv s₄ h₄ => ?_) fun _ _ h' => h')))) fun _ _ h' => h')))
      fun _ _ h' => h'))))))) fun _ _ h' => h')
  dsimp only
  have hv : ∀ x ∈ (scope.names.filter fun x => (x.2 == .local || x.2 == .cell) && x.1 != (".0" : Str)).reverse, x.2 = .local →
      Env.kindOf { cenv with scope := relabel scope env } x.1 = some .local := fun x hx hl => lookup_relabel_local (hnames x (List.mem_filter.mp (List.mem_reverse.mp hx)).1 hl)
  refine wpAny_holding (wpAny_bind (wpAny_attempt (wpAny_holding (wpAny_run (codeAny_mono h₄ fun r s' hr => ?_)))))
  cases r with
  | ok f =>
    obtain ⟨m, hn, hr⟩ := hr
    exact wpAny_bind (wpAny_holding (wpAny_comp_letGo (cenv := { cenv with scope := relabel scope env }) hkind _ s' m hv hn fun h' m' _ hs' => wpAny_pure (hr h' hs')))
  | error x =>
    obtain ⟨m, hn, hr⟩ := hr
    exact wpAny_bind (wpAny_holding (wpAny_comp_letGo (cenv := { cenv with scope := relabel scope env }) hkind _ s' m hv hn fun h' m' _ hs' => wpAny_mono (hr h' hs' _ rfl rfl) (fun _ _ f => f.elim) fun _ _ y => y))
end
section
variable {M : Model} {A : Around} {E : Value → Shared → Prop} {s : Shared} {Z : Obj → Prop} {base : Heap} {env : Env} {outer l : List Env} {L e : Addr}
/-- a frame notes an exception that another one marked -/
theorem looks_fl {fl : Value} {Q : Unit → Shared → Prop} (hZ : Steady Z) (hfr : A.frames = some (env :: outer)) (hf : env.frame = some L) (hkb : base.StaysIn s.heap) (hen : base.get? e = none) (hl : s.heap.FunFrames base (env :: outer)) (ht : TracedZ s.heap base e Z fl) (hne : (fl == rawInt L) = false)
    (hQ : ∀ h', HeldZ base (env :: outer) e Z L h' → s.heap.UpToSlots h' → Q () { s with heap := h' }) : wpAny M A (noteFrame (.ref e) env) Q E s := by
  obtain ⟨oe, vs, T, oT, ts, he, hz, hd, h1, hnT, hTe, hT, hdT, h3⟩ := ht
  unfold noteFrame
  simp only [hf]
  refine wpAny_bind (wpAny_field he hd h1 ?_)
  rw [if_pos (show (Value.ref T != Value.none) = true from by simp)]
  refine wpAny_bind (wpAny_field hT hdT h3 ?_)
  rw [if_neg (show ¬ ((fl == rawInt L) = true) from by rw [hne]; decide)]
  refine wpAny_bind (wpAny_setField hT hdT (Array.getElem?_eq_some_iff.mp h3).1 ?_)
  have other : ∀ b, b ≠ T → (s.heap.update T (Obj.mapFields (·.setIfInBounds 3 Value.none))).get? b = s.heap.get? b := fun b hb => Heap.get?_update_other _ _ (Ne.symm hb)
  have noRecord : ∀ b o, s.heap.get? b = some o → (∀ vs, o.data ≠ .fields vs) → b ≠ T := fun b o hb hnf q => by
    rw [q, hT] at hb; injection hb with hb; subst hb; exact hnf ts hdT
  refine wpAny_entryZ hZ hfr (hl.of_keeps fun b o hb hnf => ⟨o, (other b (noRecord b o hb hnf)).trans hb, rfl⟩) hf ((other e (Ne.symm hTe)).trans he)
    (fun b o hbo => (other b fun q => by rw [q, hnT] at hbo; cases hbo).trans (hkb b o hbo)) hen hd (Array.getElem?_eq_some_iff.mp h1).1 hz fun h' hN => ?_
  obtain ⟨x1, x2, x3, x4⟩ := hN
  exact hQ h' ⟨x1, hen, x2, x3⟩ fun b o hb hnf => x4 b o ((other b (noRecord b o hb hnf)).trans hb) hnf
end
theorem funFrames_same {base h h' : Heap} : ∀ {l : List Env}, h.FunFrames base l → (∀ L ∈ frs l, h'.get? L = h.get? L) → h'.FunFrames base l
  | [], _, _ => trivial
  | env :: l, h, hn => by
    obtain ⟨hk, ⟨L, o, hf, hb, ho, hd⟩, hr⟩ := h
    exact ⟨hk, ⟨L, o, hf, hb, (hn L (List.mem_filterMap.mpr ⟨env, List.mem_cons_self, hf⟩)).trans ho, hd⟩, funFrames_same hr fun b hb => by
      obtain ⟨e, he, q⟩ := List.mem_filterMap.mp hb
      exact hn b (List.mem_filterMap.mpr ⟨e, List.mem_cons_of_mem _ he, q⟩)⟩
/-- the block's context, with a wish about exceptions -/
noncomputable abbrev _root_.L2.Cx.blkX (X : Cx) (s : Shared) (H : Hp) (scope : Scope) (cenv : Env) (fp : List Addr) (xe : Value → Shared → Prop) : Cx := { X.blk s H scope cenv fp with xe := xe }
theorem Inv.setX {X : Cx} {pins : List (Addr × Obj)} {σ : L2.St} {H : Hp} {s : Shared} (E : Value → Shared → Prop) (I : Inv X pins σ H s) : Inv { X with xe := E } pins σ H s :=
  ⟨⟨I.ok.mod, I.ok.kind, I.ok.glob, I.ok.blt, I.ok.above, I.ok.inj, I.ok.has, I.ok.cab, I.ok.hd, I.ok.frames, I.ok.stk, I.ok.exf, I.ok.bs, I.ok.bsz, I.ok.noex, I.ok.exfs, I.ok.funs, I.ok.frf⟩, I.os, I.bare, I.base, I.loc, I.cell, I.free, I.freeC, I.pin, I.hok, I.len⟩
section
variable {X : Cx} {pins : List (Addr × Obj)} {σ : L2.St} {H3 : Hp} {s3 : Shared} {ce : Env} {fp : List Addr} {scope : Scope} {W W' : WX} {Eb : Value → Shared → Prop} {Qf : Value → Shared → Prop} {acc : Value}
theorem blk_throw (I3 : Inv X pins σ H3 s3) (tk : Takes X W) (hs : X.stack = X.env :: X.outer) (hf : X.env.frame = some X.env.locals) (hce : ce.frame = X.env.frame) (hC : ce.locals = s3.heap.objs.size)
    (f3 : ∀ b ∈ fp, FpOk X pins H3 b ∧ b < s3.heap.objs.size) (hW : ∀ cls d σ' H', W' cls d σ' H' → W cls d σ H') {E1 : Value → Shared → Prop} {u : Value} {s' : Shared} (x : XE (X.blkX s3 H3 scope ce fp Eb) W' u s') :
    wpAny (model X.prog X.w) X.A (noteFrame u ce) (fun _ s'' => endX (model X.prog X.w) X.A X.xe Qf acc ce.locals ce.frame (.error u) s'') E1 s' := by
  obtain ⟨a, B, sI, pins', σ', H', cls, d, rfl, I, nb, up, sky, na, os, ag, w⟩ := x
  have hfr : X.A.frames = some (X.env :: X.outer) := by rw [I3.ok.frames, hs]
  have en : noteFrame (.ref a) ce = noteFrame (.ref a) X.env := by
    unfold noteFrame PySem.frameOf
    simp only [hce]
  rw [en]
  have hlt : X.env.locals < s3.heap.objs.size := I3.lt
  have hCn : ce.locals ≠ X.env.locals := by rw [hC]; exact Nat.ne_of_gt hlt
  have sky : Sky B (X.env :: X.outer) a (Zc cls d) ce.locals s'.heap := by rw [← hs]; exact sky
  -- the block's own dict
  obtain ⟨mC, hnC, _⟩ := I.loc
  have hnC : sI.heap.Ns ce.locals mC := hnC
  obtain ⟨oC, esC, epC, hoC, hdC, hkC, hfC⟩ := hnC
  have ncf : ce.locals ∉ frs X.stack := fun hm => by
    have h1 := I3.stkSub ce.locals hm
    rcases List.mem_cons.mp h1 with z | z
    · exact hCn z
    · exact I3.nofs (Nat.le_of_eq hC.symm) z
  have hBC : B.get? ce.locals = some oC := nb ce.locals oC hoC ncf
  have hIo := I.inGround nb
  have fin : ∀ h1, HeldZ B (X.env :: X.outer) a (Zc cls d) X.env.locals h1 → s'.heap.UpToSlots h1 → endX (model X.prog X.w) X.A X.xe Qf acc ce.locals ce.frame (.error (.ref a)) { s' with heap := h1 } := fun h1 hh up1 => by
    obtain ⟨k1, k2, k3, oe, vs, T, oT, ts, he, hz, hd, h1', hnT, hTe, hT, hdT, h3⟩ := hh
    have naC : a ≠ ce.locals := fun z => by rw [z, hBC] at k2; cases k2
    have nTC : T ≠ ce.locals := fun z => by rw [z, hBC] at hnT; cases hnT
    refine ⟨mC, ⟨oC, esC, epC, k1 _ _ hBC, hdC, hkC, hfC⟩, fun h2 sb cenv hcl hcf => ?_⟩
    have gBh : ∀ b o, (PySem.W.hideAll B [ce.locals]).get? b = some o → b ≠ ce.locals ∧ B.get? b = some o := fun b o e => by
      refine ⟨fun z => ?_, PySem.W.of_hideAll _ e⟩
      rw [z, PySem.W.hideAll_none _ List.mem_cons_self] at e
      cases e
    have hid : ∀ b, B.get? b = none → (PySem.W.hideAll B [ce.locals]).get? b = none := fun b e => by
      cases q : (PySem.W.hideAll B [ce.locals]).get? b with
      | none => rfl
      | some o =>
        have z := PySem.W.of_hideAll _ q
        rw [e] at z; cases z
    have hh2 : HeldZ (PySem.W.hideAll B [ce.locals]) (X.env :: X.outer) a (Zc cls d) X.env.locals h2 := by
      refine ⟨fun b o e => (sb.2 b (gBh b o e).1).trans (k1 b o (gBh b o e).2), hid a k2, ?_, oe, vs, T, oT, ts, (sb.2 a naC).trans he, hz, hd, h1', hid T hnT, hTe, (sb.2 T nTC).trans hT, hdT, h3⟩
      refine funFrames_none (funFrames_same k3 fun b hb => sb.2 b fun z => ncf (by rw [← z, hs]; exact hb)) fun b hb => hid b (by obtain ⟨q, _⟩ := k3.mem hb; exact q)
    unfold PySem.passOn
    refine wpAny_bind (wpAny_field ((sb.2 a naC).trans he) hd h1' ?_)
    rw [if_neg (show ¬ ((Value.ref T == Value.none) = true) from by simp)]
    rw [hcf, hce, hf]
    refine wpAny_bind (setFlight_onZ hh2 fun h3 hh3 up3 => ?_)
    refine wpAny_throw ?_
    have nC : H' ce.locals = none := I.free
    have J : Inv X pins σ H' sI := I3.call' (ch := fp) I.os I.base I.hok I.bare fun b hb => ⟨(f3 b hb).1.2.2.2.1, (f3 b hb).1.2.1, (f3 b hb).1.2.2.2.2.1, (f3 b hb).1.2.2.2.2.2⟩
    obtain ⟨g0, g1, g2, g3, g4, g5⟩ := I3.fpOk (Nat.le_of_eq hC.symm) nC
    have hne : ∀ b o, (PySem.W.hideAll sI.heap [ce.locals]).get? b = some o → b ≠ ce.locals ∧ sI.heap.get? b = some o := fun b o e => by
      refine ⟨fun z => ?_, PySem.W.of_hideAll _ e⟩
      rw [z, PySem.W.hideAll_none _ List.mem_cons_self] at e
      cases e
    have up2 := up.trans up1
    refine tk _ _ ⟨a, PySem.W.hideAll B [ce.locals], { sI with heap := PySem.W.hideAll sI.heap [ce.locals] }, pins, σ, H', cls, d, rfl, J.turned (t' := sI.toks) (fun b o hb e => PySem.W.hideAll_get _ e fun z => hb (List.mem_singleton.mp z)) g0 g1 g3 g4 g5, fun b o e hb => ?_, fun b o e hnf => ?_, .inr (.inr (by rw [hs]; exact hh3)), na, os, ag, hW _ _ _ _ w⟩
    · obtain ⟨e1, e2⟩ := hne b o e
      exact PySem.W.hideAll_get _ (nb b o e2 hb) fun z => e1 (List.mem_singleton.mp z)
    · obtain ⟨e1, e2⟩ := hne b o e
      obtain ⟨sl, q⟩ := up2 b o e2 hnf
      have q2 : h2.get? b = some { o with slots := sl } := (sb.2 b e1).trans q
      obtain ⟨sl', q3⟩ := up3 b _ q2 hnf
      exact ⟨sl', q3⟩
  rcases sky with ⟨hB, hn, hl, oe, vs, he, hz, hd, h1⟩ | ⟨hB, hn, hl, ht⟩ | ⟨hB, hn, hl, ht⟩
  · exact look_newZ Zc.steady hfr hl hf he hB hn hd h1 hz fin
  · exact looks_fl Zc.steady hfr hf hB hn hl ht (by simp [rawInt]) fin
  · exact looks_fl Zc.steady hfr hf hB hn hl ht (by simp [rawInt]; exact fun z => hCn (by exact_mod_cast z)) fin

end
section
variable {X : Cx} {W W' : WX}
noncomputable abbrev ceX (s : Shared) (X : Cx) (scope : Scope) : Env := compEnvC scope (cellsFrom (s.heap.objs.size + 1) scope.names (cloFrom X.env.cells scope.names [])) s.heap.objs.size X.env
/-- the block's exceptions: as the def's slots stood -/
noncomputable abbrev wof (W : WX) (σ : L2.St) : WX := fun cls d _ H => W cls d σ H
/-- what the block's parts are asked -/
structure BX (X : Cx) (W' : WX) (scope : Scope) (tg : Expr) (ifs : List Expr) (elt : Expr) (g : TG) (tt : TT) (te : TE) : Prop where
  pg : ∀ (s : Shared) (H : Hp) (cl : List (Str × Addr)) (C : Addr) (fp : List Addr) (E : Value → Shared → Prop), Takes (X.blkX s H scope (compEnvC scope cl C X.env) fp E) W' → PassesOwn (model X.prog X.w) X.A (compEnvC scope cl C X.env) E → PG (X.blkX s H scope (compEnvC scope cl C X.env) fp E) tg g
  pt : ∀ (s : Shared) (H : Hp) (cl : List (Str × Addr)) (C : Addr) (fp : List Addr) (E : Value → Shared → Prop), Takes (X.blkX s H scope (compEnvC scope cl C X.env) fp E) W' → PassesOwn (model X.prog X.w) X.A (compEnvC scope cl C X.env) E → PTs (X.blkX s H scope (compEnvC scope cl C X.env) fp E) ifs tt
  pe : ∀ (s : Shared) (H : Hp) (cl : List (Str × Addr)) (C : Addr) (fp : List Addr) (E : Value → Shared → Prop), Takes (X.blkX s H scope (compEnvC scope cl C X.env) fp E) W' → PassesOwn (model X.prog X.w) X.A (compEnvC scope cl C X.env) E → PE (X.blkX s H scope (compEnvC scope cl C X.env) fp E) elt te
theorem pe_lcx {elt tg iter : Expr} {ifs : List Expr} {scope : Scope} {own : List (Str × Nat)} {pos : Pos} {wi : TI} {g : TG} {tt : L2.St → TT} {te : L2.St → TE} (hc : X.calm = true) (hN : X.N.Nodup) (tk : Takes X W) (hst : X.stack = X.env :: X.outer) (hfr : X.env.frame = some X.env.locals)
    (hi : PI X tg iter wi) (ok : BlkOk X.N X.env.scope scope own) (B : ∀ σ, BX X (wof W σ) scope tg ifs elt g (tt σ) (te σ)) (hs : ∀ x, foldedSetIterable iter X.env x = pure x := by intro _; rfl) :
    PE X (.ListComp elt [⟨tg, iter, ifs, 0⟩] scope pos) (fun σ H Q => tLc wi g (tt σ) (te σ) (own.map (·.2)) σ H Q) := by
  refine ⟨fun pins s σ H Q I h => ?_⟩
  rw [eval_ListComp]
  have hfree : ∀ y ∈ scope.names, y.2 = .free → ∃ c, X.env.cells.lookup y.1 = some c := fun y hy e => by
    rcases ok.free y hy e with k | k
    · exact I.ok.has _ (.inl k)
    · exact I.ok.has _ (.inr k)
  refine compX rfl hs (closure_ok hfree) ok.kind (fun y hy e => by rw [ok.uniq y hy, e]) (thn (hi.run pins s σ H _ I h) fun xv s1 hx => thn hx fun itv s2 h2 => ?_)
  obtain ⟨it, fp, tn, J, H2, e, I2, T, st2, f2, q⟩ := h2
  subst e
  refine wpAny_newObj_type (newEnv_comp ?_) (by show 0 ≤ sizeLine; decide)
  generalize hD : s2.heap.objs.size = Dd
  have hDn : H2 Dd = none := I2.hok.fresh (Nat.le_of_eq hD)
  obtain ⟨Wl, ⟨m0, w0⟩, turn⟩ := q Dd hDn
  generalize hs3 : ({ s2 with heap := s2.heap.push { cls := .type "list", data := .seq ([] : List Value).toArray } } : Shared) = s3
  have I3 : Inv X pins σ (upd H2 Dd (.lst [])) s3 := by
    rw [← hs3]
    refine I2.laid (t' := s2.toks) (fun b o e => Heap.get?_push_of_some _ e) (Nat.le_of_eq hD) ⟨Nat.zero_le _, [], 0, .nil, ?_⟩
    rw [← hD]
    exact Heap.get?_push_size _ rfl
  have h3 : s3.heap = s2.heap.push { cls := .type "list", data := .seq ([] : List Value).toArray } := by rw [← hs3]
  have f3 : ∀ b ∈ fp, FpOk X pins (upd H2 Dd (.lst [])) b ∧ b < s3.heap.objs.size := fun b hb => by
    obtain ⟨o, e, _⟩ := T.obj _ _ st2 b hb
    have hlt := Heap.lt_size e
    refine ⟨⟨?_, (f2 b hb).2⟩, by rw [h3, Heap.size_push]; exact Nat.lt_succ_of_lt hlt⟩
    rw [upd_ne (by rw [← hD]; exact Nat.ne_of_lt hlt)]
    exact (f2 b hb).1
  have st3 : tn 0 s3.heap := T.keep _ _ _ st2 fun b _ o e => by rw [h3]; exact Heap.get?_push_of_some _ e
  have I4 := block_start I3 ok hN f3
  have nfp : ∀ b ∈ fp, (upd H2 Dd (.lst [])) b = none := fun b hb => (f3 b hb).1.1
  show codeAny _ _ (.compStart (.ListComp elt [⟨tg, iter, ifs, 0⟩] scope pos) 0 (.ref it) (.ref Dd) (ceX s3 X scope)) (endX (model X.prog X.w) X.A X.xe (EP X pins σ Q) (.ref Dd) (ceX s3 X scope).locals (ceX s3 X scope).frame) { s3 with heap := pushCells (s3.heap.push { cls := .type "dict", data := .dict #[] }) scope.names }
  have hcf : (ceX s3 X scope).frame = X.env.frame := rfl
  have hcl : (ceX s3 X scope).locals = s3.heap.objs.size := rfl
  generalize hxe : notedBy (model X.prog X.w) X.A (ceX s3 X scope) (fun e s' => endX (model X.prog X.w) X.A X.xe (EP X pins σ Q) (.ref Dd) (ceX s3 X scope).locals (ceX s3 X scope).frame (.error e) s') = Eb
  have tkB : Takes (X.blkX s3 (upd H2 Dd (.lst [])) scope (ceX s3 X scope) fp Eb) (wof W σ) := fun u s' x => by
    rw [← hxe]
    exact blk_throw I3 tk hst hfr hcf hcl f3 (fun _ _ _ _ w => w) x
  have own' : PassesOwn (model X.prog X.w) X.A (ceX s3 X scope) Eb := by
    rw [← hxe]
    exact PassesOwn.looking
  have pg := (B σ).pg s3 (upd H2 Dd (.lst [])) _ _ fp Eb tkB own'
  have pt := (B σ).pt s3 (upd H2 Dd (.lst [])) _ _ fp Eb tkB own'
  have pe := (B σ).pe s3 (upd H2 Dd (.lst [])) _ _ fp Eb tkB own'
  have I4 := Inv.setX Eb I4
  change Inv (X.blkX s3 (upd H2 Dd (.lst [])) scope (ceX s3 X scope) fp Eb) [] _ _ _ at I4
  change PG (X.blkX s3 (upd H2 Dd (.lst [])) scope (ceX s3 X scope) fp Eb) _ _ at pg
  change PTs (X.blkX s3 (upd H2 Dd (.lst [])) scope (ceX s3 X scope) fp Eb) _ _ at pt
  change PE (X.blkX s3 (upd H2 Dd (.lst [])) scope (ceX s3 X scope) fp Eb) _ _ at pe
  generalize hce : ceX s3 X scope = ce at I4 pg pt pe hcf hcl hxe ⊢
  generalize hH3 : upd H2 Dd (.lst []) = H3 at I3 I4 pg pt pe w0 nfp f3
  generalize hs4 : ({ s3 with heap := pushCells (s3.heap.push { cls := .type "dict", data := .dict #[] }) scope.names } : Shared) = s4 at I4 ⊢
  have st4 : tn 0 s4.heap := T.keep _ _ _ st3 fun b _ o e => by rw [← hs4]; exact pushCells_keeps _ _ _ _ (Heap.get?_push_of_some _ e)
  have stat : ∀ {σ' : L2.St} {H' : Hp} {s' : Shared}, Inv (X.blkX s3 H3 scope ce fp Eb) [] σ' H' s' → (∀ b ∈ fp, H' b = none) → ∀ b ∈ fp, FpOk (X.blkX s3 H3 scope ce fp Eb) [] H' b := fun {σ' H' s'} I' hn b hb =>
    ⟨hn b hb, (I'.ok.exf b hb).1, I'.ok.exfs b hb, .inl hb, fun x c e => (I'.ok.exf b hb).2 x c e, fun p hp => absurd (show p ∈ ([] : List (Addr × Obj)) ++ [] from hp) (by simp)⟩
  have loop : codeAny (model X.prog X.w) X.A (.compLoop (.ListComp elt [⟨tg, iter, ifs, 0⟩] scope pos) 0 (.ref it) (.ref Dd) ce) (endX (model X.prog X.w) X.A X.xe (EP X pins σ Q) (.ref Dd) ce.locals ce.frame) s4 := by
    refine compLoop_any (fun n s' => ∃ i H', Inv (X.blkX s3 H3 scope ce fp Eb) [] (L2.wipe σ (own.map (·.2))) H' s' ∧ tn i s'.heap ∧ (∀ b ∈ fp, H' b = none) ∧ Wl i n H') ?_ m0 ⟨0, H3, I4, st4, nfp, w0⟩
    rintro n s5 ⟨i, H5, I5, st5, n5, w5⟩
    rw [hxe]
    rcases turn i n H5 w5 with ⟨stop, qq⟩ | ⟨go, Nx, hNx, step⟩
    · refine thnF (T.done (X.blkX s3 H3 scope ce fp Eb) rfl rfl rfl hc i [] s5 _ H5 (fun _ _ => False) I5 (stat I5 n5) st5 stop) fun r s6 ⟨hr, I6⟩ => ?_
      subst hr
      have I7 : Inv X pins σ H5 s6 := I3.call' (ch := fp) I6.os I6.base I6.hok I6.bare fun b hb => ⟨(f3 b hb).1.2.2.2.1, (f3 b hb).1.2.1, (f3 b hb).1.2.2.2.2.1, (f3 b hb).1.2.2.2.2.2⟩
      have nC : H5 ce.locals = none := I6.free
      obtain ⟨m, hn, _⟩ := I6.loc
      obtain ⟨f0, f1, f2', f3', f4, f5⟩ := I3.fpOk (Nat.le_of_eq hcl.symm) nC
      exact ⟨m, hn, fun h'' sb => ⟨.ref Dd, H5, I7.turned (t' := s6.toks) (fun b o hb e => (sb.2 b hb).trans e) f0 f1 f3' f4 f5, rfl, qq⟩⟩
    · refine thnF (T.item (X.blkX s3 H3 scope ce fp Eb) rfl rfl rfl hc i [] s5 _ H5 (fun _ _ => False) I5 (stat I5 n5) st5 go) fun r s6 ⟨u, hr, h6⟩ => ?_
      subst hr
      refine thnF h6 fun _ s7 ⟨x, H7, I7, r7, y7, st7, n7⟩ => ?_
      have I7' := I7.pinned (stat I7 n7) (T.obj _ _ st7)
      refine thn (pg.run _ s7 _ H7 x u _ I7' r7 (step x H7 y7)) fun _ s8 ⟨σ8, H8, I8, hw8, q8⟩ => ?_
      refine thn (pt.run _ s8 σ8 H8 _ I8 q8) fun b s9 ⟨H9, I9, q9⟩ => ?_
      have fin : ∀ {s' : Shared} {H' : Hp}, Inv (X.blkX s3 H3 scope ce fp Eb) ([] ++ pinsAt fp s7.heap) σ8 H' s' → Nx H' → ∃ m, m < n ∧ ∃ i H', Inv (X.blkX s3 H3 scope ce fp Eb) [] (L2.wipe σ (own.map (·.2))) H' s' ∧ tn i s'.heap ∧ (∀ b ∈ fp, H' b = none) ∧ Wl i m H' := fun {s' H'} I' nx => by
        obtain ⟨m', hm, w'⟩ := hNx H' nx
        have pin' : ∀ b ∈ fp, ∀ o, s7.heap.get? b = some o → s'.heap.get? b = some o ∧ H' b = none := fun b hb o e =>
          let z := I'.pin (b, o) (List.mem_append_right _ (List.mem_append_right _ (mem_pinsAt hb e)))
          ⟨z.1, z.2.1⟩
        have hl : (L2.wipe σ (own.map (·.2))).length = σ8.length := by rw [← hw8, L2.wipe_length]
        refine ⟨m', hm, i + 1, H', (I'.unpinned (pins := [])).weak hl (fun j v e => ?_), T.keep _ _ _ st7 fun b hb o e => (pin' b hb o e).1, fun b hb => ?_, w'⟩
        · rw [← hw8] at e
          exact (L2.wipe_some e).1
        · obtain ⟨o, e, _⟩ := T.obj _ _ st7 b hb
          exact (pin' b hb o e).2
      cases b with
      | false =>
        simp only [Bool.false_eq_true, if_false] at q9 ⊢
        exact fin I9 q9
      | true =>
        simp only [if_true] at q9 ⊢
        refine thn (pe.run _ s9 σ8 H9 _ I9 q9) fun z s10 ⟨yv, H10, I10, r10, acc, hD10, hz10, nx⟩ => ?_
        exact app_ok (X := X.blkX s3 H3 scope ce fp Eb) I10 hD10 hz10 r10 fun s11 I11 => fin I11 nx
  exact codeAny_compStart_list loop (T.self X.A 0 _ _ _ st4 loop)
end
/-! ### the mirror -/
noncomputable def lcX (elt : ED) (test : BD) (tg : Tg) (it : Itg) (N : Nat) (δ : Sl) : Nat → Nat → AH → R D
  | 0, i, h => match nxtI it i h with
    | some none => .ok (.loc N) h
    | _ => .no
  | f + 1, i, h => match nxtI it i h with
    | none => .no
    | some none => .ok (.loc N) h
    | some (some d) => match asgT tg d δ with
      | none => .no
      | some δ1 => match test δ1 h with
        | .ok true h1 => (match elt δ1 h1 with
          | .ok y h2 => (match h2[N]? with
            | some (.lst acc) => if acc.length < lim then lcX elt test tg it N δ f (i + 1) (h2.set N (.lst (acc ++ [y]))) else .no
            | _ => .no)
          | .ex c fs h2 => .ex c fs h2
          | .no => .no)
        | .ok false h1 => lcX elt test tg it N δ f (i + 1) h1
        | _ => .no
noncomputable def eLcX (mi : ID) (tg : Tg) (test : BD) (elt : ED) (vs : List Nat) : ED := fun δ h => (mi δ h).bind fun it h1 => lcX elt test tg it h1.length (dwipe δ vs) (cntI it h1) 0 (h1 ++ [.lst []])
section
variable {L : Lk} {W : WX}
theorem lcx_of {mi : ID} {tg' : Tg} {mt : BD} {me : ED} {vs : List Nat} (hv : ∀ i ∈ tgS tg', i ∈ vs) (σ : L2.St) (H : Hp) (Q : VK) : tE L W (eLcX mi tg' mt me vs) σ H Q → tLc (tI L W mi) (tG L tg') (tBo L (wof W σ) mt) (tE L (wof W σ) me) vs σ H Q := by
  rintro ⟨A, δ, h, rs, rh, p⟩
  refine ⟨A, δ, h, rs, rh, (Po.bind p).imp fun J H1 ⟨A1, it, h1, l1, rh1, ok, p1⟩ => fun Dd nD => ?_⟩
  have rhD : RH L (A1 ++ [Dd]) (h1 ++ [.lst []]) (upd H1 Dd (.lst [])) := rh1.newO nD ⟨[], upd_same, .nil⟩
  have lD : Le A1 H1 (A1 ++ [Dd]) (upd H1 Dd (.lst [])) := Le.newA nD
  have eD : ∀ {A' : List Addr} {H' : Hp}, Le (A1 ++ [Dd]) (upd H1 Dd (.lst [])) A' H' → A'[h1.length]? = some Dd := fun l => l.at (by rw [← rh1.len]; simp)
  refine ⟨fun i m H' => ∃ A' h', Le (A1 ++ [Dd]) (upd H1 Dd (.lst [])) A' H' ∧ RH L A' h' H' ∧ Po L W σ A' H' (RD L) (lcX me mt tg' it h1.length (dwipe δ vs) m i h') Q, ⟨cntI it h1, _, _, Le.refl _ _, rhD, Po.le lD p1⟩, ?_⟩
  rintro i m H2 ⟨A2, h2, l2, rh2, p2⟩
  obtain ⟨stop, go⟩ := ok A2 H2 h2 i (lD.trans l2) rh2
  have rs2 : RS L A2 H2 (dwipe δ vs) (L2.wipe σ vs) := (rs.mono (l1.trans (lD.trans l2))).wipe vs
  cases m with
  | zero =>
    unfold lcX at p2
    split at p2
    · rename_i en
      exact .inl ⟨stop en, Po.ok p2 rh2 (.loc (eD l2))⟩
    · exact p2.elim
  | succ f =>
    unfold lcX at p2
    split at p2
    · exact p2.elim
    · rename_i en
      exact .inl ⟨stop en, Po.ok p2 rh2 (.loc (eD l2))⟩
    · rename_i d en
      obtain ⟨g1, g2⟩ := go d en
      refine .inr ⟨g1, fun H' => ∃ A' h', Le (A1 ++ [Dd]) (upd H1 Dd (.lst [])) A' H' ∧ RH L A' h' H' ∧ Po L W σ A' H' (RD L) (lcX me mt tg' it h1.length (dwipe δ vs) f (i + 1) h') Q, fun H' hN => ⟨f, Nat.lt_succ_self f, hN⟩, fun x H' hy => ?_⟩
      obtain ⟨A3, l3, rh3, rd3⟩ := g2 x H' hy
      refine ⟨A3, dwipe δ vs, h2, d, rs2.mono l3, rh3, rd3, ?_⟩
      cases ea : asgT tg' d (dwipe δ vs) with
      | none => rw [ea] at p2; exact p2.elim
      | some δ3 =>
        rw [ea] at p2
        intro σ' rs' hw
        refine ⟨(hw vs hv).trans (wipe_wipe σ vs), A3, δ3, h2, rs', rh3, ?_⟩
        have p3 := Po.le l3 p2
        cases et : mt δ3 h2 with
        | no => simp only [et] at p3; exact p3.elim
        | ex c fs h4 => simp only [et] at p3; exact p3.elim
        | ok b h4 =>
          intro A4 b' H4 l4 rh4 eb
          cases eb
          cases b with
          | false =>
            simp only [et] at p3
            rw [if_neg Bool.false_ne_true]
            exact ⟨A4, h4, l2.trans (l3.trans l4), rh4, Po.le l4 p3⟩
          | true =>
            simp only [et] at p3
            rw [if_pos rfl]
            refine ⟨A4, δ3, h4, rs'.mono l4, rh4, ?_⟩
            have p4 := Po.le l4 p3
            cases ee : me δ3 h4 with
            | no => simp only [ee] at p4; exact p4.elim
            | ex c fs h5 =>
              simp only [ee] at p4
              exact fun A' dd H' l rh' q => p4 A' dd H' l rh' q
            | ok y h5 =>
              intro A5 y' H5 l5 rh5 ry
              simp only [ee] at p3
              have l25 := l2.trans (l3.trans (l4.trans l5))
              split at p3
              · rename_i acc e6
                obtain ⟨ws, g5, r5⟩ := rh5.get _ _ _ (eD l25) e6
                split at p3
                · rename_i hz
                  have mu : mutH (H5 Dd) := by rw [g5]; trivial
                  exact ⟨ws, g5, by rw [← r5.length]; exact lim_lt hz, A5, h5.set h1.length (.lst (acc ++ [y])), l25.trans (Le.put mu), rh5.put (eD l25) e6 rfl mu ⟨_, upd_same, RDs.mono (Le.put mu) _ _ (r5.append (.cons ry .nil))⟩, Po.le (l4.trans (l5.trans (Le.put mu))) p3⟩
                · exact p3.elim
              · exact p3.elim
end
theorem Ok.blkx {Γ : Gm} {fn : Fn} {k : Nat} {X : Cx} {L : Lk} {W W' : WX} (O : Ok Γ fn k X L W) (s : Shared) (H : Hp) (scope : Scope) (cl : List (Str × Addr)) (C : Addr) (fp : List Addr) (E : Value → Shared → Prop) (hk : scope.kind = .function) (tk : Takes (X.blkX s H scope (compEnvC scope cl C X.env) fp E) W') (ow : PassesOwn (model X.prog X.w) X.A (compEnvC scope cl C X.env) E) :
    Ok (inBlk Γ scope) fn k (X.blkX s H scope (compEnvC scope cl C X.env) fp E) L W' where
  hN := O.hN
  nd := O.nd
  names := (O.blk s H scope cl C fp hk).names
  kind := hk
  calm := O.calm
  tk := tk
  own := ow
  room := O.room
  hK := O.hK
  hw := O.hw
  top := fun x h => h
  gfn := O.gfn
  gval := O.gval
  gblt := O.gblt
  cod := fun h => by
    have h : (Γ.gx && Γ.g1) = true := h
    rw [Bool.and_eq_true] at h
    exact (O.cod h.1).blk h.2 rfl rfl rfl
  gexc := O.gexc
  xtab := O.xtab
  xn := O.xn
  gtup := O.gtup
  stk := fun h => nomatch h
  dfg := fun h => nomatch h
  gcls := O.gcls
  gmth := O.gmth
  gmk := O.gmk
  gxm := O.gxm
/-- a method's call -/
noncomputable def mthE : Expr → Bool
  | .Call (.Attribute _ _ _) _ _ _ => true
  | _ => false
end Cod

namespace Cod
open PySem L2 PyProof.Rows

theorem few_ok {es : List Expr} {e : Expr} {env : Env} {p : Pos} (h1 : (backTo p (starEach (e :: es) env)).all (fun x => !x.1) = true) (h2 : es.length < 20) :
    ((backTo p (starEach (e :: es) env)).all (fun x => !x.1) && (backToKw p (keywordEach [] env)).all (fun x => x.1.isSome)
      && decide ((e :: es).length + ([] : List Keyword).length + (if ([] : List Keyword).isEmpty then 0 else 1) < 30)) = true := by
  rw [h1]
  simp [keywordEach, backToKw]
  omega
structure CTs (Γ : Gm) (fn : Fn) (es : List Expr) where
  m : BD
  ok : ∀ {k : Nat} {X : Cx} {L : Lk} {W : WX}, Ok Γ fn k X L W → PTs X es (tBo L W m)
theorem ts_nil {X : Cx} {L : Lk} {W : WX} : PTs X [] (tBo L W fun _ h => .ok true h) := ⟨fun pins s σ H Q I ⟨A, δ, h, rs, rh, p⟩ => pts_nil.run pins s σ H Q I (Po.ok p rh rfl)⟩
structure Glb (Γ : Gm) (x : Str) : Prop where
  kind : Γ.names.lookup x = some .globalImplicit
  blt : x ∈ Γ.blt
  pl : plainName x = true
noncomputable instance (Γ : Gm) (x : Str) : Decidable (Glb Γ x) := if h : Γ.names.lookup x = some .globalImplicit ∧ x ∈ Γ.blt ∧ plainName x = true then .isTrue ⟨h.1, h.2.1, h.2.2⟩ else .isFalse fun z => h ⟨z.kind, z.blt, z.pl⟩
noncomputable def noLS : Expr → Bool
  | .List _ _ => false
  | .Set _ _ _ => false
  | _ => true
theorem noLS_ok {e : Expr} {env : Env} (h : noLS e = true) : ∀ v, genFold e env v = pure v := by
  intro v
  cases e <;> first | rfl | cases h
theorem gxOk_of {Γ : Gm} {fn : Fn} {k : Nat} {X : Cx} {L : Lk} {W : WX} {tg iter elt : Expr} {scope : Scope} {gpos : Pos} {wi : TI} {g : TG} {te : TE} {vs : List Nat} (O : Ok Γ fn k X L W) (hgx : Γ.gx = true) (hn : Γ.nest ≠ 0) (hs : gscC Γ.N Γ.names scope vs = true) (hl : noLS iter = true) (hi : PI X tg iter wi)
    (pg : ∀ (A' : Around) (Cc : Addr) (cv : Value) (fp : List Addr) (a : Addr) (go : Obj) (s : Shared) (H : Hp), Room (3 * k + (Γ.nest - 1)) A' → Zg L.tb Γ.g1 gpos H cv → PG (gX X A' (gE X scope Cc cv) fp a go s H) tg g)
    (pe : ∀ (A' : Around) (Cc : Addr) (cv : Value) (fp : List Addr) (a : Addr) (go : Obj) (s : Shared) (H : Hp), Room (3 * k + (Γ.nest - 1)) A' → Zg L.tb Γ.g1 gpos H cv → PE (gX X A' (gE X scope Cc cv) fp a go s H) elt te) : GxOk X (3 * k + (Γ.nest - 1)) tg iter elt scope gpos L.tb Γ.g1 wi g te vs :=
  ⟨O.room.mono (by omega), O.calm, O.cod hgx, by rw [O.hN]; exact gscC_ok O.names hs, hi, noLS_ok hl, pg, pe⟩
noncomputable def gTup (Γ : Gm) (x : Str) : Option { xs : List D // Γ.glb.lookup x = some (.val (.tup xs)) } := match Γ.glb.lookup x with
  | some (.val (.tup xs)) => some ⟨xs, rfl⟩
  | _ => none
/-- an attribute -/
noncomputable def attE : Expr → Bool
  | .Attribute _ _ _ => true
  | _ => false
mutual
noncomputable def cE (fn : Fn) : Nat → (Γ : Gm) → (e : Expr) → Option (CE Γ fn e)
  | 0, _, _ => none
  | n + 1, Γ, e => match e with
    | .Constant c j pos => match c with
      | .int i => some ⟨eC (.int i), fun _ => e_int⟩
      | .bool i => some ⟨eC (.bl i), fun _ => e_bl⟩
      | .str i => some ⟨eC (.str i), fun _ => e_str⟩
      | .none => some ⟨eC .non, fun _ => e_non⟩
      | _ => none
    | .Name x pos => if hp : plainName x = true then
        (if h : Γ.N[ixOf Γ.N x]? = some x ∧ isVis Γ x = true then some ⟨eVar (ixOf Γ.N x), fun O => e_var (by rw [O.hN]; exact h.1) (O.vis h.2) (plain1 hp).1 (plain1 hp).2.1⟩
        else if hg : Γ.names.lookup x = some .globalImplicit then (match gVal Γ x with
          | some ⟨d, hd⟩ => some ⟨eC d, fun O => by
              obtain ⟨v, u, h1, h2, h3⟩ := O.gval x d hd
              exact e_glob (O.gl hg) h1 h2 h3 (plain1 hp).1⟩
          | none => if hb : x ∈ Γ.blt then (match cTy x with
            | some t => some ⟨eC (.ty t.n), fun O => e_const (pe_bltn (v := .ty t.n) (O.gl hg) (O.gblt x hb) t.boot rfl (plain1 hp).2.2 (plain1 hp).1) fun _ _ => .ty t.n⟩
            | none => none) else none)
        else none) else none
    | .BinOp a op b pos => match cOp op, cE fn n Γ a, cE fn n Γ b with
      | some o, some ca, some cb => some ⟨e2 o.g ca.m cb.m, fun O => e_op (o.ok O.hK) (ca.ok O) (cb.ok O)⟩
      | _, _, _ => none
    | .UnaryOp op a pos => match op, cE fn n Γ a with
      | .USub, some ca => some ⟨e1 negD ca.m, fun O => e_un un_negS (ca.ok O)⟩
      | .Not, some ca => some ⟨e1 notD ca.m, fun O => e_not (ca.ok O)⟩
      | _, _ => none
    | .BoolOp op es pos => cBo fn n Γ op es pos
    | .IfExp c a b pos => match cB fn n Γ c, cE fn n Γ a, cE fn n Γ b with
      | some cc, some ca, some cb => some ⟨eIf cc.m ca.m cb.m, fun O => e_if (cc.ok O) (ca.ok O) (cb.ok O)⟩
      | _, _, _ => none
    | .Compare a ops bs pos => match ops, bs with
      | [op], [b] => if hs : noSet b = true then (match cCmp op, cE fn n Γ a, cE fn n Γ b with
        | some o, some ca, some cb => some ⟨e2 o.g ca.m cb.m, fun O => e_cmp (o.ok O.hK O.units) (ca.ok O) (cb.ok O) (marks_ok hs)⟩
        | _, _, _ => none) else none
      | [op, op'], [b, c] => if hs : noSet c = true then (match cCmp op, cCmp op', cE fn n Γ a, cE fn n Γ b, cE fn n Γ c with
        | some o, some o', some ca, some cb, some cc => some ⟨eCh o.g o'.g ca.m cb.m cc.m, fun O => e_ch (o.ok O.hK O.units) (o'.ok O.hK O.units) (ca.ok O) (cb.ok O) (cc.ok O) (last_ok hs)⟩
        | _, _, _, _, _ => none) else none
      | [op, op', op2], [b, c, d] => if hs : noSet d = true then (match cCmp op, cCmp op', cCmp op2, cE fn n Γ a, cE fn n Γ b, cE fn n Γ c, cE fn n Γ d with
        | some o, some o', some o2, some ca, some cb, some cc, some cd => some ⟨eCh3 o.g o'.g o2.g ca.m cb.m cc.m cd.m, fun O => e_ch3 (o.ok O.hK O.units) (o'.ok O.hK O.units) (o2.ok O.hK O.units) (ca.ok O) (cb.ok O) (cc.ok O) (cd.ok O) (last3_ok hs)⟩
        | _, _, _, _, _, _, _ => none) else none
      | _, _ => none
    | .Tuple es kk pos => match cA fn n Γ es with
      | some c => some ⟨eA mkTup c.m, fun O => e_tup (c.ok O)⟩
      | none => none
    | .Dict [] [] pos => some ⟨eDict0, fun _ => e_dict0⟩
    | .Dict keys values pos => if hk : keys.all (·.isSome) = true ∧ keys.length = values.length ∧ keys ≠ [] ∧ keys.length ≤ 15 then (match cP fn n Γ pos keys values with
      | some c => some ⟨eDisp c.m, fun O => e_disp (c.ok O) hk.1 hk.2.1 hk.2.2.1 hk.2.2.2⟩
      | none => none) else none
    | .List es pos => match cA fn n Γ es with
      | some c => some ⟨eA mkLst c.m, fun O => e_lst (c.ok O)⟩
      | none => none
    | .Subscript a (.Slice none none (some (.UnaryOp .USub (.Constant (.int 1) k p1) p2)) p3) pos => match cE fn n Γ a with
      | some ca => some ⟨e1 rvD ca.m, fun O => e_rv O.hK (ca.ok O)⟩
      | none => none
    | .Subscript a (.Slice lo hi none p2) pos => match cE fn n Γ a, cO fn n Γ lo, cO fn n Γ hi with
      | some ca, some cl, some ch => some ⟨eSl ca.m cl.m ch.m, fun O => e_sl O.hK (ca.ok O) (cl.ok O) (ch.ok O)⟩
      | _, _, _ => none
    | .Subscript a b pos => if hs : noSlice b = true then (match cE fn n Γ a, cE fn n Γ b with
      | some ca, some cb => some ⟨e2 ixD ca.m cb.m, fun O => e_ix (ix_S O.hK O.hw (by have := O.units; omega)) (ca.ok O) (cb.ok O) (plain_ok hs)⟩
      | _, _ => none) else none
    | .Call (.Name x p) [] [] pos => if hp : plainName x = true ∧ Γ.names.lookup x = some .globalImplicit then (match gFn Γ x with
      | some ⟨(i, m), hf⟩ => some ⟨eA (callD m (fn i)) aNil, fun O => by
          obtain ⟨fd, ps, h1, h2, h3, h4⟩ := O.gfn x i m hf
          exact e_call0 (i := i) h4 (O.room.mono (Nat.le_add_right _ _)) (O.gl hp.2) h1 h2 h3 O.tk (plain1 hp.1).1⟩
      | none => match gCl Γ x with
      | some ⟨(c, i, m), hf⟩ => if hn : 1 ≤ Γ.nest then some ⟨eMk c i m fn aNil, fun O => by
          obtain ⟨fd, ps, h1, h2, h3, h4⟩ := O.gmk x c i m hf
          exact e_mk0 h2 h4 (O.room.mono (by omega)) (O.gl hp.2) h1 h3 O.tk (plain1 hp.1).1⟩ else none
      | none => none) else none
    | .Call (.Name x p) [.GeneratorExp elt [⟨tg, iter, [], 0⟩] scope gpos] [] pos => if hk : Γ.names.lookup x = some .globalImplicit ∧ x ∈ Γ.blt ∧ Γ.gx = true ∧ Γ.nest ≠ 0 ∧ gscC Γ.N Γ.names scope ((ownOf Γ scope).map (·.2)) = true ∧ noLS iter = true then
        (match cI fn n Γ tg iter, cG (inGx Γ scope) n tg, cE fn n (inGx Γ scope) elt with
        | some ci, some cg, some ce => if hv : ∀ i ∈ tgS cg.tg, i ∈ (ownOf Γ scope).map (·.2) then
          (if hx : x = "all" then some ⟨eGx false ci.m cg.tg ce.m ((ownOf Γ scope).map (·.2)), fun O => by
              obtain ⟨k1, k2, k3, k4, k5, k6⟩ := hk
              subst hx
              exact PE.weak (pe_allG (gxOk_of O k3 k4 k5 k6 (ci.ok O) (fun A' Cc cv fp a go s H hr hz => cg.ok (O.gxc A' Cc cv fp a go s H (gscC_ok O.names k5).kind k3 hr hz)) (fun A' Cc cv fp a go s H hr hz => ce.ok (O.gxc A' Cc cv fp a go s H (gscC_ok O.names k5).kind k3 hr hz))) (O.gl k1) (O.gblt _ k2)) (gx_of hv)⟩ else
          if hx : x = "any" then some ⟨eGx true ci.m cg.tg ce.m ((ownOf Γ scope).map (·.2)), fun O => by
              obtain ⟨k1, k2, k3, k4, k5, k6⟩ := hk
              subst hx
              exact PE.weak (pe_anyG (gxOk_of O k3 k4 k5 k6 (ci.ok O) (fun A' Cc cv fp a go s H hr hz => cg.ok (O.gxc A' Cc cv fp a go s H (gscC_ok O.names k5).kind k3 hr hz)) (fun A' Cc cv fp a go s H hr hz => ce.ok (O.gxc A' Cc cv fp a go s H (gscC_ok O.names k5).kind k3 hr hz))) (O.gl k1) (O.gblt _ k2)) (gx_of hv)⟩ else
          if hx : x = "sum" then some ⟨eGs ci.m cg.tg ce.m ((ownOf Γ scope).map (·.2)), fun O => by
              obtain ⟨k1, k2, k3, k4, k5, k6⟩ := hk
              subst hx
              exact PE.weak (pe_sumG (gxOk_of O k3 k4 k5 k6 (ci.ok O) (fun A' Cc cv fp a go s H hr hz => cg.ok (O.gxc A' Cc cv fp a go s H (gscC_ok O.names k5).kind k3 hr hz)) (fun A' Cc cv fp a go s H hr hz => ce.ok (O.gxc A' Cc cv fp a go s H (gscC_ok O.names k5).kind k3 hr hz))) (O.gl k1) (O.gblt _ k2)) (gs_of hv)⟩ else
          if hx : x = "tuple" then
            (if attE iter = true then (match cE fn n Γ iter with
              | some cd => some ⟨lockE cd.m (eGt ci.m cg.tg ce.m ((ownOf Γ scope).map (·.2))), fun O => by
                  obtain ⟨k1, k2, k3, k4, k5, k6⟩ := hk
                  subst hx
                  exact e_lock cd.m (PE.weak (pe_tupG (gxOk_of O k3 k4 k5 k6 (ci.ok O) (fun A' Cc cv fp a go s H hr hz => cg.ok (O.gxc A' Cc cv fp a go s H (gscC_ok O.names k5).kind k3 hr hz)) (fun A' Cc cv fp a go s H hr hz => ce.ok (O.gxc A' Cc cv fp a go s H (gscC_ok O.names k5).kind k3 hr hz))) (O.gl k1) (O.gblt _ k2)) (gt_of hv))⟩
              | none => none) else
            some ⟨eGt ci.m cg.tg ce.m ((ownOf Γ scope).map (·.2)), fun O => by
              obtain ⟨k1, k2, k3, k4, k5, k6⟩ := hk
              subst hx
              exact PE.weak (pe_tupG (gxOk_of O k3 k4 k5 k6 (ci.ok O) (fun A' Cc cv fp a go s H hr hz => cg.ok (O.gxc A' Cc cv fp a go s H (gscC_ok O.names k5).kind k3 hr hz)) (fun A' Cc cv fp a go s H hr hz => ce.ok (O.gxc A' Cc cv fp a go s H (gscC_ok O.names k5).kind k3 hr hz))) (O.gl k1) (O.gblt _ k2)) (gt_of hv)⟩) else none) else none
        | _, _, _ => none) else none
    | .Call (.Name x p) (e :: es) [] pos => if hp : plainName x = true ∧ Γ.names.lookup x = some .globalImplicit ∧ noStar e = true then (match cE fn n Γ e, cA fn n Γ es with
      | some ce, some ces => (match gFn Γ x with
        | some ⟨(i, m), hf⟩ => some ⟨eA (callD m (fn i)) (aCons ce.m ces.m), fun O => by
            obtain ⟨fd, ps, h1, h2, h3, h4⟩ := O.gfn x i m hf
            exact e_call (i := i) h4 (O.room.mono (Nat.le_add_right _ _)) (O.gl hp.2.1) h1 h2 h3 O.tk (a_cons (ce.ok O) (ces.ok O) (star_ok hp.2.2)) (plain1 hp.1).1 (star_ok hp.2.2) (ces.star O pos).1⟩
        | none => match gCl Γ x with
        | some ⟨(c, i, m), hf⟩ => if hn : 1 ≤ Γ.nest then some ⟨eMk c i m fn (aCons ce.m ces.m), fun O => by
            obtain ⟨fd, ps, h1, h2, h3, h4⟩ := O.gmk x c i m hf
            exact e_mk h2 h4 (O.room.mono (by omega)) (O.gl hp.2.1) h1 h3 O.tk (a_cons (ce.ok O) (ces.ok O) (star_ok hp.2.2)) (plain1 hp.1).1 (star_ok hp.2.2) (ces.star O pos).1⟩ else none
        | none => if hb : x ∈ Γ.blt then (match cBi x with
          | some b => some ⟨eA b.g (aCons ce.m ces.m), fun O => by
              have ha := a_cons (ce.ok O) (ces.ok O) (star_ok hp.2.2)
              obtain ⟨v, g, boot, kind, ok⟩ := b
              rcases kind with ⟨id, rfl⟩ | ⟨id, rfl⟩
              · exact e_callB (ok O.hK O.calm) (O.gl hp.2.1) (O.gblt x hb) boot ha (plain1 hp.1).2.2 (plain1 hp.1).1 (star_ok hp.2.2) (ces.star O pos).1
              · exact e_callTy (ok O.hK O.calm) (O.gl hp.2.1) (O.gblt x hb) boot ha (plain1 hp.1).2.2 (plain1 hp.1).1 (star_ok hp.2.2) (ces.star O pos).1⟩
          | none => none) else none)
      | _, _ => none) else none
    | .Attribute o name apos => if hp : noCall0 o = true then (match cE fn n Γ o with
      | some co => some ⟨eFldI Γ.cls name co.m, fun O => e_fldI O.gcls (co.ok O) (base_ok hp)⟩
      | none => none) else none
    | .Call (.Attribute o name apos) [] [] pos => if hp : noCall0 o = true ∧ (apos.endLine == pos.line) = true then (if hw : hasMt Γ name = true then (match cE fn n Γ o with
        | some co => some ⟨eMth Γ.mth fn name co.m aNil, fun O => e_mth0 O.gmth (O.room.mono (Nat.le_add_right _ _)) (hasMt_ok hw) O.tk (co.ok O) (base_ok hp.1) hp.2⟩
        | none => none) else match cMt0 name, cE fn n Γ o with
      | some c, some co => some ⟨eMt c.T c.g co.m aNil, fun O => e_mt0 O.hK c.pa c.slot c.ty (c.ok O.hK O.units) (co.ok O) (base_ok hp.1) hp.2⟩
      | _, _ => none) else none
    | .Call (.Attribute (.Name x p1) "index" apos) (e :: es) [] pos => if hp : plainName x = true ∧ Γ.names.lookup x = some .globalImplicit ∧ (apos.endLine == pos.line) = true ∧ noStar e = true ∧ es.length < 20 then (match gTup Γ x, cE fn n Γ e, cA fn n Γ es with
      | some ⟨xs, hx⟩, some ce, some ces => some ⟨eGI (.tup xs) (aCons ce.m ces.m), fun O => by
          obtain ⟨a, o, h1, h2, h3, h4, h5⟩ := O.gtup x xs hx
          exact e_gidx O.hK (O.gl hp.2.1) h1 h2 (plain1 hp.1).1 h3 h4 h5 (a_cons (ce.ok O) (ces.ok O) (star_ok hp.2.2.2.1)) rfl
            (few_ok (by rw [star_ok hp.2.2.2.1]; exact (by show (!false && (backTo pos (starEach es _)).all (fun x => !x.1)) = true; rw [(ces.star O pos).2]; rfl)) hp.2.2.2.2) hp.2.2.1 (star_ok hp.2.2.2.1) (ces.star O pos).1⟩
      | _, _, _ => none) else none
    | .Call (.Attribute o name apos) (e :: es) [] pos => if hp : noCall0 o = true ∧ (apos.endLine == pos.line) = true ∧ noStar e = true ∧ es.length < 20 then (if hw : hasMt Γ name = true then (match cE fn n Γ o, cE fn n Γ e, cA fn n Γ es with
        | some co, some ce, some ces => some ⟨eMth Γ.mth fn name co.m (aCons ce.m ces.m), fun O => e_mth O.gmth (O.room.mono (Nat.le_add_right _ _)) (hasMt_ok hw) O.tk (co.ok O) (a_cons (ce.ok O) (ces.ok O) (star_ok hp.2.2.1)) (base_ok hp.1)
          (few_ok (by rw [star_ok hp.2.2.1]; exact (by show (!false && (backTo pos (starEach es _)).all (fun x => !x.1)) = true; rw [(ces.star O pos).2]; rfl)) hp.2.2.2) hp.2.1 (star_ok hp.2.2.1) (ces.star O pos).1⟩
        | _, _, _ => none) else match cMtN name es.length, cE fn n Γ o, cE fn n Γ e, cA fn n Γ es with
      | some c, some co, some ce, some ces => some ⟨eMt c.T c.g co.m (aCons ce.m ces.m), fun O => e_mt O.hK c.pa c.slot c.ty (c.ok O.hK O.units) (co.ok O) (a_cons (ce.ok O) (ces.ok O) (star_ok hp.2.2.1)) (base_ok hp.1)
          (few_ok (by rw [star_ok hp.2.2.1]; exact (by show (!false && (backTo pos (starEach es _)).all (fun x => !x.1)) = true; rw [(ces.star O pos).2]; rfl)) hp.2.2.2) hp.2.1 (star_ok hp.2.2.1) (ces.star O pos).1⟩
      | _, _, _, _ => none) else none
    | .ListComp elt [⟨tg, iter, ifs, 0⟩] scope pos => if hk : scope.kind = .function ∧ blkC Γ.N (scOf Γ.names) scope (ownOf Γ scope) = true ∧ noSet iter = true then
        (if hx : mthE elt = true ∧ Γ.df = true then (match cI fn n Γ tg iter, cG (inBlk Γ scope) n tg, cTs fn n (inBlk Γ scope) ifs, cE fn n (inBlk Γ scope) elt with
        | some ci, some cg, some ct, some ce => if hv : ∀ i ∈ tgS cg.tg, i ∈ (ownOf Γ scope).map (·.2) then some ⟨eLcX ci.m cg.tg ct.m ce.m ((ownOf Γ scope).map (·.2)), fun {k} {X} {L} {W} O =>
            PE.weak (pe_lcx O.calm O.nd O.tk (O.stk hx.2).1 (O.stk hx.2).2.1 (ci.ok O) (blkOk_by (by rw [O.hN, blkC_eq (sc' := scOf Γ.names) O.names]; exact hk.2.1)) (fun σ => ⟨fun s H cl C fp E tk ow => cg.ok (Ok.blkx (W' := wof W σ) O s H scope cl C fp E hk.1 tk ow), fun s H cl C fp E tk ow => ct.ok (Ok.blkx (W' := wof W σ) O s H scope cl C fp E hk.1 tk ow), fun s H cl C fp E tk ow => ce.ok (Ok.blkx (W' := wof W σ) O s H scope cl C fp E hk.1 tk ow)⟩) (fold_ok hk.2.2)) (lcx_of hv)⟩ else none
        | _, _, _, _ => none) else
        (match cI fn n Γ tg iter, cG (inBlk Γ scope) n tg, cTs fn n (inBlk Γ scope) ifs, cE fn n (inBlk Γ scope) elt with
        | some ci, some cg, some ct, some ce => if hv : ∀ i ∈ tgS cg.tg, i ∈ (ownOf Γ scope).map (·.2) then some ⟨eLc ci.m cg.tg ct.m ce.m ((ownOf Γ scope).map (·.2)), fun O =>
            PE.weak (pe_lc O.calm O.nd (ci.ok O) (blkOk_by (by rw [O.hN, blkC_eq (sc' := scOf Γ.names) O.names]; exact hk.2.1)) (fun s H C cl fp => cg.ok (O.blk s H scope cl C fp hk.1)) (fun s H C cl fp => ct.ok (O.blk s H scope cl C fp hk.1)) (fun s H C cl fp => ce.ok (O.blk s H scope cl C fp hk.1)) (fold_ok hk.2.2)) (lc_of hv)⟩ else none
        | _, _, _, _ => none)) else none
    | .DictComp kx vx [⟨tg, iter, ifs, 0⟩] scope pos => if hk : scope.kind = .function ∧ blkC Γ.N (scOf Γ.names) scope (ownOf Γ scope) = true ∧ noSet iter = true then
        (match cI fn n Γ tg iter, cG (inBlk Γ scope) n tg, cTs fn n (inBlk Γ scope) ifs, cE fn n (inBlk Γ scope) kx, cE fn n (inBlk Γ scope) vx with
        | some ci, some cg, some ct, some ck, some cv => if hv : ∀ i ∈ tgS cg.tg, i ∈ (ownOf Γ scope).map (·.2) then some ⟨eDc ci.m cg.tg ct.m ck.m cv.m ((ownOf Γ scope).map (·.2)), fun O =>
            PE.weak (pe_dc O.calm O.nd (ci.ok O) (blkOk_by (by rw [O.hN, blkC_eq (sc' := scOf Γ.names) O.names]; exact hk.2.1)) (fun s H C cl fp => cg.ok (O.blk s H scope cl C fp hk.1)) (fun s H C cl fp => ct.ok (O.blk s H scope cl C fp hk.1)) (fun s H C cl fp => ck.ok (O.blk s H scope cl C fp hk.1)) (fun s H C cl fp => cv.ok (O.blk s H scope cl C fp hk.1)) (fold_ok hk.2.2)) (dc_of hv)⟩ else none
        | _, _, _, _, _ => none) else none
    | .ListComp elt [⟨tg, iter, ifs, 0⟩, ⟨tg1, iter1, ifs1, 0⟩] scope pos => if hk : scope.kind = .function ∧ blkC Γ.N (scOf Γ.names) scope (ownOf Γ scope) = true ∧ noSet iter = true ∧ noSet iter1 = true then
        (match cI fn n Γ tg iter, cG (inBlk Γ scope) n tg, cTs fn n (inBlk Γ scope) ifs, cI fn n (inBlk Γ scope) tg1 iter1, cG (inBlk Γ scope) n tg1, cTs fn n (inBlk Γ scope) ifs1, cE fn n (inBlk Γ scope) elt with
        | some ci, some cg, some ct, some ci1, some cg1, some ct1, some ce => if hv : (∀ i ∈ tgS cg.tg, i ∈ (ownOf Γ scope).map (·.2)) ∧ ∀ i ∈ tgS cg1.tg, i ∈ (ownOf Γ scope).map (·.2) then some ⟨eLc2 ci.m cg.tg ct.m ci1.m cg1.tg ct1.m ce.m ((ownOf Γ scope).map (·.2)) (tgS cg1.tg), fun O =>
            PE.weak (pe_lc2 O.calm O.nd (ci.ok O) (blkOk_by (by rw [O.hN, blkC_eq (sc' := scOf Γ.names) O.names]; exact hk.2.1)) hv.2 (fun s H C cl fp => cg.ok (O.blk s H scope cl C fp hk.1)) (fun s H C cl fp => ct.ok (O.blk s H scope cl C fp hk.1)) (fun s H C cl fp => ci1.ok (O.blk s H scope cl C fp hk.1)) (fun s H C cl fp => cg1.ok (O.blk s H scope cl C fp hk.1)) (fun s H C cl fp => ct1.ok (O.blk s H scope cl C fp hk.1)) (fun s H C cl fp => ce.ok (O.blk s H scope cl C fp hk.1)) (fold_ok hk.2.2.1) (fun env => fold_ok hk.2.2.2)) (lc2_of hv.1 (fun i hi => hi))⟩ else none
        | _, _, _, _, _, _, _ => none) else none
    | _ => none
noncomputable def cP (fn : Fn) : Nat → (Γ : Gm) → (pos : Pos) → (keys : List (Option Expr)) → (values : List Expr) → Option (CPr Γ fn pos keys values)
  | 0, _, _, _, _ => none
  | n + 1, Γ, pos, keys, values => match keys, values with
    | [], [] => some ⟨[], fun _ => pps_nil⟩
    | some k :: ks, v :: vs => match cE fn n Γ k, cE fn n Γ v, cP fn n Γ pos ks vs with
      | some ck, some cv, some cr => some ⟨(ck.m, cv.m) :: cr.m, fun O => pps_cons (ck.ok O) (cv.ok O) (cr.ok O)⟩
      | _, _, _ => none
    | _, _ => none
noncomputable def cBo (fn : Fn) : Nat → (Γ : Gm) → (op : BoolOp) → (es : List Expr) → (pos : Pos) → Option (CE Γ fn (.BoolOp op es pos))
  | 0, _, _, _, _ => none
  | n + 1, Γ, op, es, pos => match es with
    | [a] => match cE fn n Γ a with
      | some ca => some ⟨ca.m, fun O => e_one (ca.ok O)⟩
      | none => none
    | a :: b :: r => match cE fn n Γ a, cBo fn n Γ op (b :: r) pos with
      | some ca, some cr => (match op, cr with
        | .And, cr => some ⟨eAnd ca.m cr.m, fun O => e_and (ca.ok O) (cr.ok O)⟩
        | .Or, cr => some ⟨eOr ca.m cr.m, fun O => e_or (ca.ok O) (cr.ok O)⟩)
      | _, _ => none
    | [] => none
noncomputable def cB (fn : Fn) : Nat → (Γ : Gm) → (e : Expr) → Option (CB Γ fn e)
  | 0, _, _ => none
  | n + 1, Γ, e => match e with
    | .UnaryOp .Not a pos => match cB fn n Γ a with
      | some ca => some ⟨bNot ca.m, fun O => b_not (ca.ok O)⟩
      | none => none
    | .BoolOp op es pos => match cW fn n Γ op es pos with
      | some c => some ⟨c.m, fun O => (c.ok O).pt⟩
      | none => none
    | .Compare a ops bs pos => match ops, bs with
      | [op], [b] => if hs : noSet b = true then (match cCmp op, cE fn n Γ a, cE fn n Γ b with
        | some o, some ca, some cb => some ⟨bOf (e2 o.g ca.m cb.m), fun O => b_of_cmp (o.ok O.hK O.units) (ca.ok O) (cb.ok O) (marks_ok hs)⟩
        | _, _, _ => none) else none
      | [op, op'], [b, c] => if hs : noSet c = true then (match cCmp op, cCmp op', cE fn n Γ a, cE fn n Γ b, cE fn n Γ c with
        | some o, some o', some ca, some cb, some cc => some ⟨bOf (eCh o.g o'.g ca.m cb.m cc.m), fun O => b_ch (o.ok O.hK O.units) (o'.ok O.hK O.units) (ca.ok O) (cb.ok O) (cc.ok O) (last_ok hs)⟩
        | _, _, _, _, _ => none) else none
      | [op, op', op2], [b, c, d] => if hs : noSet d = true then (match cCmp op, cCmp op', cCmp op2, cE fn n Γ a, cE fn n Γ b, cE fn n Γ c, cE fn n Γ d with
        | some o, some o', some o2, some ca, some cb, some cc, some cd => some ⟨bOf (eCh3 o.g o'.g o2.g ca.m cb.m cc.m cd.m), fun O => b_ch3 (o.ok O.hK O.units) (o'.ok O.hK O.units) (o2.ok O.hK O.units) (ca.ok O) (cb.ok O) (cc.ok O) (cd.ok O) (last3_ok hs)⟩
        | _, _, _, _, _, _, _ => none) else none
      | _, _ => none
    | e => if hp : plainT e = true then (match cE fn n Γ e with
      | some c => some ⟨bTru c.m, fun O => b_tru O.hK (c.ok O) (plainT_ok hp)⟩
      | none => none) else none
noncomputable def cW (fn : Fn) : Nat → (Γ : Gm) → (op : BoolOp) → (es : List Expr) → (pos : Pos) → Option (CBw Γ fn (.BoolOp op es pos))
  | 0, _, _, _, _ => none
  | n + 1, Γ, op, es, pos => match es with
    | [a] => match cB fn n Γ a with
      | some ca => (match op with
        | .And => some ⟨ca.m, fun O => w_and1 (ca.ok O)⟩
        | .Or => some ⟨ca.m, fun O => w_or1 (ca.ok O)⟩)
      | none => none
    | a :: b :: r => match cB fn n Γ a, cW fn n Γ op (b :: r) pos with
      | some ca, some cr => (match op, cr with
        | .And, cr => some ⟨bAnd ca.m cr.m, fun O => w_and (ca.ok O) (cr.ok O)⟩
        | .Or, cr => some ⟨bOr ca.m cr.m, fun O => w_or (ca.ok O) (cr.ok O)⟩)
      | _, _ => none
    | [] => none
noncomputable def cA (fn : Fn) : Nat → (Γ : Gm) → (es : List Expr) → Option (CA Γ fn es)
  | 0, _, _ => none
  | n + 1, Γ, es => match es with
    | [] => some ⟨aNil, fun _ => a_nil, fun _ _ => ⟨rfl, rfl⟩⟩
    | e :: es => if hs : noStar e = true then (match cE fn n Γ e, cA fn n Γ es with
      | some c, some cs => some ⟨aCons c.m cs.m, fun O => a_cons (c.ok O) (cs.ok O) (star_ok hs), fun O p => by
          rw [star_ok hs]
          have := cs.star O p
          exact ⟨by show (false || (backTo p (starEach es _)).any (·.1)) = false; rw [this.1]; rfl, by show (!false && (backTo p (starEach es _)).all (fun x => !x.1)) = true; rw [this.2]; rfl⟩⟩
      | _, _ => none) else none
noncomputable def cO (fn : Fn) : Nat → (Γ : Gm) → (e : Option Expr) → Option (CO Γ fn e)
  | 0, _, _ => none
  | n + 1, Γ, e => match e with
    | none => some ⟨oNone, fun _ => o_none⟩
    | some e => match cE fn n Γ e with
      | some c => some ⟨oSome c.m, fun O => o_some (c.ok O)⟩
      | none => none
noncomputable def cTs (fn : Fn) : Nat → (Γ : Gm) → (es : List Expr) → Option (CTs Γ fn es)
  | 0, _, _ => none
  | n + 1, Γ, es => match es with
    | [] => some ⟨fun _ h => .ok true h, fun O => ts_nil⟩
    | [c] => match cB fn n Γ c with
      | some cc => some ⟨cc.m, fun O => pts_one (cc.ok O)⟩
      | none => none
    | _ => none
noncomputable def cI (fn : Fn) : Nat → (Γ : Gm) → (tg e : Expr) → Option (CI Γ fn tg e)
  | 0, _, _, _ => none
  | n + 1, Γ, tg, e => match tg, e with
    | tg, .Call (.Name x p) [a] [] pos => if hs : noStar a = true then (match cA fn n Γ [a] with
      | some ca => if hg : Glb Γ x ∧ x = "range" then some ⟨iArg iRng1D ca.m, fun O => by
          obtain ⟨hg, rfl⟩ := hg
          exact i_range1 (O.gl hg.kind) (O.gblt _ hg.blt) (ca.ok O) (star_ok hs)⟩ else
        if hg : Glb Γ x ∧ x = "reversed" then (match cE fn n Γ a with
          | some ce => some ⟨iRev ce.m, fun O => by
              obtain ⟨hg, rfl⟩ := hg
              exact i_rev O.hK (O.gl hg.kind) (O.gblt _ hg.blt) (ce.ok O) (star_ok hs)⟩
          | none => none) else
        if hg : Glb Γ x ∧ x = "enumerate" then (match tg with
          | .Tuple elts kk tpos => some ⟨iArg iEnumD ca.m, fun O => by
              obtain ⟨hg, rfl⟩ := hg
              exact i_enum O.hK (O.gl hg.kind) (O.gblt _ hg.blt) (ca.ok O) (star_ok hs)⟩
          | _ => none) else
        (match cE fn n Γ (.Call (.Name x p) [a] [] pos) with
          | some c => some ⟨iSeq c.m, fun O => i_seq O.hK (c.ok O)⟩
          | none => none)
      | none => none) else none
    | tg, .Call (.Name x p) [a, b] [] pos => if hs : noStar a = true ∧ noStar b = true then (match cA fn n Γ [a, b] with
      | some ca => if hg : Glb Γ x ∧ x = "range" then some ⟨iArg iRng2D ca.m, fun O => by
          obtain ⟨hg, rfl⟩ := hg
          exact i_range2 (O.gl hg.kind) (O.gblt _ hg.blt) (ca.ok O) (by rw [star_ok hs.1, star_ok hs.2]; rfl) (star_ok hs.2)⟩ else
        if hg : Glb Γ x ∧ x = "zip" then (match tg with
          | .Tuple elts kk tpos => some ⟨iArg iZipD ca.m, fun O => by
              obtain ⟨hg, rfl⟩ := hg
              exact i_zip O.hK (O.gl hg.kind) (O.gblt _ hg.blt) (ca.ok O) (star_ok hs.1) (by rw [star_ok hs.2]; rfl)⟩
          | _ => none) else
        (match cE fn n Γ (.Call (.Name x p) [a, b] [] pos) with
          | some c => some ⟨iSeq c.m, fun O => i_seq O.hK (c.ok O)⟩
          | none => none)
      | none => none) else none
    | tg, e => match cE fn n Γ e with
      | some c => some ⟨iSeq c.m, fun O => i_seq O.hK (c.ok O)⟩
      | none => none
end
end Cod

namespace Cod
open PySem L2 PyProof.Rows

theorem blockK {env : Env} (hk : env.scope.kind = .function) : env.blockKind = .function := by unfold Env.blockKind; rw [hk]; rfl
theorem noStars_ok : ∀ {vs : List Expr}, vs.all noStar = true → (vs.any fun | .Starred .. => true | _ => false) = false
  | [], _ => rfl
  | e :: r, h => by
    rw [List.all_cons, Bool.and_eq_true] at h
    rw [List.any_cons, noStars_ok h.2]
    cases e <;> first | rfl | (exact absurd h.1 (by simp [noStar]))
theorem par2_ok {x y : Str} {px py pt pt2 : Pos} {kt k2 : Nat} {a b : Expr} {env : Env} (hk : env.scope.kind = .function) (hx : env.scope.names.lookup x = some .local) (hy : env.scope.names.lookup y = some .local) (hl : (py.line == px.line) = true) (hxy : x ≠ y)
    (ha : [a, b].all noStar = true) (h1 : [a, b].all (foldedForSure 8) = false) (h2 : [a, b].all (constantsAlone 8) = false) :
    swappedStores [.Tuple [.Name x px, .Name y py] kt pt] (.Tuple [a, b] k2 pt2) env = pure (some [x, y]) := by
  have kx : env.kindOf x = some .local := hx
  have ky : env.kindOf y = some .local := hy
  have hne : ¬ y = x := Ne.symm hxy
  unfold swappedStores
  dsimp only
  rw [if_neg (by simp [blockK hk])]
  refine (if_neg (fun z => Bool.false_ne_true ((noStars_ok ha).symm.trans z))).trans ?_
  rw [h1, h2]
  simp only [List.filterMap_cons, List.filterMap_nil, kx, ky, Expr.pos, List.head?_cons, Option.map_some, Option.getD_some, hl, beq_self_eq_true, Bool.and_self, if_true]
  simp [List.eraseDups_cons, hne]
theorem par3_ok {x y z : Str} {px py pz pt pt2 : Pos} {kt k2 : Nat} {a b c : Expr} {env : Env} (hk : env.scope.kind = .function) (hx : env.scope.names.lookup x = some .local) (hy : env.scope.names.lookup y = some .local) (hz : env.scope.names.lookup z = some .local) (hl : (py.line == px.line) = true) (hl2 : (pz.line == px.line) = true)
    (hxy : x ≠ y) (hxz : x ≠ z) (hyz : y ≠ z) (ha : [a, b, c].all noStar = true) (h1 : [a, b, c].all (foldedForSure 8) = false) (h2 : [a, b, c].all (constantsAlone 8) = false) :
    swappedStores [.Tuple [.Name x px, .Name y py, .Name z pz] kt pt] (.Tuple [a, b, c] k2 pt2) env = pure (some [x, y, z]) := by
  have kx : env.kindOf x = some .local := hx
  have ky : env.kindOf y = some .local := hy
  have kz : env.kindOf z = some .local := hz
  have hne : ¬ y = x := Ne.symm hxy
  have hne2 : ¬ z = x := Ne.symm hxz
  have hne3 : ¬ z = y := Ne.symm hyz
  unfold swappedStores
  dsimp only
  rw [if_neg (by simp [blockK hk])]
  refine (if_neg (fun z => Bool.false_ne_true ((noStars_ok ha).symm.trans z))).trans ?_
  rw [h1, h2]
  simp only [List.filterMap_cons, List.filterMap_nil, kx, ky, kz, Expr.pos, List.head?_cons, Option.map_some, Option.getD_some, hl, hl2, beq_self_eq_true, Bool.and_self, if_true]
  simp [List.eraseDups_cons, hne, hne2, hne3]
section
variable {X : Cx} {L : Lk} {W : WX} {pos : Pos}
theorem s_par2 {i j : Nat} {x y : Str} {a b : Expr} {m : AD} {px py pt : Pos} {kt k2 : Nat} {pt2 : Pos} (hc : X.calm = true) (hN : X.N.Nodup) (hi : X.N[i]? = some x) (hj : X.N[j]? = some y) (hij : i ≠ j)
    (hx : X.env.scope.names.lookup x = some .local) (hy : X.env.scope.names.lookup y = some .local) (ha : PA X [a, b] (tAr L W m))
    (hw : swappedStores [.Tuple [.Name x px, .Name y py] kt pt] (.Tuple [a, b] k2 pt2) X.env = pure (some [x, y])) :
    PS X (.Assign [.Tuple [.Name x px, .Name y py] kt pt] (.Tuple [a, b] k2 pt2) pos) (tS L W (sPar [.nm i, .nm j] m)) := by
  refine PS.weak (ps_par hc hN hi hj hij hx hy ha hw rfl) fun E σ H ⟨A, δ, h, rs, rh, p⟩ => ⟨A, δ, h, rs, rh, (PoS.thn rs p).imp fun vs H1 ⟨A1, ds, h1, l, rh1, q, p1⟩ => ?_⟩
  cases q with
  | nil => exact p1.elim
  | cons q1 q2 =>
    cases q2 with
    | nil => exact p1.elim
    | cons q2 q3 =>
      cases q3 with
      | nil => exact ⟨_, _, rfl, PoS.nxt p1 (((rs.mono l).set q1).set q2) rh1⟩
      | cons _ _ => exact p1.elim
theorem s_par3 {i j l : Nat} {x y z : Str} {a b c : Expr} {m : AD} {px py pz pt : Pos} {kt k2 : Nat} {pt2 : Pos} (hc : X.calm = true) (hN : X.N.Nodup) (hi : X.N[i]? = some x) (hj : X.N[j]? = some y) (hl : X.N[l]? = some z) (hij : i ≠ j) (hil : i ≠ l) (hjl : j ≠ l)
    (hx : X.env.scope.names.lookup x = some .local) (hy : X.env.scope.names.lookup y = some .local) (hz : X.env.scope.names.lookup z = some .local) (ha : PA X [a, b, c] (tAr L W m))
    (hw : swappedStores [.Tuple [.Name x px, .Name y py, .Name z pz] kt pt] (.Tuple [a, b, c] k2 pt2) X.env = pure (some [x, y, z])) :
    PS X (.Assign [.Tuple [.Name x px, .Name y py, .Name z pz] kt pt] (.Tuple [a, b, c] k2 pt2) pos) (tS L W (sPar [.nm i, .nm j, .nm l] m)) := by
  refine PS.weak (ps_par3 hc hN hi hj hl hij hil hjl hx hy hz ha hw rfl) fun E σ H ⟨A, δ, h, rs, rh, p⟩ => ⟨A, δ, h, rs, rh, (PoS.thn rs p).imp fun vs H1 ⟨A1, ds, h1, l, rh1, q, p1⟩ => ?_⟩
  cases q with
  | nil => exact p1.elim
  | cons q1 q2 =>
    cases q2 with
    | nil => exact p1.elim
    | cons q2 q3 =>
      cases q3 with
      | nil => exact p1.elim
      | cons q3 q4 =>
        cases q4 with
        | nil => exact ⟨_, _, _, rfl, PoS.nxt p1 ((((rs.mono l).set q1).set q2).set q3) rh1⟩
        | cons _ _ => exact p1.elim
/-! ### op= -/
noncomputable def iaddD (d e : D) (h : AH) : R D := match d, e with
  | .int i, .int j => .ok (.int (i + j)) h
  | .str x, .str y => if x.length + y.length ≤ lim then .ok (.str (x ++ y)) h else .no
  | _, _ => .no
noncomputable def imulD (d e : D) (h : AH) : R D := match d, e with
  | .int i, .int j => if (small i || small j) = true then .ok (.int (i * j)) h else .no
  | _, _ => .no
noncomputable def ifdivD (d e : D) (h : AH) : R D := match d, e with
  | .int i, .int j => if 0 < j ∧ j < 1073741824 then .ok (.int (i / j)) h else .no
  | _, _ => .no
theorem iop_addS : OpS X L W (inplaceOp .Add) iaddD := by
  refine ⟨_, (iop_add).or iop_add_str, fun σ A h H x y d e Q rh rd re p => ?_⟩
  unfold iaddD at p
  split at p
  · cases rd; cases re
    exact .inl ⟨_, _, rfl, rfl, Po.ok p rh (.int _)⟩
  · cases rd; cases re
    split at p
    · exact .inr ⟨_, _, rfl, rfl, lim_ok (by assumption), Po.ok p rh (.str _)⟩
    · exact p.elim
  · exact p.elim
theorem iop_subS : OpS X L W (inplaceOp .Sub) subD := by
  refine ⟨_, iop_sub, fun σ A h H x y d e Q rh rd re p => ?_⟩
  unfold subD at p
  split at p
  · cases rd; cases re
    exact ⟨_, _, rfl, rfl, Po.ok p rh (.int _)⟩
  · exact p.elim
theorem iop_mulS : OpS X L W (inplaceOp .Mult) imulD := by
  refine ⟨_, iop_mul, fun σ A h H x y d e Q rh rd re p => ?_⟩
  unfold imulD at p
  split at p
  · cases rd; cases re
    split at p
    · rename_i hs
      rw [Bool.or_eq_true] at hs
      exact ⟨_, _, rfl, rfl, hs.imp small_ok small_ok, Po.ok p rh (.int _)⟩
    · exact p.elim
  · exact p.elim
theorem iop_fdivS : OpS X L W (inplaceOp .FloorDiv) ifdivD := by
  refine ⟨_, iop_fdiv, fun σ A h H x y d e Q rh rd re p => ?_⟩
  unfold ifdivD at p
  split at p
  · cases rd; cases re
    split at p
    · exact ⟨_, _, rfl, rfl, by assumption, Po.ok p rh (.int _)⟩
    · exact p.elim
  · exact p.elim
end
structure CIp (op : Operator) where
  g : D → D → AH → R D
  ok : ∀ {X : Cx} {L : Lk} {W : WX}, OpS X L W (inplaceOp op) g
noncomputable def cIp : (op : Operator) → Option (CIp op)
  | .Add => some ⟨iaddD, iop_addS⟩
  | .Sub => some ⟨subD, iop_subS⟩
  | .Mult => some ⟨imulD, iop_mulS⟩
  | .FloorDiv => some ⟨ifdivD, iop_fdivS⟩
  | _ => none
/-- the most turns of a while -/
noncomputable def fuel0 : Nat := 1000000
theorem sw_eq {elt : Expr} {gs : List Comprehension} {scope : Scope} {p py : Pos} {y : Str} {l : Nat} {env : Env} (hk : env.scope.kind = .function) :
    swapsWith (.ListComp elt gs scope p) (some (.Name y py)) l env = pure (decide (env.scope.names.lookup y = some .local) && py.line == p.line && !(scope.names.any fun (n, k) => n == y && (k == .local || k == .cell))) := by
  have hb := blockK hk
  unfold swapsWith
  simp only [hb, Expr.pos]
  show pure ((ScopeKind.function == ScopeKind.function) && (env.scope.names.lookup y == some .local) && _ && _) = _
  congr 1
  have : (env.scope.names.lookup y == some NameKind.local) = decide (env.scope.names.lookup y = some .local) := by
    rw [Bool.eq_iff_iff]; simp
  rw [this]
  rfl
theorem sole_ok {t e : Expr} {l : Nat} {env : Env} (h : noComp e = true) : swapsWithSole [t] e l env = pure false := swaps_ok h
structure CFs (Γ : Gm) (ts : List Expr) where
  fs : List (Str × Nat)
  ok : ∀ {fn : Fn} {k : Nat} {X : Cx} {L : Lk} {W : WX}, Ok Γ fn k X L W → PGs X ts (tFs L Γ.cls fs) ∧ (assignEach ts X.env).length = fs.length ∧ (assignEach ts X.env).findIdx? (·.1) = none
noncomputable def cFs (Γ : Gm) : (ts : List Expr) → Option (CFs Γ ts)
  | [] => some ⟨[], fun O => ⟨fs_nil, rfl, rfl⟩⟩
  | e :: ts => match e with
    | .Attribute (.Name x px) f pa => if h : plainName x = true ∧ Γ.N[ixOf Γ.N x]? = some x ∧ isVis Γ x = true then (match cFs Γ ts with
      | some c => some ⟨(f, ixOf Γ.N x) :: c.fs, fun {fn k X L W} O => by
          obtain ⟨h1, h2, h3⟩ := c.ok O
          have e := asgE_ok (e := .Attribute (.Name x px) f pa) (es := ts) (env := X.env) rfl
          refine ⟨fs_cons (W := W) O.gcls (e_var (by rw [O.hN]; exact h.2.1) (O.vis h.2.2) (plain1 h.1).1 (plain1 h.1).2.1) h1 (by rw [e]; rfl), by rw [e]; simp [h2], ?_⟩
          rw [e, List.findIdx?_cons, h3]; rfl⟩
      | none => none) else none
    | _ => none
theorem stores4 {t : Expr} {ts : List Expr} {vs : List Expr} {k k2 : Nat} {p p2 : Pos} {env : Env} (h : 4 ≤ ts.length) : swappedStores [.Tuple ts k p] (.Tuple vs k2 p2) env = pure none := by
  unfold swappedStores
  dsimp only
  rw [if_pos]
  have h2 : (ts.length == 2) = false := by simp; omega
  have h3 : (ts.length == 3) = false := by simp; omega
  rw [h2, h3]; rfl
theorem storesF {ts vs : List Expr} {k k2 : Nat} {p p2 : Pos} {env : Env} (h : vs.all (foldedForSure 8) = true) : swappedStores [.Tuple ts k p] (.Tuple vs k2 p2) env = pure none := by
  unfold swappedStores
  dsimp only
  split
  · rfl
  split
  · rfl
  split
  · rfl
  first | rfl | rw [if_pos h]
noncomputable def noPack : Expr → Bool
  | .Tuple _ _ _ => false
  | .List _ _ => false
  | _ => true
mutual
noncomputable def hS : Nat → (Γ : Gm) → (s : Stmt) → Option (HS Γ s)
  | 0, _, _ => none
  | n + 1, Γ, s => match s with
    | .Pass pos => some ⟨sNext, fun _ => s_pass, fun _ _ => rfl⟩
    | .Return none pos => some ⟨sRetN, fun _ => s_retN, fun _ _ => rfl⟩
    | .Return (some e) pos => match hE n Γ e with
      | some c => some ⟨sRet c.m, fun O => s_ret (c.ok O), fun δ h => keep_thn (c.hp δ h) fun d => rfl⟩
      | none => none
    | .If c a b pos => match hB n Γ c, hSs n Γ a, hSs n Γ b with
      | some cc, some ca, some cb => some ⟨sIf cc.m ca.m cb.m, fun O => s_if (cc.ok O) (ca.ok O) (cb.ok O), fun δ h => keep_thn (cc.hp δ h) fun d => by
          split
          · exact ca.hp δ h
          · exact cb.hp δ h⟩
      | _, _, _ => none
    | .Assign [.Name y py] e pos => if h : Γ.N[ixOf Γ.N y]? = some y ∧ isLoc Γ y = true ∧ noComp e = true then (match hE n Γ e with
      | some ce => some ⟨sAsg ce.m (.nm (ixOf Γ.N y)), fun {X a oe pn c d L} O => s_asg (X := X.suite a ((a, oe) :: pn)) (ce.ok O) (g_name O.nd (by rw [show (Cx.suite _ _ _).N = _ from O.hN]; exact h.1) (O.loc h.2.1).1 (O.loc h.2.1).2) (sole_ok h.2.2) (by cases e <;> rfl) rfl, fun δ h => keep_thn (ce.hp δ h) fun d => rfl⟩
      | none => none) else none
    | _ => none
noncomputable def hSs : Nat → (Γ : Gm) → (s : List Stmt) → Option (HSs Γ s)
  | 0, _, _ => none
  | n + 1, Γ, s => match s with
    | [] => some ⟨sNext, fun _ => s_nil, fun _ _ => rfl⟩
    | [a] => match hS n Γ a with
      | some c => some ⟨c.m, fun O => s_one (c.ok O), c.hp⟩
      | none => none
    | a :: b :: r => match hS n Γ a, hSs n Γ (b :: r) with
      | some c, some cr => some ⟨sSeq c.m cr.m, fun O => s_cons (c.ok O) (cr.ok O), fun δ h => keep_seq (c.hp δ h) fun δ => cr.hp δ h⟩
      | _, _ => none
end
theorem no_cxA {P : Program} {w : World} {l : List Env} {H : Hp} {s : Shared} {e : Value} {s' : Shared} (h : L2.CX P w l H s (fun _ _ _ => False) e s') : False := by
  obtain ⟨_, _, _, _, _, _, _, _, _, _, _, _, z⟩ := h
  exact z
/-- a name that holds a dict where it is walked -/
noncomputable def dkE (Γ : Gm) : Expr → Bool
  | .Name x _ => decide (x ∈ Γ.dk)
  | _ => false
noncomputable def gExcF (Γ : Gm) (x : Str) : Option { q : Nat × Nat × Option (List (Str × Src)) // Γ.glb.lookup x = some (.exc q.1 q.2.1 q.2.2) } := match Γ.glb.lookup x with
  | some (.exc c n fs) => some ⟨(c, n, fs), rfl⟩
  | _ => none
/-- the clauses of a try -/
noncomputable def hH (n : Nat) (Γ : Gm) : (hds : List ExceptHandler) → Option (CH Γ hds)
  | [] => some CH.nil
  | .ExceptHandler (some (.Name x np)) (some nm) (b₀ :: suite) pos' :: r => if h : plainName x = true ∧ Γ.names.lookup x = some .globalImplicit ∧ Γ.N[ixOf Γ.N nm]? = some nm ∧ Γ.names.lookup nm = some .local then (match gExcF Γ x, hSs n Γ (b₀ :: suite), hH n Γ r with
      | some ⟨(c, m, fs), hc⟩, some cs, some cr => some ⟨(c, some (ixOf Γ.N nm), cs.m) :: cr.m, fun {fn k X L W} O => .as ⟨O.gl h.2.1, (plain1 h.1).1, .inl (O.gexc x c m fs hc).mg⟩ (by rw [O.hN]; exact h.2.2.1) (by show X.env.scope.names.lookup nm = _; rw [O.names]; exact h.2.2.2) (hsu_of O fun O => cs.ok O) (cr.ok O), fun p hp => by
          rcases List.mem_cons.mp hp with rfl | hp
          · exact cs.hp
          · exact cr.hp p hp⟩
      | _, _, _ => none) else none
  | .ExceptHandler (some (.Name x np)) none (b₀ :: suite) pos' :: r => if h : plainName x = true ∧ Γ.names.lookup x = some .globalImplicit then (match gExcF Γ x, hSs n Γ (b₀ :: suite), hH n Γ r with
      | some ⟨(c, m, fs), hc⟩, some cs, some cr => some ⟨(c, none, cs.m) :: cr.m, fun {fn k X L W} O => .one ⟨O.gl h.2, (plain1 h.1).1, .inl (O.gexc x c m fs hc).mg⟩ (hsu_of O fun O => cs.ok O) (cr.ok O), fun p hp => by
          rcases List.mem_cons.mp hp with rfl | hp
          · exact cs.hp
          · exact cr.hp p hp⟩
      | _, _, _ => none) else none
  | _ => none
theorem any_all {l : List (Bool × Sem Value)} (h : l.any (·.1) = false) : l.all (fun x => !x.1) = true := by
  rw [List.all_eq_true]
  intro x hx
  rw [List.any_eq_false] at h
  simpa using h x hx
theorem any_tail {e : Expr} {es : List Expr} {env : Env} {p : Pos} (hs : noStar e = true) (h : (backTo p (starEach (e :: es) env)).any (·.1) = false) : (backTo p (starEach es env)).any (·.1) = false := by
  rw [star_ok hs] at h
  have : (false || (backTo p (starEach es env)).any (·.1)) = false := h
  simpa using this
mutual
noncomputable def cS (fn : Fn) : Nat → (Γ : Gm) → (s : Stmt) → Option (CS Γ fn s)
  | 0, _, _ => none
  | n + 1, Γ, s => match s with
    | .Pass pos => some ⟨sNext, fun _ => s_pass⟩
    | .Break pos => some ⟨sBreak, fun _ => s_break⟩
    | .Continue pos => some ⟨sCont, fun _ => s_cont⟩
    | .Expr e pos => if h : noComp e = true then (match cE fn n Γ e with
      | some c => some ⟨sExpr c.m, fun O => s_expr (c.ok O) (swaps_ok h)⟩
      | none => none) else none
    | .Raise (some (.Call (.Name x p) (e :: es) [] pos)) none pos' => if h : plainName x = true ∧ Γ.names.lookup x = some .globalImplicit ∧ noStar e = true ∧ 2 ≤ Γ.nest then (match gExcF Γ x, cE fn n Γ e, cA fn n Γ es with
      | some ⟨(c, m, some fs), hc⟩, some ce, some ces => some ⟨sRaise c m fs (aCons ce.m ces.m), fun {k X L W} O => by
          obtain ⟨h1, h2, h3, fI, fd, ps, h4, h5, h6, h7⟩ := O.gexc x c m (some fs) hc
          exact s_raiseI O.calm O.tk h2 h4 h5 h7 h3 (O.room.mono (by have := h.2.2.2; omega)) h6 (fun _ _ _ _ _ _ _ z => (no_cxA z).elim) (O.gl h.2.1) h1 (a_cons (ce.ok O) (ces.ok O) (star_ok h.2.2.1)) (plain1 h.1).1 (star_ok h.2.2.1) (ces.star O _).1⟩
      | some ⟨(c, m, none), hc⟩, some ce, some ces => some ⟨sRaise0 c (aCons ce.m ces.m), fun {k X L W} O => by
          obtain ⟨h1, h2, h3, h4, h5⟩ := O.gexc x c m none hc
          exact s_raise0 O.calm O.tk h2 h3 h4 h5 (O.gl h.2.1) h1 (a_cons (ce.ok O) (ces.ok O) (star_ok h.2.2.1)) (plain1 h.1).1 (star_ok h.2.2.1) (ces.star O _).1⟩
      | _, _, _ => none) else none
    | .Try body [.ExceptHandler (some (.Name x np)) (some nm) [.Expr (.Call (.Attribute (.Name nm2 q) mt apos) (e :: es) [] pos2) pos3, .Raise none none rp] pos'] [] [] pos => if h : (plainName x = true ∧ Γ.names.lookup x = some .globalImplicit ∧ Γ.N[ixOf Γ.N nm]? = some nm ∧ Γ.names.lookup nm = some .local ∧ Γ.df = true) ∧ nm2 = nm ∧ plainName nm = true ∧ 1 ≤ Γ.nest ∧ (apos.endLine == pos2.line) = true ∧ noStar e = true ∧ es.length < 20 then (match gExcF Γ x, cSs fn n Γ body, hA n Γ (e :: es) with
      | some ⟨(c, m, fs), hc⟩, some cb, some ca => some ⟨sTryA Γ.tab Γ.xf Γ.xm c (ixOf Γ.N nm) mt cb.m ca.m, fun {k X L W} O => by
          obtain ⟨⟨h1, h2, h3, h4, h5⟩, rfl, h7, h8, h9, h10, h11⟩ := h
          exact s_tryA O h5 h8 (by rw [O.hN]; exact h3) (by show X.env.scope.names.lookup nm2 = _; rw [O.names]; exact h4) ⟨(plain1 h7).1, (plain1 h7).2.1⟩ (O.gl h2) (plain1 h1).1 (O.gexc x c m fs hc).mg (fun O => cb.ok O) (fun O => ca.ok O) ca.hp
            (fun env => few_ok (any_all (ca.star env pos2)) h11) h9 (fun env => star_ok h10) (fun env => any_tail h10 (ca.star env pos2)) fun env => swaps_ok rfl⟩
      | _, _, _ => none) else none
    | .Try body [.ExceptHandler (some (.Name x np)) (some nm) (b₀ :: suite) pos'] [] [] pos => if h : plainName x = true ∧ Γ.names.lookup x = some .globalImplicit ∧ Γ.N[ixOf Γ.N nm]? = some nm ∧ Γ.names.lookup nm = some .local ∧ Γ.df = true then (match gExcF Γ x, cSs fn n Γ body, hSs n Γ (b₀ :: suite) with
      | some ⟨(c, m, fs), hc⟩, some cb, some cs => some ⟨sTry Γ.tab Γ.xf c (ixOf Γ.N nm) cb.m cs.m, fun {k X L W} O => s_try O h.2.2.2.2 (by rw [O.hN]; exact h.2.2.1) (by show X.env.scope.names.lookup nm = _; rw [O.names]; exact h.2.2.2.1) (O.gl h.2.1) (plain1 h.1).1 (O.gexc x c m fs hc).mg (fun y c' n' fs' e => (O.gexc y c' n' fs' e).mg) (fun O => cb.ok O) (fun O => cs.ok O) cs.hp⟩
      | _, _, _ => none) else none
    | .Try body (h₀ :: hds) [] [] pos => if h : Γ.df = true then (match cSs fn n Γ body, hH n Γ (h₀ :: hds) with
      | some cb, some ch => some ⟨sTryM Γ.tab Γ.xf cb.m ch.m, fun {k X L W} O => s_tryM O h (fun O => cb.ok O) ch⟩
      | _, _ => none) else none
    | .Return none pos => some ⟨sRetN, fun _ => s_retN⟩
    | .Return (some e) pos => match cE fn n Γ e with
      | some c => some ⟨sRet c.m, fun O => s_ret (c.ok O)⟩
      | none => none
    | .If c a b pos => match cB fn n Γ c, cSs fn n Γ a, cSs fn n Γ b with
      | some cc, some ca, some cb => some ⟨sIf cc.m ca.m cb.m, fun O => s_if (cc.ok O) (ca.ok O) (cb.ok O)⟩
      | _, _, _ => none
    | .For tg iter body [] pos => if h : noSet iter = true then (match cI fn n Γ tg iter, cG Γ n tg, cSs fn n Γ body with
      | some ci, some cg, some cb => if dkE Γ iter = true then (match cE fn n Γ iter with
          | some ce => some ⟨lockS ce.m (sFor ci.m cg.tg cb.m), fun O => s_lock ce.m (s_for O.own O.calm (ci.ok O) (cg.ok O) (cb.ok O) (fold_ok h))⟩
          | none => none) else some ⟨sFor ci.m cg.tg cb.m, fun O => s_for O.own O.calm (ci.ok O) (cg.ok O) (cb.ok O) (fold_ok h)⟩
      | _, _, _ => none) else none
    | .While c body [] pos => match cB fn n Γ c, cSs fn n Γ body with
      | some cc, some cb => some ⟨whG cc.m cb.m fuel0, fun O => s_while fuel0 O.own (cc.ok O) (cb.ok O)⟩
      | _, _ => none
    | .AugAssign (.Attribute o f tp) op e pos => (match cIp op, cE fn n Γ o, cE fn n Γ e with
      | some g, some co, some ce => some ⟨sAugI Γ.cls f g.g co.m ce.m, fun O => s_augI O.gcls g.ok (co.ok O) (ce.ok O)⟩
      | _, _, _ => none)
    | .AugAssign (.Name x p) op e pos => if h : Γ.N[ixOf Γ.N x]? = some x ∧ isLoc Γ x = true then (match cIp op, cE fn n Γ e with
      | some o, some c => some ⟨sAug (ixOf Γ.N x) o.g c.m, fun O => s_aug o.ok O.nd (by rw [O.hN]; exact h.1) (O.loc h.2).1 (c.ok O) (O.loc h.2).2⟩
      | _, _ => none) else none
    | .Assign [.Name y py] (.ListComp elt [⟨tg, iter, ifs, 0⟩] scope p) pos => if hy : Γ.N[ixOf Γ.N y]? = some y ∧ isLoc Γ y = true then
        (if hs : (decide (Γ.names.lookup y = some .local) && py.line == p.line && !(scope.names.any fun (n, k) => n == y && (k == .local || k == .cell))) = true then
          (if hk : scope.kind = .function ∧ blkC Γ.N (scOf Γ.names) scope (ownOf Γ scope) = true ∧ noSet iter = true then
            (match cI fn n Γ tg iter, cG (inBlk Γ scope) n tg, cTs fn n (inBlk Γ scope) ifs, cE fn n (inBlk Γ scope) elt with
            | some ci, some cg, some ct, some ce => if hv : ∀ i ∈ tgS cg.tg, i ∈ (ownOf Γ scope).map (·.2) then some ⟨sAsg (eLc ci.m cg.tg ct.m ce.m ((ownOf Γ scope).map (·.2))) (.nm (ixOf Γ.N y)), fun O => by
                have hyl : Γ.names.lookup y = some .local := by
                  simp only [Bool.and_eq_true, decide_eq_true_eq] at hs
                  exact hs.1.1
                refine PS.weak (ps_setLc (i := ixOf Γ.N y) O.calm O.nd (by rw [O.hN]; exact hy.1) (by rw [O.names]; exact hyl) (by rw [sw_eq O.kind, O.names, hs]) (ci.ok O) (blkOk_by (by rw [O.hN, blkC_eq (sc' := scOf Γ.names) O.names]; exact hk.2.1)) (fun s H C cl fp => cg.ok (O.blk s H scope cl C fp hk.1)) (fun s H C cl fp => ct.ok (O.blk s H scope cl C fp hk.1)) (fun s H C cl fp => ce.ok (O.blk s H scope cl C fp hk.1)) (fold_ok hk.2.2)) fun E σ H q => ?_
                obtain ⟨A, δ, h, rs, rh, p⟩ := q
                refine lc_of hv σ H _ ⟨A, δ, h, rs, rh, (PoS.thn rs p).imp fun v H1 ⟨A1, d, h1, l, rh1, q, p1⟩ => ?_⟩
                exact PoS.nxt p1 ((rs.mono l).set q) rh1⟩ else none
            | _, _, _, _ => none) else none)
        else (match cG Γ n (.Name y py), cE fn n Γ (.ListComp elt [⟨tg, iter, ifs, 0⟩] scope p) with
          | some cg, some ce => some ⟨sAsg ce.m cg.tg, fun O => s_asg (ce.ok O) (cg.ok O) (by
              show swapsWith (.ListComp elt [⟨tg, iter, ifs, 0⟩] scope p) (some (.Name y py)) pos.line _ = pure false
              rw [sw_eq O.kind, O.names]
              rw [Bool.not_eq_true] at hs
              rw [hs]) (stores_ok rfl) rfl⟩
          | _, _ => none)) else none
    | .Assign [.Name y py] (.ListComp elt [⟨tg, iter, ifs, 0⟩, ⟨tg1, iter1, ifs1, 0⟩] scope p) pos => if hy : Γ.N[ixOf Γ.N y]? = some y ∧ isLoc Γ y = true then
        (if hs : (decide (Γ.names.lookup y = some .local) && py.line == p.line && !(scope.names.any fun (n, k) => n == y && (k == .local || k == .cell))) = true then
          (if hk : scope.kind = .function ∧ blkC Γ.N (scOf Γ.names) scope (ownOf Γ scope) = true ∧ noSet iter = true ∧ noSet iter1 = true then
            (match cI fn n Γ tg iter, cG (inBlk Γ scope) n tg, cTs fn n (inBlk Γ scope) ifs, cI fn n (inBlk Γ scope) tg1 iter1, cG (inBlk Γ scope) n tg1, cTs fn n (inBlk Γ scope) ifs1, cE fn n (inBlk Γ scope) elt with
            | some ci, some cg, some ct, some ci1, some cg1, some ct1, some ce => if hv : (∀ i ∈ tgS cg.tg, i ∈ (ownOf Γ scope).map (·.2)) ∧ ∀ i ∈ tgS cg1.tg, i ∈ (ownOf Γ scope).map (·.2) then some ⟨sAsg (eLc2 ci.m cg.tg ct.m ci1.m cg1.tg ct1.m ce.m ((ownOf Γ scope).map (·.2)) (tgS cg1.tg)) (.nm (ixOf Γ.N y)), fun O => by
                have hyl : Γ.names.lookup y = some .local := by
                  simp only [Bool.and_eq_true, decide_eq_true_eq] at hs
                  exact hs.1.1
                refine PS.weak (ps_setLc2 (i := ixOf Γ.N y) O.calm O.nd (by rw [O.hN]; exact hy.1) (by rw [O.names]; exact hyl) (by rw [sw_eq O.kind, O.names, hs]) (ci.ok O) (blkOk_by (by rw [O.hN, blkC_eq (sc' := scOf Γ.names) O.names]; exact hk.2.1)) hv.2 (fun s H C cl fp => cg.ok (O.blk s H scope cl C fp hk.1)) (fun s H C cl fp => ct.ok (O.blk s H scope cl C fp hk.1)) (fun s H C cl fp => ci1.ok (O.blk s H scope cl C fp hk.1)) (fun s H C cl fp => cg1.ok (O.blk s H scope cl C fp hk.1)) (fun s H C cl fp => ct1.ok (O.blk s H scope cl C fp hk.1)) (fun s H C cl fp => ce.ok (O.blk s H scope cl C fp hk.1)) (fold_ok hk.2.2.1) (fun env => fold_ok hk.2.2.2)) fun D σ H q => ?_
                obtain ⟨A, δ, h, rs, rh, p⟩ := q
                refine lc2_of hv.1 (fun i hi => hi) σ H _ ⟨A, δ, h, rs, rh, (PoS.thn rs p).imp fun v H1 ⟨A1, d, h1, l, rh1, q, p1⟩ => ?_⟩
                exact PoS.nxt p1 ((rs.mono l).set q) rh1⟩ else none
            | _, _, _, _, _, _, _ => none) else none)
        else none) else none
    | .Assign [.Tuple [.Name x px, .Name y py] kt pt] (.Tuple [a, b] k2 pt2) pos =>
      if h : Γ.N[ixOf Γ.N x]? = some x ∧ Γ.N[ixOf Γ.N y]? = some y ∧ Γ.names.lookup x = some .local ∧ Γ.names.lookup y = some .local ∧ ixOf Γ.N x ≠ ixOf Γ.N y ∧ x ≠ y ∧ (py.line == px.line) = true ∧ [a, b].all noStar = true ∧ [a, b].all (foldedForSure 8) = false ∧ [a, b].all (constantsAlone 8) = false then
        (match cA fn n Γ [a, b] with
        | some c => some ⟨sPar [.nm (ixOf Γ.N x), .nm (ixOf Γ.N y)] c.m, fun O => s_par2 O.calm O.nd (by rw [O.hN]; exact h.1) (by rw [O.hN]; exact h.2.1) h.2.2.2.2.1 (by rw [O.names]; exact h.2.2.1) (by rw [O.names]; exact h.2.2.2.1) (c.ok O)
            (par2_ok O.kind (by rw [O.names]; exact h.2.2.1) (by rw [O.names]; exact h.2.2.2.1) h.2.2.2.2.2.2.1 h.2.2.2.2.2.1 h.2.2.2.2.2.2.2.1 h.2.2.2.2.2.2.2.2.1 h.2.2.2.2.2.2.2.2.2)⟩
        | none => none) else
      if h2 : [a, b].all (foldedForSure 8) = true then (match cG Γ n (.Tuple [.Name x px, .Name y py] kt pt), cE fn n Γ (.Tuple [a, b] k2 pt2) with
        | some cg, some ce => some ⟨sAsg ce.m cg.tg, fun O => s_asg (ce.ok O) (cg.ok O) (sole_ok rfl) (storesF h2) rfl⟩
        | _, _ => none) else none
    | .Assign [.Tuple [.Name x px, .Name y py, .Name z pz] kt pt] (.Tuple [a, b, c] k2 pt2) pos =>
      if h : Γ.N[ixOf Γ.N x]? = some x ∧ Γ.N[ixOf Γ.N y]? = some y ∧ Γ.N[ixOf Γ.N z]? = some z ∧ Γ.names.lookup x = some .local ∧ Γ.names.lookup y = some .local ∧ Γ.names.lookup z = some .local then
      if h' : ixOf Γ.N x ≠ ixOf Γ.N y ∧ ixOf Γ.N x ≠ ixOf Γ.N z ∧ ixOf Γ.N y ≠ ixOf Γ.N z ∧ x ≠ y ∧ x ≠ z ∧ y ≠ z ∧ (py.line == px.line) = true ∧ (pz.line == px.line) = true ∧ [a, b, c].all noStar = true ∧ [a, b, c].all (foldedForSure 8) = false ∧ [a, b, c].all (constantsAlone 8) = false then
        (match cA fn n Γ [a, b, c] with
        | some cc => some ⟨sPar [.nm (ixOf Γ.N x), .nm (ixOf Γ.N y), .nm (ixOf Γ.N z)] cc.m, fun O => by
            obtain ⟨a1, a2, a3, a4, a5, a6⟩ := h
            obtain ⟨b1, b2, b3, b4, b5, b6, b7, b8, b9, b10, b11⟩ := h'
            have lx := (congrArg (List.lookup x) O.names).trans a4
            have ly := (congrArg (List.lookup y) O.names).trans a5
            have lz := (congrArg (List.lookup z) O.names).trans a6
            exact s_par3 O.calm O.nd (by rw [O.hN]; exact a1) (by rw [O.hN]; exact a2) (by rw [O.hN]; exact a3) b1 b2 b3 lx ly lz (cc.ok O) (par3_ok O.kind lx ly lz b7 b8 b4 b5 b6 b9 b10 b11)⟩
        | none => none) else
      if h2 : [a, b, c].all (foldedForSure 8) = true then (match cG Γ n (.Tuple [.Name x px, .Name y py, .Name z pz] kt pt), cE fn n Γ (.Tuple [a, b, c] k2 pt2) with
        | some cg, some ce => some ⟨sAsg ce.m cg.tg, fun O => s_asg (ce.ok O) (cg.ok O) (sole_ok rfl) (storesF h2) rfl⟩
        | _, _ => none) else none else none
    | .Assign [.Tuple ts kt pt] (.Tuple vs k2 pt2) pos => if h : 4 ≤ ts.length then (match cFs Γ ts with
      | some cf => (match cE fn n Γ (.Tuple vs k2 pt2) with
        | some ce => some ⟨sFlds Γ.cls cf.fs ce.m, fun O => flds_of O.hK O.calm (cf.ok O).1 (ce.ok O) (cf.ok O).2.1 (cf.ok O).2.2 (stores4 (t := .Tuple ts kt pt) h)⟩
        | none => none)
      | none => match cG Γ n (.Tuple ts kt pt), cE fn n Γ (.Tuple vs k2 pt2) with
      | some cg, some ce => some ⟨sAsg ce.m cg.tg, fun O => s_asg (ce.ok O) (cg.ok O) (sole_ok rfl) (stores4 (t := .Tuple ts kt pt) h) rfl⟩
      | _, _ => none) else none
    | .Assign [.Attribute o f tp] e pos => (match cE fn n Γ o, cE fn n Γ e with
      | some co, some ce => some ⟨sFldI Γ.cls f co.m ce.m, fun O => s_fldI O.gcls (co.ok O) (ce.ok O) (by cases e <;> rfl)⟩
      | _, _ => none)
    | .Assign [.Subscript o i tp] e pos => if h : noSlice i = true ∧ noComp e = true then (match cE fn n Γ o, cE fn n Γ i, cE fn n Γ e with
      | some co, some ci, some ce => some ⟨sSub setL co.m ci.m ce.m, fun O => s_sub (set_L (by have := O.units; omega)) (co.ok O) (ci.ok O) (ce.ok O) (asgSub_ok h.1) (sole_ok h.2) (by cases e <;> rfl) rfl⟩
      | _, _, _ => none) else none
    | .Assign [t] e pos => if h : noComp e = true ∧ (noTup e = true ∨ noPack t = true) ∧ noStar t = true then (match cG Γ n t, cE fn n Γ e with
      | some cg, some ce => some ⟨sAsg ce.m cg.tg, fun O => s_asg (ce.ok O) (cg.ok O) (sole_ok h.1) (by
          rcases h.2.1 with h1 | h1
          · exact stores_ok h1
          · cases t <;> first | (cases e <;> rfl) | cases h1) (by rw [asgE_ok h.2.2]; rfl)⟩
      | _, _ => none) else none
    | _ => none
noncomputable def cSs (fn : Fn) : Nat → (Γ : Gm) → (s : List Stmt) → Option (CSs Γ fn s)
  | 0, _, _ => none
  | n + 1, Γ, s => match s with
    | [] => some ⟨sNext, fun _ => s_nil⟩
    | [a] => match cS fn n Γ a with
      | some c => some ⟨c.m, fun O => s_one (c.ok O)⟩
      | none => none
    | a :: b :: r => match cS fn n Γ a, cSs fn n Γ (b :: r) with
      | some c, some cr => some ⟨sSeq c.m cr.m, fun O => s_cons (c.ok O) (cr.ok O)⟩
      | _, _ => none
end
end Cod

namespace Cod
open PySem L2 PyProof.Rows

/-! ### a whole program -/
structure FInfo where
  x : Str
  st : Stmt
  N : List Str
  ps : List Str
  m : Fn → SD
  gx : Bool := false
  dk : List Str := []
  q : Str := x
noncomputable def semOf (fs : List FInfo) (fn : Fn) : Fn := fun i ds h => match fs[i]? with
  | some f => fnD f.N.length (f.m fn) ds h
  | none => .no
noncomputable def runOf (fs : List FInfo) : Nat → Fn
  | 0 => fun _ _ _ => .no
  | k + 1 => semOf fs (runOf fs k)
noncomputable abbrev gmOf (f : FInfo) (glb : List (Str × Gi)) (blt : List Str) (tab : List ((Nat × Nat) × Bool)) (xf : List (Nat × List Str)) (mth : Mth) (cls : List (Nat × List Str)) (xm : List ((Nat × Str) × MkI)) : Gm := ⟨f.N, (defScope f.st).names, fun _ => true, glb, blt, 2, f.gx, tab, xf, true, true, f.dk, mth, cls, xm⟩
structure FStat (glb : List (Str × Gi)) (blt : List Str) (tab : List ((Nat × Nat) × Bool)) (xf : List (Nat × List Str)) (mth : Mth) (cls : List (Nat × List Str)) (xm : List ((Nat × Str) × MkI)) (f : FInfo) : Prop where
  S : FnScope f.N f.ps (defScope f.st)
  C : ∀ fn : Fn, ((cSs fn 200 (gmOf f glb blt tab xf mth cls xm) (defBody f.st)).map (·.m)) = some (f.m fn)
structure FFact (L : Lk) (mg : Str → Option Value) (base : Heap) (i : Nat) (f : FInfo) (fd : FuncData) : Prop where
  F : Fun L.K f.x f.q f.st (L.fA i) fd
  b : Binds L.K fd f.ps []
  c : f.gx = true → ∃ c P, fd.code = .ref c ∧ GxR.TabB base mg c P ∧ P ∈ L.tb
structure Glo (L : Lk) (mg : Str → Option Value) (fs : List FInfo) (glb : List (Str × Gi)) (blt : List Str) : Prop where
  fn : ∀ (x : Str) (i n : Nat), glb.lookup x = some (.fn i n) → mg x = some (.ref (L.fA i)) ∧ ∃ f, fs[i]? = some f ∧ f.ps.length = n
  val : ∀ x d, glb.lookup x = some (.val d) → ∃ v u, mg x = some u ∧ RelV v u ∧ RG L d v
  blt : ∀ x, x ∈ blt → mg x = none
theorem prog_ok {P : Program} {w : World} {L : Lk} {mg : Str → Option Value} {base : Heap} {fs : List FInfo} {glb : List (Str × Gi)} {blt : List Str} {tab : List ((Nat × Nat) × Bool)} {xf : List (Nat × List Str)} {mth : Mth} {cls : List (Nat × List Str)} {xm : List ((Nat × Str) × MkI)} {fds : Nat → FuncData}
    (hw : w = L.w) (st : ∀ (i : Nat) (f : FInfo), fs[i]? = some f → FStat glb blt tab xf mth cls xm f) (ft : ∀ (i : Nat) (f : FInfo), fs[i]? = some f → FFact L mg base i f (fds i)) (G : Glo L mg fs glb blt) (GX : ∀ x c n g, glb.lookup x = some (.exc c n g) → XOk P w L.K mg base (L.cA c) x n g) (XT : XTab L.K L tab xf) (hxn : L.xn = none) (GT : ∀ x xs, glb.lookup x = some (.val (.tup xs)) → ∃ (a : Addr) (o : Obj), mg x = some (.ref a) ∧ RG L (.tup xs) (.ref a) ∧ L.K.lookup a = some o ∧ o.cls = .type "tuple" ∧ o.dict = none)
    (GXM : ∀ c m i, xm.lookup (c, m) = some i → XmOk P w L.K mg base (L.cA c) m i) (GC : ClsOk L.K L cls) (GM : ∀ c m i np, mth.lookup (c, m) = some (i, np) → Cls L.K (L.cA c) ∧ Meth L.K (L.cA c) m (L.fA i) ∧ ∃ f, fs[i]? = some f ∧ f.ps.length = np) (GK : ∀ x c i n, glb.lookup x = some (.cls c i n) → mg x = some (.ref (L.cA c)) ∧ Mk L.K (L.cA c) (L.fA i) ∧ ∃ f, fs[i]? = some f ∧ f.ps.length = n) :
    ∀ (k : Nat) (i : Nat) (f : FInfo), fs[i]? = some f → FnOk P w L.K mg base (L2.CX P w) (3 * k) (L.fA i) (fds i) f.ps (spOf L f.ps.length (runOf fs k i))
  | 0, i, f, e => ⟨fun vs H Q E h => h.1, fun A outer s H args us vs Q E _ _ _ _ h => by
      obtain ⟨_, _, _, _, _, _, z⟩ := h
      exact z.elim⟩
  | k + 1, i, f, e => by
    have S := (st i f e).S
    have hC := (st i f e).C (runOf fs k)
    cases ec : cSs (runOf fs k) 200 (gmOf f glb blt tab xf mth cls xm) (defBody f.st) with
    | none => rw [ec] at hC; cases hC
    | some c =>
      rw [ec] at hC
      have hm : c.m = f.m (runOf fs k) := Option.some.inj hC
      have key := fn_ok (P := P) (w := w) (mg := mg) (base := base) (k := 3 * k + 2) (m := c.m) (ft i f e).F S fun cdv hcd A outer s H E hr => c.ok (k := k) (W := fun cls d _ H => E cls d H) ⟨rfl, S.nd, rfl, S.kind, rfl, takes_of rfl rfl rfl rfl, passes_of rfl, hr, rfl, hw, fun _ _ => rfl, fun x j n hx => by
          obtain ⟨hmg, g, eg, en⟩ := G.fn x j n hx
          have t := ft j g eg
          subst en
          exact ⟨fds j, g.ps, hmg, t.F.kp, t.b, prog_ok hw st ft G GX XT hxn GT GXM GC GM GK k j g eg⟩, G.val, G.blt, fun hg => by
            obtain ⟨c, P, h1, h2, h3⟩ := (ft i f e).c hg
            exact CodK.base (hcd.symm.trans h1) h2.bm h2.code h3, GX, XT, hxn, GT, fun _ => ⟨rfl, rfl, rfl⟩, GXM, fun _ => rfl, GC, fun c m j np hx => by
            obtain ⟨h1, h2, g, eg, en⟩ := GM c m j np hx
            subst en
            exact ⟨fds j, g.ps, h1, h2, (ft j g eg).b, prog_ok hw st ft G GX XT hxn GT GXM GC GM GK k j g eg⟩, fun x c j n hx => by
            obtain ⟨h1, h2, g, eg, en⟩ := GK x c j n hx
            subst en
            exact ⟨fds j, g.ps, h1, h2, (ft j g eg).b, prog_ok hw st ft G GX XT hxn GT GXM GC GM GK k j g eg⟩⟩
      rw [hm] at key
      have er : runOf fs (k + 1) i = fnD f.N.length (f.m (runOf fs k)) := by
        show semOf fs (runOf fs k) i = _
        funext ds h
        unfold semOf
        rw [e]
      rw [er]
      exact key
/-- the law: one parameter, the script; it tells True -/
theorem law_sp {L : Lk} {F : List D → AH → R D} {a : Addr} {ns : List Int} {H : Hp} (ht : ∀ o : O, o = .frz (ns.map D.int) ∨ o = .lst (ns.map D.int) → ∃ h', F [.loc 0] [o] = .ok (.bl true) h') (hT : ∀ P ∈ L.tb, H P = some (.tbl #[])) (hS : SqL L.K H a (ns.map V.int)) :
    spOf L 1 F [.ref a] H (fun v _ => v = .bl true) fun _ _ _ => False := by
  have main : ∀ o : O, o = .frz (ns.map D.int) ∨ o = .lst (ns.map D.int) → RO L [a] H a o → spOf L 1 F [.ref a] H (fun v _ => v = .bl true) fun _ _ _ => False := fun o ho ro => by
    obtain ⟨h', e⟩ := ht o ho
    refine ⟨rfl, [a], [.loc 0], [o], ⟨rfl, fun m n b o u e1 e2 _ _ => .inl ?_, fun n b o' e1 e2 => ?_, fun P hP => ⟨#[], hT P hP, trivial, fun pos cv z => by simp [codeAmong] at z⟩⟩, .cons (.loc rfl) .nil, ?_⟩
    · have h1 := (List.getElem?_eq_some_iff.mp e1).1
      have h2 := (List.getElem?_eq_some_iff.mp e2).1
      simp at h1 h2; omega
    · have h1 := (List.getElem?_eq_some_iff.mp e1).1
      have h0 : n = 0 := by simp at h1; omega
      subst h0
      cases e1
      cases e2
      exact ro
    · rw [e]
      intro A' v H' _ _ rd
      cases rd
      rfl
  rcases hS with (h | ⟨ob, h⟩) | h
  · exact main _ (.inr rfl) ⟨_, h, RDs.ints ns⟩
  · exact main _ (.inl rfl) ⟨_, .inl ⟨ob, h⟩, RDs.ints ns⟩
  · exact main _ (.inl rfl) ⟨_, .inr h, RDs.ints ns⟩
theorem no_cx {P : Program} {w : World} {H : Hp} {s : Shared} {e : Value} {s' : Shared} (h : L2.CX P w [] H s (fun _ _ _ => False) e s') : False := by
  obtain ⟨_, _, _, _, _, _, _, _, _, _, _, _, z⟩ := h
  exact z
/-- the defs' tables of code objects at the head -/
noncomputable def Tabs (q : Program) (K : PySem.W.Frag) (mg : Str → Option Value) (h : Heap) : Prop := ∀ (x : Str) (f c P : Addr) (o : Obj) (fd : FuncData) (e : Value) (dd : Option Addr) (vs : Array Value) (sl : Array (Option Value)), ((recsOf q).any fun d => d.name == x) = true → mg x = some (.ref f) →
  K.lookup f = some o → o.data = .func fd → fd.code = .ref c → K.lookup c = some ⟨e, dd, .fields vs, sl⟩ → vs[11]? = some (.ref P) → PySem.W.CodeHd h c P ∧ h.get? P = some { cls := .none, data := .fields #[] }
theorem tabB_of {base : Heap} {mg : Str → Option Value} {c P : Addr} (h : LamX.TabB base mg c P) : GxR.TabB base mg c P := ⟨h.code, h.bm, h.gP⟩
theorem walk_law {l : PySem.W.OpenLaw} {k : Nat} {ts : List Addr} {q : Program} {loose : List Str} {XP : (Str → Option Value) → Heap → Prop} {YP : World → Heap → Prop} {d : DefRec} {K : Params → PySem.W.Frag} {F : List D → AH → R D}
    (hn : l.most = some 63) (hdf : d.params.defaults = []) (hr : Room k callerA) (hY : ∀ (w : World) (h : Heap), YP w h → (K w.params).In h) (hT : ∀ (w : World) (h : Heap), YP w h → ∀ P ∈ ts, h.get? P = some { cls := .none, data := .fields #[] })
    (FF : ∀ (w : World) (mg : Str → Option Value) (fa : Addr) (h : Heap), (K w.params).In h → h.Ns mainGlobals mg → mg d.name = some (.ref fa) → Tabs q (K w.params) mg h → (∀ P ∈ ts, h.get? P = some { cls := .none, data := .fields #[] }) →
      ∃ (fd : FuncData) (cs : List (Addr × Addr)), (∀ p ∈ cs, PySem.W.CodeHd h p.1 p.2 ∧ h.get? p.2 = some { cls := .none, data := .fields #[] }) ∧ (∀ p ∈ cs, (K w.params).lookup p.2 = none) ∧ (∀ (s : Shared) (u : Value), BindsTo s fd ⟨[u], []⟩ [("script", u)]) ∧
        ∃ fA cA : Nat → Addr, ∀ base : Heap, (K w.params).In base → base.Ns mainGlobals mg → (∀ p ∈ cs, GxR.TabB base mg p.1 p.2) → FnOk l.prog w (K w.params) mg base (L2.CX l.prog w) k fa fd ["script"] (spOf ⟨K w.params, fA, cA, cs.map (·.2), w, none⟩ 1 F))
    (ht : ∀ (ns : List Int) (o : O), ns.length ≤ 63 → o = .frz (ns.map D.int) ∨ o = .lst (ns.map D.int) → ∃ h', F [.loc 0] [o] = .ok (.bl true) h') :
    PySem.W.WalkO q loose XP YP l.row.toRowW d [] (fun f vs => PySem.call f vs) := by
  refine Att.attach_callB hn hdf fun w s₀ s₁ mg mb fa o pm cd doc a vs ns G Y ho hd hcd hmg hobj hints hlen hbits hg => ?_
  have KX := hY w _ Y
  have T : Tabs q (K w.params) mg s₁.heap := fun x f c P o1 fd e dd vs1 sl hx k0 k1 k2 k3 k4 k5 => by
    obtain ⟨dL, hm, hn1⟩ := List.any_eq_true.mp hx
    have hn2 : dL.name = x := beq_iff_eq.mp hn1
    obtain ⟨a', o', fd', c', P', h1, h2, h3, h4, h5, h6⟩ := G.T.tab dL hm
    rw [hn2, k0] at h1
    cases h1
    rw [KX _ _ k1] at h2
    cases h2
    rw [k2] at h3
    cases h3
    rw [k3] at h4
    cases h4
    have hc := PySem.W.CodeHd.of h5 h6
    obtain ⟨⟨oc, vc, e1, _, e3, e4⟩, hP⟩ := h6
    rw [KX _ _ k4] at e1
    cases e1
    cases e3
    rw [k5] at e4
    cases e4
    exact ⟨hc, hP⟩
  obtain ⟨fd, cs, hC, nT, hb, fA, cA, hF⟩ := FF w mg fa _ KX G.T.g hmg T (hT w _ Y)
  refine LamX.law_callTs (sp := spOf ⟨K w.params, fA, cA, cs.map (·.2), w, none⟩ 1 F) (cs := cs) KX G.T.g G.T.b G.T.builtins G.T.nolimit hg (fun p hp => (hC p hp).2) nT (fun p hp => (hC p hp).1) G.T.bmain hobj hints (Nat.le_trans hlen (by decide)) hr (fun base h1 h2 h3 => hF base h1 h2 fun p hp => tabB_of (h3 p hp)) hb (fun H hH hS => ?_) fun H e s' h => no_cx h
  refine law_sp (L := ⟨K w.params, fA, cA, cs.map (·.2), w, none⟩) (fun o ho => ht ns o hlen ho) (fun P hP => ?_) hS
  obtain ⟨p, hp, rfl⟩ := List.mem_map.mp hP
  exact hH p hp
theorem lk_any {κ α : Type} [BEq κ] [LawfulBEq κ] {k : κ} {v : α} : ∀ {l : List (κ × α)}, l.lookup k = some v → (k, v) ∈ l
  | [], h => by cases h
  | (j, a) :: r, h => by
    rw [List.lookup_cons] at h
    cases z : k == j with
    | true =>
      rw [z] at h
      cases h
      rw [eq_of_beq z]
      exact List.mem_cons_self
    | false =>
      rw [z] at h
      exact List.mem_cons_of_mem _ (lk_any h)
theorem lookC_mem {cls : List (Nat × List Str)} {c : Nat} {f : Str} (h : lookC cls c f = true) : ∃ l, (c, l) ∈ cls ∧ f ∈ l := by
  unfold lookC at h
  split at h
  · rename_i l e
    exact ⟨l, lk_any e, of_decide_eq_true h⟩
  · cases h
theorem lkM_mem {mth : Mth} {c : Nat} {m : Str} {v : Nat × Nat} (h : mth.lookup (c, m) = some v) : ((c, m), v) ∈ mth := lk_any h
end Cod

/-! # exception classes of a program out of what the written part says -/
namespace Cod
open PySem L2 PySem.Spec PyProof.Rows
theorem xok_init {P : Program} {w : World} {K : PySem.W.Frag} {mg : Str → Option Value} {base : Heap} {C fI cda cc : Addr} {m : Stmt} {x sf qual : Str} {ps : List Str} {n : Nat} {e0 : Expr} {s0 : Src} {rest : List Stmt} {kV doc pm ct oc : Value} {an od : Option Addr} {osl : Array (Option Value)} {p0 p1 p2 p3 p4 : Pos} {f1 : Str} {s1 : Src} {fs : List (Str × Src)}
    {nm q : Str} {N : Addr} {bs bm : List Value} {sn : List Str} {sub : List Value} {ab : Bool} {col : Option Bool} {dd : Option Addr} {k0 k1 k2 k3 k5 : Option Value} {coc : Value} {cod : Option Addr} {vs : Array Value} {csl : Array (Option Value)} {file : Str} {tf : Tok} {clc : Value} {cld : Option Addr} {cls : Array (Option Value)}
    (xL : K.lookup C = some (excClassObj nm q C N bs bm true sn sub ab col dd k0 k1 k2 k3 k5 "ValueError.__new__")) (rv : PySem.HandSPX.refsVE bm = true) (hmg : mg x = some (.ref C)) (hsup : mg "super" = none)
    (sa : PySem.W.findIn K (.ref C) "__setattr__" = some (some (.builtin "object.__setattr__"))) (exC : PySem.W.subIn K (.ref C) (.type "BaseException") = some true) (tyC : PySem.W.typeIn K (.ref C) = some (.type "type")) (kC : PySem.W.keepIn K (.ref C) = true)
    (iC : PySem.W.findIn K (.ref C) "__init__" = some (some (.ref fI))) (tI : PySem.W.typeIn K (.ref fI) = some (.type "function"))
    (lk : K.lookup fI = some ⟨oc, od, .func (PySem.W.ksFn "__init__" qual (defArgs m) (defBody m) (defScope m) .none kV doc pm an (.ref cda) ct cc), osl⟩) (hcd : PySem.W.codeIn K (.ref cda) qual = true)
    (lc : K.lookup cda = some ⟨coc, cod, .fields vs, csl⟩) (hv : vs[2]? = some (.str file tf)) (hfile : ((P.main.file : Str) == file) = true) (htop : (P.main.scope.names.lookup ("super" : Str)).isSome = false)
    (lcc : K.lookup cc = some ⟨clc, cld, .cell (some (.ref C)), cls⟩) (hal : PySem.W.ks_superIn K C C "__init__" = some (some (.builtin "ValueError.__init__"))) (hmro : PySem.W.mroIn K C (.ref C) = some true) (hopq : PySem.W.nsIn K cStatics "thirdparty.any" = some none) (hsub : PySem.W.subIn K (.ref C) (.type "ValueError") = some true)
    (hbody : defBody m = .Expr (.Call (.Attribute (.Call (.Name "super" p0) [] [] p1) "__init__" p2) [e0] [] p3) p4 :: rest) (S : ScopeS ps ps (defScope m)) (hks : (defScope m).names.lookup ("super" : Str) = some .globalImplicit ∧ (defScope m).names.lookup ("__class__" : Str) = some .free)
    (hpar : (((defArgs m).posonlyargs ++ (defArgs m).args).head?.map (·.arg)) = some sf) (h0 : ps[0]? = some sf) (hn : ps.length = n + 1) (hn2 : n ≤ 1000) (hpl : ∀ x ∈ ps, (x == ("__debug__" : Str)) = false ∧ (x == ("__classdict__" : Str)) = false)
    (he0 : srcE ps e0 = some s0) (hp0 : ∀ ws : List V, ws.length = n → (srcV ws s0).isSome = true) (hr : asgE ps sf rest = some ((f1, s1) :: fs)) (hfs : fs.length ≤ 800) (hno : ∀ p ∈ ((f1, s1) :: fs), PySem.W.findIn K (.ref C) p.1 = some none)
    (hbi : ∀ us : List Value, us.length = ps.length → bindArgs (PySem.W.ksFn "__init__" qual (defArgs m) (defBody m) (defScope m) .none kV doc pm an (.ref cda) ct cc) ⟨us, []⟩ = pure (ps.zip us))
    {pl : Env → Sem Bool} (hev : ∀ env : Env, eval (.Call (.Attribute (.Call (.Name "super" p0) [] [] p1) "__init__" p2) [e0] [] p3) env = (do
      let ov ← attributeBase (.Call (.Name "super" p0) [] [] p1) "__init__" env (eval (.Call (.Name "super" p0) [] [] p1) env)
      standAt p2.atName
      let (f, first) ← holding [ov] (getMethod ov "__init__" (pl env))
      callWith p3 f first (backTo p3 (starEach [e0] env)) [])) :
    XOk P w K mg base C x n (some ((f1, s1) :: fs)) := by
  have ox : OexC K C := ⟨⟨nm, q, N, bs, bm, sn, sub, ab, col, dd, k0, k1, k2, k3, k5, xL, rv⟩, sa, exC, tyC, kC⟩
  refine ⟨hmg, ox, hn2, fI, PySem.W.ksFn "__init__" qual (defArgs m) (defBody m) (defScope m) .none kV doc pm an (.ref cda) ct cc, ps, iC, tI, .all hbi, ?_⟩
  have hcl : ∃ cd, PySem.W.clsIn K C = some cd ∧ PySem.W.alongIn K "__init__" ((cd.mro.dropWhile (· != .ref C)).drop 1) = some (some (.builtin "ValueError.__init__")) := by
    unfold PySem.W.ks_superIn at hal
    cases z : PySem.W.clsIn K C with
    | none => rw [z] at hal; cases hal
    | some cd => rw [z] at hal; exact ⟨cd, rfl, hal⟩
  obtain ⟨ar, har, ear⟩ := Option.map_eq_some_iff.mp hpar
  rw [hbody] at lk ⊢
  exact xinit lk hcd S ⟨ox, hks, ⟨_, lk, rfl⟩, ⟨ar, har, ear⟩, ⟨_, vs, file, tf, lc, rfl, hv, hfile⟩, ⟨_, lcc, rfl⟩, htop, hsup, hcl, hmro, hopq, hsub⟩ h0 hn hpl he0 hp0 hr hfs hno hev
end Cod
namespace Cod
theorem lkP {β : Type} : ∀ {l : List ((Nat × Nat) × β)} {c : Nat × Nat} {b : β}, l.lookup c = some b → (c, b) ∈ l
  | [], _, _, e => by cases e
  | (k, v) :: r, c, b, e => by
    rw [List.lookup_cons] at e
    split at e
    · rename_i h
      cases e
      have : c = k := by simpa using h
      rw [this]
      exact List.mem_cons_self
    · exact List.mem_cons_of_mem _ (lkP e)
end Cod
namespace Cod
open PySem L2 PySem.Spec PyProof.Rows
theorem sup_of {K : PySem.W.Frag} {C B N N' : Addr} {name nm q nm' q' : Str} {v : Option Value} {bs bs' bm sub sub' : List Value} {sn sn' : List Str} {h1 h2 ab ab' : Bool} {col col' : Option Bool} {dd dd' : Option Addr} {k0 k1 k2 k3 k5 j0 j1 j2 j3 j5 : Option Value} {nw nw' : String}
    (xL : K.lookup C = some (excClassObj nm q C N bs (.ref B :: bm) h1 sn sub ab col dd k0 k1 k2 k3 k5 nw)) (xB : K.lookup B = some (excClassObj nm' q' B N' bs' bm h2 sn' sub' ab' col' dd' j0 j1 j2 j3 j5 nw')) (hf : PySem.W.findIn K (.ref B) name = some v) : PySem.W.ks_superIn K C C name = some v := by
  unfold PySem.W.ks_superIn PySem.W.clsIn
  rw [xL]
  unfold PySem.W.findIn at hf
  simp only [xB] at hf
  simp only [Option.bind_some]
  rw [show ((List.dropWhile (fun x => x != Value.ref C) (Value.ref C :: Value.ref B :: bm)).drop 1) = Value.ref B :: bm from by
    rw [List.dropWhile_cons_of_neg (by simp)]; rfl]
  exact hf
theorem kit_of {K : PySem.W.Frag} {D C : Addr} {b : Bool} (h : PySem.W.subIn K (.ref D) (.ref C) = some b) (hd : PySem.W.hasDictIn K C = true) (ht : PySem.W.typeIn K (.ref C) = some (.type "type")) (hs : PySem.W.subIn K (.ref C) (.ref C) = some true) : PySem.W.kitOne K (.ref D) (.ref C) = some b := by
  obtain ⟨cd, hc, _⟩ := PySem.W.any_some hd
  unfold PySem.W.kitOne PySem.W.kitCls
  split
  · rename_i e
    have : D = C := Value.ref.inj (beq_iff_eq.mp e)
    subst this
    rw [hs] at h
    exact h
  · simp only
    rw [if_pos (by rw [hc, ht]; rfl)]
    exact h
theorem kit_ve {K : PySem.W.Frag} {D : Addr} (h : PySem.W.subIn K (.ref D) (.type "ValueError") = some true) : PySem.W.kitOne K (.ref D) (.type "ValueError") = some true := by
  unfold PySem.W.kitOne PySem.W.kitCls
  split
  · rfl
  · simp only
    rw [if_pos (by decide +kernel)]
    exact h
end Cod
namespace Cod
open PySem L2 PySem.Spec PyProof.Rows
/-- a method of an exception class: if self.F == c: self.F1 = .., .. -/
theorem xmk_ok {P : Program} {w : World} {K : PySem.W.Frag} {mg : Str → Option Value} {base : Heap} {C f : Addr} {st : Stmt} {sf name qual F c : Str} {rest : List Stmt} {kV doc pm cdv ct oc : Value} {an od : Option Addr} {osl : Array (Option Value)} {ps : List Str} {n : Nat} {p0 p1 p2 p3 p4 : Pos} {j : Nat} {asg : List (Str × Src)}
    {nm q : Str} {N : Addr} {bs bm : List Value} {sn : List Str} {sub : List Value} {ab : Bool} {col : Option Bool} {dd : Option Addr} {k0 k1 k2 k3 k5 : Option Value}
    (xL : K.lookup C = some (excClassObj nm q C N bs bm true sn sub ab col dd k0 k1 k2 k3 k5 "ValueError.__new__")) (rv : PySem.HandSPX.refsVE bm = true) (sa : PySem.W.findIn K (.ref C) "__setattr__" = some (some (.builtin "object.__setattr__"))) (exC : PySem.W.subIn K (.ref C) (.type "BaseException") = some true) (tyC : PySem.W.typeIn K (.ref C) = some (.type "type")) (kC : PySem.W.keepIn K (.ref C) = true)
    (Tx : XfC K C) (M : XMeth K C name f) (lk : K.lookup f = some ⟨oc, od, .func (PySem.W.fnOf name qual (defArgs st) (defBody st) (defScope st) .none kV doc pm an cdv ct), osl⟩) (hcd : PySem.W.codeIn K cdv qual = true)
    (hbody : defBody st = [.If (.Compare (.Attribute (.Name sf p0) F p1) [.Eq] [.Constant (.str c) j p2] p3) rest [] p4]) (S : FnScope ps ps (defScope st)) (hsc : ∀ x ∈ ps, (defScope st).names.lookup x = some .local)
    (h0 : ps[0]? = some sf) (hn : ps.length = n + 1) (hpl : ∀ x ∈ ps, (x == ("__debug__" : Str)) = false ∧ (x == ("__classdict__" : Str)) = false) (hr : asgE ps sf rest = some asg) (hno : ∀ p ∈ asg, PySem.W.findIn K (.ref C) p.1 = some none) (hnF : PySem.W.findIn K (.ref C) F = some none)
    (hbi : ∀ us : List Value, us.length = ps.length → bindArgs (PySem.W.fnOf name qual (defArgs st) (defBody st) (defScope st) .none kV doc pm an cdv ct) ⟨us, []⟩ = pure (ps.zip us)) : XmOk P w K mg base C name ⟨n, F, c, asg⟩ := by
  refine ⟨f, _, ps, Tx, M, .all hbi, hn, ?_⟩
  rw [hbody] at lk ⊢
  exact xmark lk hcd S hsc h0 hn hpl ⟨⟨nm, q, N, bs, bm, sn, sub, ab, col, dd, k0, k1, k2, k3, k5, xL, rv⟩, sa, exC, tyC, kC⟩ Tx hr hno hnF
end Cod

namespace Cod
open PySem L2

/-! ### loops by what holds between two turns -/
theorem forG_inv {body : SD} {tg : Tg} {it : Itg} {xs : List D} (P : Nat → Sl → AH → Prop) (hn : ∀ i δ h, i ≤ xs.length → P i δ h → nxtI it i h = some xs[i]?)
    (hs : ∀ i x δ h, xs[i]? = some x → P i δ h → ∃ δ1 δ2 h2, asgT tg x δ = some δ1 ∧ (body δ1 h = .nx δ2 h2 ∨ body δ1 h = .ct δ2 h2) ∧ P (i + 1) δ2 h2) :
    ∀ f i δ h, i ≤ xs.length → xs.length ≤ i + f → P i δ h → ∃ δ' h', forG body tg it f i δ h = .nx δ' h' ∧ P xs.length δ' h'
  | 0, i, δ, h, h1, h2, p => by
    have e : i = xs.length := by omega
    subst e
    refine ⟨δ, h, ?_, p⟩
    unfold forG
    rw [hn _ δ h (Nat.le_refl _) p, List.getElem?_eq_none (Nat.le_refl _)]
  | f + 1, i, δ, h, h1, h2, p => by
    unfold forG
    rw [hn i δ h h1 p]
    cases e : xs[i]? with
    | none =>
      have hi : xs.length ≤ i := List.getElem?_eq_none_iff.mp e
      have e' : i = xs.length := by omega
      subst e'
      exact ⟨δ, h, rfl, p⟩
    | some x =>
      have hi : i < xs.length := (List.getElem?_eq_some_iff.mp e).1
      obtain ⟨δ1, δ2, h2', ha, hb, p2⟩ := hs i x δ h e p
      obtain ⟨δ', h', hf, p'⟩ := forG_inv P hn hs f (i + 1) δ2 h2' (by omega) (by omega) p2
      refine ⟨δ', h', ?_, p'⟩
      simp only [ha]
      rcases hb with hb | hb
      · simp only [hb]; exact hf
      · simp only [hb]; exact hf
theorem lstAt_frz {h : AH} {n : Nat} {xs : List D} (e : h[n]? = some (.frz xs)) : lstAt h n = some xs := by unfold lstAt; rw [e]
theorem lstAt_lst {h : AH} {n : Nat} {xs : List D} (e : h[n]? = some (.lst xs)) : lstAt h n = some xs := by unfold lstAt; rw [e]
theorem nxt_lst {h : AH} {n i : Nat} {xs : List D} (e : lstAt h n = some xs) : nxtI (.lst n) i h = some xs[i]? := by
  simp only [nxtI, e]
theorem cnt_lst {h : AH} {n : Nat} {xs : List D} (e : lstAt h n = some xs) : cntI (.lst n) h = xs.length := by
  simp only [cntI, e, Option.getD_some]
/-- a for over a list that the body leaves as it is -/
theorem for_lst {m : ED} {tg : Tg} {body : SD} {δ : Sl} {h h0 : AH} {n : Nat} {xs : List D} (P : Nat → Sl → AH → Prop) (hm : m δ h = .ok (.loc n) h0) (hl : lstAt h0 n = some xs) (h0' : P 0 δ h0) (hk : ∀ i δ h, P i δ h → lstAt h n = some xs)
    (hs : ∀ i x δ h, xs[i]? = some x → P i δ h → ∃ δ1 δ2 h2, asgT tg x δ = some δ1 ∧ (body δ1 h = .nx δ2 h2 ∨ body δ1 h = .ct δ2 h2) ∧ P (i + 1) δ2 h2) :
    ∃ δ' h', sFor (iSeq m) tg body δ h = .nx δ' h' ∧ P xs.length δ' h' := by
  obtain ⟨δ', h', e, p⟩ := forG_inv (body := body) (tg := tg) (it := .lst n) (xs := xs) P (fun i δ h _ p => nxt_lst (hk i δ h p)) hs xs.length 0 δ h0 (Nat.zero_le _) (by omega) h0'
  refine ⟨δ', h', ?_, p⟩
  unfold sFor iSeq
  rw [hm]
  simp only [R.bind, iSeqD, hl, R.thn, cnt_lst hl]
  exact e
/-- a for over items that stand -/
theorem for_items {mi : ID} {tg : Tg} {body : SD} {δ : Sl} {h h0 : AH} {xs : List D} (P : Nat → Sl → AH → Prop) (hm : mi δ h = .ok (.items xs) h0) (h0' : P 0 δ h0)
    (hs : ∀ i x δ h, xs[i]? = some x → P i δ h → ∃ δ1 δ2 h2, asgT tg x δ = some δ1 ∧ (body δ1 h = .nx δ2 h2 ∨ body δ1 h = .ct δ2 h2) ∧ P (i + 1) δ2 h2) :
    ∃ δ' h', sFor mi tg body δ h = .nx δ' h' ∧ P xs.length δ' h' := by
  obtain ⟨δ', h', e, p⟩ := forG_inv (body := body) (tg := tg) (it := .items xs) (xs := xs) P (fun i δ h _ p => rfl) hs xs.length 0 δ h0 (Nat.zero_le _) (by omega) h0'
  refine ⟨δ', h', ?_, p⟩
  unfold sFor
  rw [hm]
  exact e
theorem seq_nx {m n : SD} {δ δ1 : Sl} {h h1 : AH} (e : m δ h = .nx δ1 h1) : sSeq m n δ h = n δ1 h1 := by
  unfold sSeq
  rw [e]
  rfl
theorem getO_app {α : Type} {l r : List α} {n : Nat} {a : α} (h : l[n]? = some a) : (l ++ r)[n]? = some a := by
  rw [List.getElem?_append_left (List.getElem?_eq_some_iff.mp h).1]
  exact h
theorem fn_rt {n : Nat} {m : SD} {ds : List D} {h h' : AH} {d : D} (e : m (startD n ds) h = .rt d h') : fnD n m ds h = .ok d h' := by
  unfold fnD
  rw [e]
theorem fn_nx {n : Nat} {m : SD} {ds : List D} {h h' : AH} {δ : Sl} (e : m (startD n ds) h = .nx δ h') : fnD n m ds h = .ok .non h' := by
  unfold fnD
  rw [e]
theorem if_t {c : BD} {m n : SD} {δ : Sl} {h h1 : AH} (e : c δ h = .ok true h1) : sIf c m n δ h = m δ h1 := by
  unfold sIf
  rw [e]
  rfl
theorem if_f {c : BD} {m n : SD} {δ : Sl} {h h1 : AH} (e : c δ h = .ok false h1) : sIf c m n δ h = n δ h1 := by
  unfold sIf
  rw [e]
  rfl
theorem b_eq {a b : ED} {δ : Sl} {h h1 h2 : AH} {d e : D} {x : Bool} (ha : a δ h = .ok d h1) (hb : b δ h1 = .ok e h2) (hx : eqB h2 d e = some x) : bOf (e2 eqD a b) δ h = .ok x h2 := by
  unfold bOf e2
  rw [ha]
  simp only [R.bind, hb, eqD, hx, asB]
theorem b_ne {a b : ED} {δ : Sl} {h h1 h2 : AH} {d e : D} {x : Bool} (ha : a δ h = .ok d h1) (hb : b δ h1 = .ok e h2) (hx : eqB h2 d e = some x) : bOf (e2 neD a b) δ h = .ok (!x) h2 := by
  unfold bOf e2
  rw [ha]
  simp only [R.bind, hb, neD, hx, asB]
theorem ret_ok {m : ED} {δ : Sl} {h h1 : AH} {d : D} (e : m δ h = .ok d h1) : sRet m δ h = .rt d h1 := by
  unfold sRet
  rw [e]
  rfl
theorem asg_nm {m : ED} {i : Nat} {δ : Sl} {h h1 : AH} {d : D} (e : m δ h = .ok d h1) : sAsg m (.nm i) δ h = .nx (δ.set i (some d)) h1 := by
  unfold sAsg
  rw [e]
  rfl
theorem call_ok {n : Nat} {F : List D → AH → R D} {a : AD} {δ : Sl} {h h1 : AH} {ds : List D} {r : R D} (ha : a δ h = .ok ds h1) (hn : ds.length = n) (hF : F ds h1 = r) : eA (callD n F) a δ h = r := by
  unfold eA
  rw [ha]
  simp only [R.bind, callD, if_pos hn, hF]
end Cod

namespace Cod
open PySem L2

/-! ### == of plain things -/
theorem eqB_flat {h : AH} {d e : D} (h1 : flatD d = true) (h2 : flatD e = true) : eqB h d e = some (eqF d e) := by
  have e1 : dctAt h d = none := by cases d <;> first | rfl | cases h1
  unfold eqB
  rw [e1]
  show eqX 60 h d e = _
  unfold eqX
  rw [h1, h2]
theorem eqB_int (h : AH) (i j : Int) : eqB h (.int i) (.int j) = some (i == j) := eqB_flat rfl rfl
theorem eqB_bl (h : AH) (i j : Bool) : eqB h (.bl i) (.bl j) = some (i == j) := eqB_flat rfl rfl
theorem eqB_int_non (h : AH) (i : Int) : eqB h (.int i) .non = some false := eqB_flat rfl rfl
theorem eqB_non_int (h : AH) (i : Int) : eqB h .non (.int i) = some false := eqB_flat rfl rfl
theorem eqB_non (h : AH) : eqB h .non .non = some true := eqB_flat rfl rfl
theorem eqB_str (h : AH) (x y : Str) : eqB h (.str x) (.str y) = some (x == y) := eqB_flat rfl rfl
theorem eqB_sq {h : AH} {d e : D} {t t' : Bool} {xs ys : List D} (h1 : sqOf h d = some (t, xs)) (h2 : sqOf h e = some (t', ys)) : eqB h d e = if t = t' then eqL (eqX 59 h) xs ys else some false := by
  have f1 : flatD d = false := by cases d <;> first | rfl | cases h1
  have f2 : flatD e = false := by cases e <;> first | rfl | cases h2
  have e1 : dctAt h d = none := by
    cases d with
    | loc n =>
      simp only [sqOf] at h1
      simp only [dctAt]
      split at h1
      · rename_i z; rw [z]
      · rename_i z; rw [z]
      · cases h1
    | _ => rfl
  unfold eqB
  rw [e1]
  show eqX 60 h d e = _
  unfold eqX
  rw [f1, f2]
  simp only [h1, h2]
theorem eqB_fs {h : AH} {d e : D} {t : Bool} {xs : List D} (h1 : flatD d = true) (h2 : sqOf h e = some (t, xs)) : eqB h d e = some false := by
  have f2 : flatD e = false := by cases e <;> first | rfl | cases h2
  have e1 : dctAt h d = none := by cases d <;> first | rfl | cases h1
  unfold eqB
  rw [e1]
  show eqX 60 h d e = _
  unfold eqX
  rw [h1, f2]
  simp only [h2]
theorem eqB_sf {h : AH} {d e : D} {t : Bool} {xs : List D} (h1 : sqOf h d = some (t, xs)) (h2 : flatD e = true) : eqB h d e = some false := by
  have f1 : flatD d = false := by cases d <;> first | rfl | cases h1
  have e2 : dctAt h e = none := by cases e <;> first | rfl | cases h2
  unfold eqB
  rw [e2]
  have : eqX 60 h d e = some false := by
    unfold eqX
    rw [f1, h2]
    simp only [h1]
  cases dctAt h d with
  | none => exact this
  | some p => exact this
theorem sqOf_lst {h : AH} {n : Nat} {xs : List D} (e : lstAt h n = some xs) : sqOf h (.loc n) = some (false, xs) := by
  unfold lstAt at e
  simp only [sqOf]
  split at e
  · rename_i z; (try rw [z]); cases e; rfl
  · rename_i z; (try rw [z]); cases e; rfl
  · cases e
theorem eqX_flat {k : Nat} {h : AH} {d e : D} (h1 : flatD d = true) (h2 : flatD e = true) : eqX (k + 1) h d e = some (eqF d e) := by
  unfold eqX
  rw [h1, h2]
theorem eqL_ints (k : Nat) (h : AH) : ∀ ns ms : List Int, eqL (eqX (k + 1) h) (ns.map D.int) (ms.map D.int) = some (decide (ns = ms))
  | [], [] => rfl
  | [], _ :: _ => rfl
  | _ :: _, [] => rfl
  | n :: r, m :: s => by
    rw [List.map_cons, List.map_cons, eqL, eqX_flat rfl rfl, eqL_ints k h r s]
    show some ((n == m) && decide (r = s)) = some (decide (n :: r = m :: s))
    congr 1
    rw [Bool.eq_iff_iff]
    simp
theorem eqB_ints {h : AH} {m n : Nat} {xs ys : List Int} (e1 : lstAt h m = some (xs.map D.int)) (e2 : lstAt h n = some (ys.map D.int)) : eqB h (.loc m) (.loc n) = some (decide (xs = ys)) := by
  rw [eqB_sq (sqOf_lst e1) (sqOf_lst e2), if_pos rfl]
  exact eqL_ints 58 h xs ys
/-! ### items of lists that stand written -/
theorem ixN_nat {n k : Nat} (h : k < n) : ixN n (k : Int) = some k := by
  unfold ixN
  rw [if_pos (by omega), if_pos (by omega)]
  simp
theorem atI_pos {α : Type} {xs : List α} {i : Int} (h0 : 0 ≤ i) (h1 : i < xs.length) : L2.atI xs i = xs[i.toNat]? := by
  unfold L2.atI ixN
  rw [if_pos h0, if_pos h1]
  rfl
/-! ### the heap with one number changed -/
/-- all but the thing at n stands as it stood -/
structure St1 (n : Nat) (h h' : AH) : Prop where
  keep : ∀ m o, m ≠ n → h[m]? = some o → h'[m]? = some o
theorem St1.refl (n : Nat) (h : AH) : St1 n h h := ⟨fun _ _ _ e => e⟩
theorem St1.trans {n : Nat} {h h1 h2 : AH} (a : St1 n h h1) (b : St1 n h1 h2) : St1 n h h2 := ⟨fun m o hn e => b.keep m o hn (a.keep m o hn e)⟩
theorem St1.set (n : Nat) (h : AH) (o : O) : St1 n h (h.set n o) := ⟨fun m o' hn e => by rw [List.getElem?_set_ne (Ne.symm hn)]; exact e⟩
theorem St1.app (n : Nat) (h r : AH) : St1 n h (h ++ r) := ⟨fun m o _ e => getO_app e⟩
/-- a dice: three ints -/
noncomputable def Dice (h : AH) (n : Nat) : Prop := ∃ a b c : Int, h[n]? = some (.lst [.int a, .int b, .int c])
theorem Dice.set {h : AH} {n : Nat} (d : Dice h n) (a b c : Int) : Dice (h.set n (.lst [.int a, .int b, .int c])) n := by
  obtain ⟨_, _, _, e⟩ := d
  exact ⟨a, b, c, List.getElem?_set_self (List.getElem?_eq_some_iff.mp e).1⟩
theorem Dice.app {h : AH} {n : Nat} (d : Dice h n) (r : AH) : Dice (h ++ r) n := by
  obtain ⟨a, b, c, e⟩ := d
  exact ⟨a, b, c, getO_app e⟩
/-- the rounds: a list of dice -/
structure Rounds (h : AH) (n : Nat) (ls : List Nat) : Prop where
  at_ : h[n]? = some (.lst (ls.map D.loc))
  dice : ∀ l ∈ ls, Dice h l
theorem Rounds.ne {h : AH} {n : Nat} {ls : List Nat} (r : Rounds h n ls) {l : Nat} (hl : l ∈ ls) : n ≠ l := by
  rintro rfl
  obtain ⟨a, b, c, e⟩ := r.dice _ hl
  have z := r.at_
  rw [e] at z
  cases ls with
  | nil => cases hl
  | cons x r => simp at z
theorem Rounds.step {h h' : AH} {n l : Nat} {ls : List Nat} (r : Rounds h n ls) (hl : l ∈ ls) (s : St1 l h h') (d : Dice h' l) : Rounds h' n ls := by
  refine ⟨s.keep _ _ (r.ne hl) r.at_, fun m hm => ?_⟩
  by_cases e : m = l
  · subst e; exact d
  · obtain ⟨a, b, c, z⟩ := r.dice m hm
    exact ⟨a, b, c, s.keep _ _ e z⟩
/-- the law's loop over its rounds: each turn lets the others stand -/
theorem for_rounds {m : ED} {tg : Tg} {body : SD} {δ : Sl} {h h0 : AH} {n : Nat} {ls : List Nat} (k : Nat) (Ps : Sl → Prop) (hm : m δ h = .ok (.loc n) h0) (hr : Rounds h0 n ls) (hk : δ.length = k) (hp : Ps δ)
    (ht : ∀ l δ, δ.length = k → Ps δ → ∃ δ1, asgT tg (.loc l) δ = some δ1 ∧ ∀ h, Dice h l → ∃ δ2 h2, (body δ1 h = .nx δ2 h2 ∨ body δ1 h = .ct δ2 h2) ∧ δ2.length = k ∧ Ps δ2 ∧ St1 l h h2 ∧ Dice h2 l) :
    ∃ δ' h', sFor (iSeq m) tg body δ h = .nx δ' h' ∧ δ'.length = k ∧ Ps δ' := by
  obtain ⟨δ', h', e, p⟩ := for_lst (xs := ls.map D.loc) (fun _ δ h => Rounds h n ls ∧ δ.length = k ∧ Ps δ) hm (lstAt_lst hr.at_) ⟨hr, hk, hp⟩ (fun i δ h p => lstAt_lst p.1.at_) fun i x δ h hx ⟨pr, pk, pp⟩ => by
    rw [List.getElem?_map, Option.map_eq_some_iff] at hx
    obtain ⟨l, hl, rfl⟩ := hx
    have hl := List.mem_of_getElem? hl
    obtain ⟨δ1, e1, hb⟩ := ht l δ pk pp
    obtain ⟨δ2, h2, eb, k2, q2, s2, d2⟩ := hb h (pr.dice l hl)
    exact ⟨δ1, δ2, h2, e1, eb, pr.step hl s2 d2, k2, q2⟩
  exact ⟨δ', h', e, p.2.1, p.2.2⟩
/-! ### comprehensions by what holds between two turns -/
theorem lcG_inv {elt : ED} {test : BD} {tg : Tg} {it : Itg} {N : Nat} {δ : Sl} {xs : List D} (P : Nat → AH → Prop) (hn : ∀ i h, i ≤ xs.length → P i h → nxtI it i h = some xs[i]?)
    (hs : ∀ i x h, xs[i]? = some x → P i h → ∃ δ1, asgT tg x δ = some δ1 ∧ ((∃ h1, test δ1 h = .ok false h1 ∧ P (i + 1) h1) ∨
      ∃ h1 y h2 acc, test δ1 h = .ok true h1 ∧ elt δ1 h1 = .ok y h2 ∧ h2[N]? = some (.lst acc) ∧ acc.length < lim ∧ P (i + 1) (h2.set N (.lst (acc ++ [y]))))) :
    ∀ f i h, i ≤ xs.length → xs.length ≤ i + f → P i h → ∃ h', lcG elt test tg it N δ f i h = .ok (.loc N) h' ∧ P xs.length h'
  | 0, i, h, h1, h2, p => by
    have e : i = xs.length := by omega
    subst e
    refine ⟨h, ?_, p⟩
    unfold lcG
    rw [hn _ h (Nat.le_refl _) p, List.getElem?_eq_none (Nat.le_refl _)]
  | f + 1, i, h, h1, h2, p => by
    unfold lcG
    rw [hn i h h1 p]
    cases e : xs[i]? with
    | none =>
      have hi : xs.length ≤ i := List.getElem?_eq_none_iff.mp e
      have e' : i = xs.length := by omega
      subst e'
      exact ⟨h, rfl, p⟩
    | some x =>
      have hi : i < xs.length := (List.getElem?_eq_some_iff.mp e).1
      obtain ⟨δ1, ha, hb⟩ := hs i x h e p
      rcases hb with ⟨h1', ht, p2⟩ | ⟨h1', y, h2', acc, ht, he, hN, hz, p2⟩
      · obtain ⟨h', hf, p'⟩ := lcG_inv P hn hs f (i + 1) h1' (by omega) (by omega) p2
        refine ⟨h', ?_, p'⟩
        simp only [ha, ht]
        exact hf
      · obtain ⟨h', hf, p'⟩ := lcG_inv P hn hs f (i + 1) _ (by omega) (by omega) p2
        refine ⟨h', ?_, p'⟩
        simp only [ha, ht, he, hN, if_pos hz]
        exact hf
theorem lc_lst {m : ED} {tg : Tg} {test : BD} {elt : ED} {vs : List Nat} {δ : Sl} {h h0 : AH} {n : Nat} {xs : List D} (P : Nat → AH → Prop) (hm : m δ h = .ok (.loc n) h0) (hl : lstAt h0 n = some xs) (h0' : P 0 (h0 ++ [.lst []])) (hk : ∀ i h, P i h → lstAt h n = some xs)
    (hs : ∀ i x h, xs[i]? = some x → P i h → ∃ δ1, asgT tg x (dwipe δ vs) = some δ1 ∧ ((∃ h1, test δ1 h = .ok false h1 ∧ P (i + 1) h1) ∨
      ∃ h1 y h2 acc, test δ1 h = .ok true h1 ∧ elt δ1 h1 = .ok y h2 ∧ h2[h0.length]? = some (.lst acc) ∧ acc.length < lim ∧ P (i + 1) (h2.set h0.length (.lst (acc ++ [y]))))) :
    ∃ h', eLc (iSeq m) tg test elt vs δ h = .ok (.loc h0.length) h' ∧ P xs.length h' := by
  obtain ⟨h', e, p⟩ := lcG_inv (elt := elt) (test := test) (tg := tg) (it := .lst n) (N := h0.length) (δ := dwipe δ vs) (xs := xs) P (fun i h _ p => nxt_lst (hk i h p)) hs xs.length 0 _ (Nat.zero_le _) (by omega) h0'
  refine ⟨h', ?_, p⟩
  unfold eLc iSeq
  rw [hm]
  simp only [R.bind, iSeqD, hl, cnt_lst hl]
  exact e
theorem lc_items {mi : ID} {tg : Tg} {test : BD} {elt : ED} {vs : List Nat} {δ : Sl} {h h0 : AH} {xs : List D} (P : Nat → AH → Prop) (hm : mi δ h = .ok (.items xs) h0) (h0' : P 0 (h0 ++ [.lst []]))
    (hs : ∀ i x h, xs[i]? = some x → P i h → ∃ δ1, asgT tg x (dwipe δ vs) = some δ1 ∧ ((∃ h1, test δ1 h = .ok false h1 ∧ P (i + 1) h1) ∨
      ∃ h1 y h2 acc, test δ1 h = .ok true h1 ∧ elt δ1 h1 = .ok y h2 ∧ h2[h0.length]? = some (.lst acc) ∧ acc.length < lim ∧ P (i + 1) (h2.set h0.length (.lst (acc ++ [y]))))) :
    ∃ h', eLc mi tg test elt vs δ h = .ok (.loc h0.length) h' ∧ P xs.length h' := by
  obtain ⟨h', e, p⟩ := lcG_inv (elt := elt) (test := test) (tg := tg) (it := .items xs) (N := h0.length) (δ := dwipe δ vs) (xs := xs) P (fun i h _ p => rfl) hs xs.length 0 _ (Nat.zero_le _) (by omega) h0'
  refine ⟨h', ?_, p⟩
  unfold eLc
  rw [hm]
  exact e
/-- all that stood stands -/
noncomputable def Stay (h h' : AH) : Prop := ∀ (m : Nat) (o : O), h[m]? = some o → h'[m]? = some o
theorem Stay.refl (h : AH) : Stay h h := fun _ _ e => e
theorem Stay.trans {h h1 h2 : AH} (a : Stay h h1) (b : Stay h1 h2) : Stay h h2 := fun m o e => b m o (a m o e)
theorem Stay.len {h h' : AH} (s : Stay h h') : h.length ≤ h'.length := by
  by_cases h0 : h.length = 0
  · omega
  · have e := s (h.length - 1) _ (List.getElem?_eq_getElem (by omega))
    have := (List.getElem?_eq_some_iff.mp e).1
    omega
theorem Stay.lst {h h' : AH} {n : Nat} {xs : List D} (s : Stay h h') (e : lstAt h n = some xs) : lstAt h' n = some xs := by
  unfold lstAt at e ⊢
  split at e
  · rename_i z; rw [s _ _ z]; exact e
  · rename_i z; rw [s _ _ z]; exact e
  · cases e
theorem Stay.app (h r : AH) : Stay h (h ++ r) := fun _ _ e => getO_app e
theorem Stay.st1 {n : Nat} {h h' : AH} (s : Stay h h') : St1 n h h' := ⟨fun m o _ e => s m o e⟩
theorem Stay.st {h h1 h2 : AH} {l : Nat} (s : Stay h h1) (t : St1 l h1 h2) (hl : h.length ≤ l) : Stay h h2 := fun m o e => by
  have : m < h.length := (List.getElem?_eq_some_iff.mp e).1
  exact t.keep m o (by omega) (s m o e)
theorem St1.lst {h h' : AH} {l n : Nat} {xs : List D} (s : St1 l h h') (hn : n ≠ l) (e : lstAt h n = some xs) : lstAt h' n = some xs := by
  unfold lstAt at e ⊢
  split at e
  · rename_i z; rw [s.keep _ _ hn z]; exact e
  · rename_i z; rw [s.keep _ _ hn z]; exact e
  · cases e
theorem Stay.put {h h1 : AH} {n : Nat} {o : O} (s : Stay h h1) (hn : h.length ≤ n) : Stay h (h1.set n o) := fun m o' e => by
  have : m < h.length := (List.getElem?_eq_some_iff.mp e).1
  rw [List.getElem?_set_ne (by omega)]
  exact s m o' e
theorem Stay.dice {h h' : AH} {n : Nat} (s : Stay h h') (d : Dice h n) : Dice h' n := by
  obtain ⟨a, b, c, e⟩ := d
  exact ⟨a, b, c, s _ _ e⟩
theorem sIx_le' (n : Nat) (m : Int) : HT.sIx n n (some m) ≤ n := HT.sIx_le n n (Nat.le_refl _) _
end Cod

namespace Cod
open PySem L2

/-! ### what is to hold behind: rules that step through a mirror -/
noncomputable abbrev EX := Nat → List (Str × D) → AH → Prop
noncomputable abbrev SX := Nat → List (Str × D) → Sl → AH → Prop
noncomputable def wp {α : Type} (r : R α) (Q : α → AH → Prop) (E : EX) : Prop := match r with
  | .ok a h => Q a h
  | .ex c fs h => E c fs h
  | .no => False
noncomputable def ws (r : RT) (N : Sl → AH → Prop) (T : D → AH → Prop) (B C : Sl → AH → Prop) (X : SX) : Prop := match r with
  | .nx δ h => N δ h
  | .rt d h => T d h
  | .bk δ h => B δ h
  | .ct δ h => C δ h
  | .ex c fs δ h => X c fs δ h
  | .no => False
noncomputable abbrev noE : EX := fun _ _ _ => False
noncomputable abbrev noX : SX := fun _ _ _ _ => False
noncomputable abbrev noB : Sl → AH → Prop := fun _ _ => False
theorem lstAt_or {h : AH} {n : Nat} {xs : List D} (e : lstAt h n = some xs) : h[n]? = some (.lst xs) ∨ h[n]? = some (.frz xs) := by
  unfold lstAt at e
  split at e
  · rename_i e0; cases e; exact .inl e0
  · rename_i e0; cases e; exact .inr e0
  · cases e
section
variable {α β : Type} {Q Q' : α → AH → Prop} {E E' : EX} {N T' B C : Sl → AH → Prop} {T : D → AH → Prop} {X : SX}
theorem wp_mono {r : R α} (p : wp r Q E) (f : ∀ a h, Q a h → Q' a h) (g : ∀ c fs h, E c fs h → E' c fs h) : wp r Q' E' := by
  cases r with
  | ok a h => exact f _ _ p
  | ex c fs h => exact g _ _ _ p
  | no => exact p
theorem wp_imp {r : R α} (p : wp r Q E) (f : ∀ a h, Q a h → Q' a h) : wp r Q' E := wp_mono p f fun _ _ _ e => e
theorem wp_no {r : R α} (p : wp r Q noE) (f : ∀ a h, Q a h → Q' a h) : wp r Q' E := wp_mono p f fun _ _ _ e => e.elim
theorem wp_of {r : R α} {a : α} {h : AH} (e : r = .ok a h) (q : Q a h) : wp r Q E := by rw [e]; exact q
theorem wp_ok {a : α} {h : AH} (q : Q a h) : wp (.ok a h) Q E := q
theorem wp_get {r : R α} (p : wp r Q noE) : ∃ a h, r = .ok a h ∧ Q a h := by
  unfold wp at p
  split at p
  · exact ⟨_, _, rfl, p⟩
  · exact p.elim
  · exact p.elim
theorem wp_bind {r : R β} {f : β → AH → R α} (p : wp r (fun a h => wp (f a h) Q E) E) : wp (r.bind f) Q E := by
  unfold R.bind
  cases r <;> exact p
theorem ws_thn {r : R β} {δ : Sl} {f : β → AH → RT} (p : wp r (fun a h => ws (f a h) N T B C X) fun c fs h => X c fs δ h) : ws (r.thn δ f) N T B C X := by
  unfold R.thn
  cases r <;> exact p
theorem ws_seq {m n : SD} {δ : Sl} {h : AH} (p : ws (m δ h) (fun δ h => ws (n δ h) N T B C X) T B C X) : ws (sSeq m n δ h) N T B C X := by
  unfold sSeq RT.thn
  cases e : m δ h <;> rw [e] at p <;> exact p
theorem ws_nx {δ : Sl} {h : AH} (p : N δ h) : ws (sNext δ h) N T B C X := p
theorem ws_bk {δ : Sl} {h : AH} (p : B δ h) : ws (sBreak δ h) N T B C X := p
theorem ws_ct {δ : Sl} {h : AH} (p : C δ h) : ws (sCont δ h) N T B C X := p
theorem ws_retN {δ : Sl} {h : AH} (p : T .non h) : ws (sRetN δ h) N T B C X := p
theorem ws_expr {m : ED} {δ : Sl} {h : AH} (p : wp (m δ h) (fun _ h => N δ h) fun c fs h => X c fs δ h) : ws (sExpr m δ h) N T B C X := ws_thn p
theorem ws_ret {m : ED} {δ : Sl} {h : AH} (p : wp (m δ h) T fun c fs h => X c fs δ h) : ws (sRet m δ h) N T B C X := ws_thn p
theorem ws_if {c : BD} {m n : SD} {δ : Sl} {h : AH} (p : wp (c δ h) (fun b h => (b = true → ws (m δ h) N T B C X) ∧ (b = false → ws (n δ h) N T B C X)) fun c fs h => X c fs δ h) : ws (sIf c m n δ h) N T B C X :=
  ws_thn (wp_imp p fun b h q => by cases b; exact q.2 rfl; exact q.1 rfl)
theorem ws_asg {m : ED} {tg : Tg} {δ : Sl} {h : AH} (p : wp (m δ h) (fun d h => ∃ δ', asgT tg d δ = some δ' ∧ N δ' h) fun c fs h => X c fs δ h) : ws (sAsg m tg δ h) N T B C X :=
  ws_thn (wp_imp p fun d h ⟨δ', e, q⟩ => by rw [e]; exact q)
theorem ws_asgN {m : ED} {i : Nat} {δ : Sl} {h : AH} (p : wp (m δ h) (fun d h => N (δ.set i (some d)) h) fun c fs h => X c fs δ h) : ws (sAsg m (.nm i) δ h) N T B C X :=
  ws_asg (wp_imp p fun d h q => ⟨_, rfl, q⟩)
theorem ws_par {ts : List Tg} {a : AD} {δ : Sl} {h : AH} (p : wp (a δ h) (fun ds h => ∃ δ', asgTs ts ds δ = some δ' ∧ N δ' h) fun c fs h => X c fs δ h) : ws (sPar ts a δ h) N T B C X :=
  ws_thn (wp_imp p fun d h ⟨δ', e, q⟩ => by rw [e]; exact q)
theorem ws_aug {i : Nat} {g : D → D → AH → R D} {m : ED} {δ : Sl} {h : AH} {x : D} (e : δ[i]? = some (some x)) (p : wp (m δ h) (fun y h => wp (g x y h) (fun z h => N (δ.set i (some z)) h) fun c fs h => X c fs δ h) fun c fs h => X c fs δ h) : ws (sAug i g m δ h) N T B C X := by
  unfold sAug
  rw [e]
  exact ws_thn (wp_imp p fun y h q => ws_thn q)
theorem ws_sub {set : D → D → D → AH → Option AH} {mo mi mv : ED} {δ : Sl} {h : AH} (p : wp (mv δ h) (fun v h => wp (mo δ h) (fun o h => wp (mi δ h) (fun i h => ∃ h', set o i v h = some h' ∧ N δ h') fun c fs h => X c fs δ h) fun c fs h => X c fs δ h) fun c fs h => X c fs δ h) : ws (sSub set mo mi mv δ h) N T B C X :=
  ws_thn (wp_imp p fun v h q => ws_thn (wp_imp q fun o h q => ws_thn (wp_imp q fun i h ⟨h', e, q⟩ => by rw [e]; exact q)))
/-- expressions -/
theorem wp_C {Q : D → AH → Prop} {d : D} {δ : Sl} {h : AH} (q : Q d h) : wp (eC d δ h) Q E := q
theorem wp_var {Q : D → AH → Prop} {i : Nat} {d : D} {δ : Sl} {h : AH} (e : δ[i]? = some (some d)) (q : Q d h) : wp (eVar i δ h) Q E := by
  unfold eVar
  rw [e]
  exact q
theorem wp_2 {Q : D → AH → Prop} {g : D → D → AH → R D} {a b : ED} {δ : Sl} {h : AH} (p : wp (a δ h) (fun x h => wp (b δ h) (fun y h => wp (g x y h) Q E) E) E) : wp (e2 g a b δ h) Q E :=
  wp_bind (wp_imp p fun x h q => wp_bind q)
theorem wp_1 {Q : D → AH → Prop} {g : D → AH → R D} {a : ED} {δ : Sl} {h : AH} (p : wp (a δ h) (fun x h => wp (g x h) Q E) E) : wp (e1 g a δ h) Q E := wp_bind p
theorem wp_A {Q : D → AH → Prop} {g : List D → AH → R D} {a : AD} {δ : Sl} {h : AH} (p : wp (a δ h) (fun x h => wp (g x h) Q E) E) : wp (eA g a δ h) Q E := wp_bind p
theorem wp_nil {Q : List D → AH → Prop} {δ : Sl} {h : AH} (q : Q [] h) : wp (aNil δ h) Q E := q
theorem wp_cons {Q : List D → AH → Prop} {a : ED} {r : AD} {δ : Sl} {h : AH} (p : wp (a δ h) (fun x h => wp (r δ h) (fun xs h => Q (x :: xs) h) E) E) : wp (aCons a r δ h) Q E :=
  wp_bind (wp_imp p fun x h q => wp_bind q)
theorem wp_call {Q : D → AH → Prop} {n : Nat} {F : List D → AH → R D} {ds : List D} {h : AH} (e : ds.length = n) (p : wp (F ds h) Q E) : wp (callD n F ds h) Q E := by
  unfold callD
  simp only [if_pos e]
  exact p
theorem wp_lst {Q : D → AH → Prop} {xs : List D} {h : AH} (e : xs.length ≤ lim) (q : Q (.loc h.length) (h ++ [.lst xs])) : wp (mkLst xs h) Q E := by
  unfold mkLst
  simp only [if_pos e]
  exact q
theorem wp_tup {Q : D → AH → Prop} {xs : List D} {h : AH} (e : xs.length ≤ lim) (q : Q (.tup xs) h) : wp (mkTup xs h) Q E := by
  unfold mkTup
  simp only [if_pos e]
  exact q
theorem wp_bNot {Q : Bool → AH → Prop} {m : BD} {δ : Sl} {h : AH} (p : wp (m δ h) (fun b h => Q (!b) h) E) : wp (bNot m δ h) Q E := wp_bind p
theorem wp_bAnd {Q : Bool → AH → Prop} {m n : BD} {δ : Sl} {h : AH} (p : wp (m δ h) (fun b h => (b = true → wp (n δ h) Q E) ∧ (b = false → Q false h)) E) : wp (bAnd m n δ h) Q E :=
  wp_bind (wp_imp p fun b h q => by cases b; exact q.2 rfl; exact q.1 rfl)
theorem wp_bOr {Q : Bool → AH → Prop} {m n : BD} {δ : Sl} {h : AH} (p : wp (m δ h) (fun b h => (b = true → Q true h) ∧ (b = false → wp (n δ h) Q E)) E) : wp (bOr m n δ h) Q E :=
  wp_bind (wp_imp p fun b h q => by cases b; exact q.2 rfl; exact q.1 rfl)
theorem wp_bTru {Q : Bool → AH → Prop} {m : ED} {δ : Sl} {h : AH} (p : wp (m δ h) (fun d h => wp (truD d h) Q E) E) : wp (bTru m δ h) Q E := wp_bind p
theorem wp_bOf {Q : Bool → AH → Prop} {m : ED} {δ : Sl} {h : AH} (p : wp (m δ h) (fun d h => wp (asB d h) Q E) E) : wp (bOf m δ h) Q E := wp_bind p
theorem wp_asB {Q : Bool → AH → Prop} {b : Bool} {h : AH} (q : Q b h) : wp (asB (.bl b) h) Q E := q
theorem wp_truB {Q : Bool → AH → Prop} {b : Bool} {h : AH} (q : Q b h) : wp (truD (.bl b) h) Q E := q
theorem wp_truI {Q : Bool → AH → Prop} {i : Int} {h : AH} (q : Q (i != 0) h) : wp (truD (.int i) h) Q E := q
theorem wp_truN {Q : Bool → AH → Prop} {h : AH} (q : Q false h) : wp (truD .non h) Q E := q
theorem wp_truT {Q : Bool → AH → Prop} {xs : List D} {h : AH} (q : Q (!xs.isEmpty) h) : wp (truD (.tup xs) h) Q E := q
theorem wp_truL {Q : Bool → AH → Prop} {n : Nat} {xs : List D} {h : AH} (e : lstAt h n = some xs) (q : Q (!xs.isEmpty) h) : wp (truD (.loc n) h) Q E := by
  rcases lstAt_or e with e0 | e0 <;> (unfold truD; simp only [e0]; exact q)
theorem wp_If {Q : D → AH → Prop} {c : BD} {a b : ED} {δ : Sl} {h : AH} (p : wp (c δ h) (fun k h => (k = true → wp (a δ h) Q E) ∧ (k = false → wp (b δ h) Q E)) E) : wp (eIf c a b δ h) Q E :=
  wp_bind (wp_imp p fun b h q => by cases b; exact q.2 rfl; exact q.1 rfl)
theorem wp_And {Q : D → AH → Prop} {a b : ED} {δ : Sl} {h : AH} (p : wp (a δ h) (fun d h => ∃ k, d = .bl k ∧ (k = true → wp (b δ h) Q E) ∧ (k = false → Q (.bl false) h)) E) : wp (eAnd a b δ h) Q E :=
  wp_bind (wp_imp p fun d h ⟨k, e, q⟩ => by subst e; cases k; exact q.2 rfl; exact q.1 rfl)
theorem wp_Or {Q : D → AH → Prop} {a b : ED} {δ : Sl} {h : AH} (p : wp (a δ h) (fun d h => ∃ k, d = .bl k ∧ (k = true → Q (.bl true) h) ∧ (k = false → wp (b δ h) Q E)) E) : wp (eOr a b δ h) Q E :=
  wp_bind (wp_imp p fun d h ⟨k, e, q⟩ => by subst e; cases k; exact q.2 rfl; exact q.1 rfl)
theorem wp_not {Q : D → AH → Prop} {b : Bool} {h : AH} (q : Q (.bl !b) h) : wp (notD (.bl b) h) Q E := q
theorem wp_Ch {Q : D → AH → Prop} {g g' : D → D → AH → R D} {a b c : ED} {δ : Sl} {h : AH} (p : wp (a δ h) (fun x h => wp (b δ h) (fun y h => wp (g x y h) (fun d h => ∃ k, d = .bl k ∧ (k = true → wp (c δ h) (fun w h => wp (g' y w h) Q E) E) ∧ (k = false → Q (.bl false) h)) E) E) E) : wp (eCh g g' a b c δ h) Q E :=
  wp_bind (wp_imp p fun x h q => wp_bind (wp_imp q fun y h q => wp_bind (wp_imp q fun d h ⟨k, e, q⟩ => by subst e; cases k; exact q.2 rfl; exact wp_bind (q.1 rfl))))
theorem ex_bl {P : Bool → Prop} {b : Bool} (p : P b) : ∃ k, D.bl b = .bl k ∧ P k := ⟨b, rfl, p⟩
theorem wp_eq {Q : D → AH → Prop} {d e : D} {h : AH} {b : Bool} (x : eqB h d e = some b) (q : Q (.bl b) h) : wp (eqD d e h) Q E := by
  unfold eqD
  rw [x]
  exact q
theorem wp_ne {Q : D → AH → Prop} {d e : D} {h : AH} {b : Bool} (x : eqB h d e = some b) (q : Q (.bl !b) h) : wp (neD d e h) Q E := by
  unfold neD
  rw [x]
  exact q
theorem wp_addI {Q : D → AH → Prop} {i j : Int} {h : AH} (q : Q (.int (i + j)) h) : wp (addD (.int i) (.int j) h) Q E := q
theorem wp_addS {Q : D → AH → Prop} {x y : Str} {h : AH} (e : x.length + y.length ≤ lim) (q : Q (.str (x ++ y)) h) : wp (addD (.str x) (.str y) h) Q E := by
  unfold addD
  simp only [if_pos e]
  exact q
theorem wp_addT {Q : D → AH → Prop} {x y : List D} {h : AH} (e : x.length + y.length ≤ lim) (q : Q (.tup (x ++ y)) h) : wp (addD (.tup x) (.tup y) h) Q E := by
  unfold addD
  simp only [if_pos e]
  exact q
theorem wp_addL {Q : D → AH → Prop} {m n : Nat} {xs ys : List D} {h : AH} (e1 : h[m]? = some (.lst xs)) (e2 : h[n]? = some (.lst ys)) (e : xs.length + ys.length ≤ lim) (q : Q (.loc h.length) (h ++ [.lst (xs ++ ys)])) : wp (addD (.loc m) (.loc n) h) Q E := by
  unfold addD
  simp only [e1, e2]
  exact wp_lst (by rw [List.length_append]; exact e) q
theorem wp_subI {Q : D → AH → Prop} {i j : Int} {h : AH} (q : Q (.int (i - j)) h) : wp (subD (.int i) (.int j) h) Q E := q
theorem wp_mulI {Q : D → AH → Prop} {i j : Int} {h : AH} (e : small i = true ∨ small j = true) (q : Q (.int (i * j)) h) : wp (mulD (.int i) (.int j) h) Q E := by
  unfold mulD
  simp only [if_pos (show (small i || small j) = true by simpa using e)]
  exact q
theorem wp_fdivI {Q : D → AH → Prop} {i j : Int} {h : AH} (e0 : 0 < j) (e : small j = true) (q : Q (.int (i / j)) h) : wp (fdivD (.int i) (.int j) h) Q E := by
  unfold fdivD
  simp only [if_pos (show (decide (0 < j) && small j) = true by simp [e0, e])]
  exact q
theorem wp_modI {Q : D → AH → Prop} {i j : Int} {h : AH} (e0 : 0 < j) (q : Q (.int (i % j)) h) : wp (modD (.int i) (.int j) h) Q E := by
  unfold modD
  simp only [if_pos e0]
  exact q
theorem wp_powI {Q : D → AH → Prop} {i j : Int} {h : AH} (e : (decide (0 ≤ j) && decide (j ≤ 1000) && small i) = true) (q : Q (.int (i ^ j.toNat)) h) : wp (powD (.int i) (.int j) h) Q E := by
  unfold powD
  simp only [if_pos e]
  exact q
theorem wp_negI {Q : D → AH → Prop} {i : Int} {h : AH} (q : Q (.int (-i)) h) : wp (negD (.int i) h) Q E := q
theorem wp_cmp {Q : D → AH → Prop} {p : Int → Int → Bool} {i j : Int} {h : AH} (q : Q (.bl (p i j)) h) : wp (cmpI p (.int i) (.int j) h) Q E := q
theorem wp_isN {Q : D → AH → Prop} {n : Bool} {d : D} {h : AH} (q : Q (.bl (xor n (isNon d))) h) : wp (isD n d .non h) Q E := q
theorem wp_isB {Q : D → AH → Prop} {n a b : Bool} {h : AH} (q : Q (.bl (xor n (decide (a = b)))) h) : wp (isD n (.bl a) (.bl b) h) Q E := q
theorem wp_inT {Q : D → AH → Prop} {n : Bool} {d : D} {xs : List D} {h : AH} (e : flatD d = true ∧ xs.all flatD = true) (q : Q (.bl (xor n (memF d xs))) h) : wp (inD n d (.tup xs) h) Q E := by
  unfold inD
  simp only [if_pos e]
  exact q
theorem wp_inL {Q : D → AH → Prop} {n : Bool} {d : D} {m : Nat} {xs : List D} {h : AH} (e0 : lstAt h m = some xs) (e : flatD d = true ∧ xs.all flatD = true) (q : Q (.bl (xor n (memF d xs))) h) : wp (inD n d (.loc m) h) Q E := by
  rcases lstAt_or e0 with e1 | e1 <;> (unfold inD; simp only [e1, if_pos e]; exact q)
theorem wp_intI {Q : D → AH → Prop} {i : Int} {h : AH} (q : Q (.int i) h) : wp (intD [.int i] h) Q E := q
theorem wp_intB {Q : D → AH → Prop} {b : Bool} {h : AH} (q : Q (.int (if b = true then 1 else 0)) h) : wp (intD [.bl b] h) Q E := by
  cases b <;> exact q
theorem wp_abs {Q : D → AH → Prop} {i : Int} {h : AH} (q : Q (.int (if i < 0 then -i else i)) h) : wp (absD [.int i] h) Q E := q
theorem wp_max {Q : D → AH → Prop} {i j : Int} {h : AH} (q : Q (.int (if j > i then j else i)) h) : wp (maxD [.int i, .int j] h) Q E := q
theorem wp_min {Q : D → AH → Prop} {i j : Int} {h : AH} (q : Q (.int (if j < i then j else i)) h) : wp (minD [.int i, .int j] h) Q E := q
theorem wp_isi {Q : D → AH → Prop} {d : D} {t c : String} {b : Bool} {h : AH} (e : tyN h d = some t) (e1 : isiB t c = some b) (q : Q (.bl b) h) : wp (isiD [d, .ty c] h) Q E := by
  unfold isiD
  simp only [e, e1, Option.map_some, okO]
  exact q
theorem seqD_l {h : AH} {n : Nat} {xs : List D} (e : lstAt h n = some xs) : seqD h (.loc n) = some xs := by
  rcases lstAt_or e with e1 | e1 <;> (unfold seqD; simp only [e1])
theorem wp_lenS {Q : D → AH → Prop} {x : Str} {h : AH} (e : x.length ≤ lim) (q : Q (.int x.length) h) : wp (lenD [.str x] h) Q E := by
  unfold lenD
  simp only [if_pos e]
  exact q
theorem wp_lenT {Q : D → AH → Prop} {xs : List D} {h : AH} (q : Q (.int xs.length) h) : wp (lenD [.tup xs] h) Q E := q
theorem wp_lenL {Q : D → AH → Prop} {n : Nat} {xs : List D} {h : AH} (e : lstAt h n = some xs) (q : Q (.int xs.length) h) : wp (lenD [.loc n] h) Q E := by
  unfold lenD
  simp only [seqD_l e]
  exact q
theorem wp_listT {Q : D → AH → Prop} {xs : List D} {h : AH} (q : Q (.loc h.length) (h ++ [.lst xs])) : wp (listD [.tup xs] h) Q E := q
theorem wp_listL {Q : D → AH → Prop} {n : Nat} {xs : List D} {h : AH} (e : lstAt h n = some xs) (q : Q (.loc h.length) (h ++ [.lst xs])) : wp (listD [.loc n] h) Q E := by
  unfold listD
  simp only [seqD_l e]
  exact q
theorem wp_tupT {Q : D → AH → Prop} {xs : List D} {h : AH} (q : Q (.tup xs) h) : wp (tupleD [.tup xs] h) Q E := q
theorem wp_tupL {Q : D → AH → Prop} {n : Nat} {xs : List D} {h : AH} (e : lstAt h n = some xs) (q : Q (.tup xs) h) : wp (tupleD [.loc n] h) Q E := by
  unfold tupleD
  simp only [seqD_l e]
  exact q
theorem wp_ixT {Q : D → AH → Prop} {xs : List D} {i : Int} {d : D} {h : AH} (e : atI xs i = some d) (q : Q d h) : wp (ixD (.tup xs) (.int i) h) Q E := by
  unfold ixD
  simp only [e, okO]
  exact q
theorem wp_ixL {Q : D → AH → Prop} {n : Nat} {xs : List D} {i : Int} {d : D} {h : AH} (e0 : lstAt h n = some xs) (e : atI xs i = some d) (q : Q d h) : wp (ixD (.loc n) (.int i) h) Q E := by
  rcases lstAt_or e0 with e1 | e1 <;> (unfold ixD; simp only [e1, e, okO]; exact q)
theorem wp_ixS {Q : D → AH → Prop} {z : Str} {i : Int} {c : Char} {h : AH} (e0 : z.length ≤ lim) (q : ∀ r, (atI z.cps.toList i).map (fun c => D.str ⟨#[c]⟩) = some r → Q r h) (hs : ((atI z.cps.toList i).map fun c => D.str ⟨#[c]⟩).isSome = true) : wp (ixD (.str z) (.int i) h) Q E := by
  unfold ixD
  simp only [if_pos e0]
  unfold okO
  split
  · rename_i e; exact q _ e
  · rename_i e; rw [e] at hs; cases hs
theorem wp_Sl {Q : D → AH → Prop} {m : ED} {lo hi : OD} {δ : Sl} {h : AH} (p : wp (m δ h) (fun d h => wp (lo δ h) (fun l h => wp (hi δ h) (fun u h => wp (slD d l u h) Q E) E) E) E) : wp (eSl m lo hi δ h) Q E :=
  wp_bind (wp_imp p fun x h q => wp_bind (wp_imp q fun y h q => wp_bind q))
theorem wp_oN {Q : Option Int → AH → Prop} {δ : Sl} {h : AH} (q : Q none h) : wp (oNone δ h) Q E := q
theorem wp_oS {Q : Option Int → AH → Prop} {m : ED} {δ : Sl} {h : AH} (p : wp (m δ h) (fun d h => ∃ i, d = .int i ∧ Q (some i) h) E) : wp (oSome m δ h) Q E :=
  wp_bind (wp_imp p fun d h ⟨i, e, q⟩ => by subst e; exact q)
theorem ex_int {P : Int → Prop} {b : Int} (p : P b) : ∃ k, D.int b = .int k ∧ P k := ⟨b, rfl, p⟩
theorem wp_slT {Q : D → AH → Prop} {xs : List D} {lo hi : Option Int} {h : AH} (q : Q (.tup (cutD xs lo hi)) h) : wp (slD (.tup xs) lo hi h) Q E := q
theorem wp_slL {Q : D → AH → Prop} {n : Nat} {xs : List D} {lo hi : Option Int} {h : AH} (e0 : lstAt h n = some xs) (q : Q (.loc h.length) (h ++ [.lst (cutD xs lo hi)])) : wp (slD (.loc n) lo hi h) Q E := by
  rcases lstAt_or e0 with e1 | e1 <;> (unfold slD; simp only [e1]; exact q)
theorem wp_slS {Q : D → AH → Prop} {z : Str} {lo hi : Option Int} {h : AH} (e : z.length ≤ lim) (q : Q (.str (cutS z lo hi)) h) : wp (slD (.str z) lo hi h) Q E := by
  unfold slD
  simp only [if_pos e]
  exact q
theorem wp_Mt {Q : D → AH → Prop} {t : String} {g : D → List D → AH → R D} {o : ED} {a : AD} {δ : Sl} {h : AH} (p : wp (o δ h) (fun d h => isTy t h d = true ∧ wp (a δ h) (fun ds h => wp (g d ds h) Q E) E) E) : wp (eMt t g o a δ h) Q E :=
  wp_bind (wp_imp p fun d h ⟨e, q⟩ => by rw [if_pos e]; exact wp_bind q)
theorem wp_app {Q : D → AH → Prop} {n : Nat} {xs : List D} {y : D} {h : AH} (e0 : h[n]? = some (.lst xs)) (e : xs.length < lim) (q : Q .non (h.set n (.lst (xs ++ [y])))) : wp (appD (.loc n) [y] h) Q E := by
  unfold appD
  simp only [e0, if_pos e]
  exact q
theorem setL_ok {n : Nat} {k : Int} {j : Nat} {xs : List D} {v : D} {h : AH} (e : h[n]? = some (.lst xs)) (hj : ixN xs.length k = some j) : setL (.loc n) (.int k) v h = some (h.set n (.lst (xs.set j v))) := by
  unfold setL
  simp only [e, hj]
/-- a function's run -/
theorem wp_fn {Q : D → AH → Prop} {n : Nat} {m : SD} {ds : List D} {h : AH} (p : ws (m (startD n ds) h) (fun _ h => Q .non h) Q noB noB fun c fs _ h => E c fs h) : wp (fnD n m ds h) Q E := by
  unfold fnD
  cases e : m (startD n ds) h <;> rw [e] at p <;> exact p
theorem wp_fn2 {Q : D → AH → Prop} {n : Nat} {m : SD} {ds : List D} {δ : Sl} {h : AH} (ed : startD n ds = δ) (p : ws (m δ h) (fun _ h => Q .non h) Q noB noB fun c fs _ h => E c fs h) : wp (fnD n m ds h) Q E := by
  subst ed
  exact wp_fn p
/-! loops -/
theorem ws_for {mi : ID} {tg : Tg} {body : SD} {δ : Sl} {h : AH} (p : wp (mi δ h) (fun it h => ws (forG body tg it (cntI it h) 0 δ h) N T B C X) fun c fs h => X c fs δ h) : ws (sFor mi tg body δ h) N T B C X := ws_thn p
theorem wp_iSeq {Q : Itg → AH → Prop} {m : ED} {δ : Sl} {h : AH} (p : wp (m δ h) (fun d h => wp (iSeqD d h) Q E) E) : wp (iSeq m δ h) Q E := wp_bind p
theorem wp_iT {Q : Itg → AH → Prop} {xs : List D} {h : AH} (q : Q (.items xs) h) : wp (iSeqD (.tup xs) h) Q E := q
theorem wp_iL {Q : Itg → AH → Prop} {n : Nat} {xs : List D} {h : AH} (e : lstAt h n = some xs) (q : Q (.lst n) h) : wp (iSeqD (.loc n) h) Q E := by
  unfold iSeqD
  simp only [e]
  exact q
theorem wp_iS {Q : Itg → AH → Prop} {x : Str} {h : AH} (q : Q (.items (x.cps.toList.map fun c => .str ⟨#[c]⟩)) h) : wp (iSeqD (.str x) h) Q E := q
theorem wp_iArg {Q : Itg → AH → Prop} {g : List D → AH → R Itg} {m : AD} {δ : Sl} {h : AH} (p : wp (m δ h) (fun ds h => wp (g ds h) Q E) E) : wp (iArg g m δ h) Q E := wp_bind p
theorem wp_iR1 {Q : Itg → AH → Prop} {j : Int} {h : AH} (e : big j = true) (q : Q (rng 0 j) h) : wp (iRng1D [.int j] h) Q E := by
  unfold iRng1D
  simp only [if_pos e]
  exact q
theorem wp_iR2 {Q : Itg → AH → Prop} {i j : Int} {h : AH} (e0 : big i = true) (e : big j = true) (q : Q (rng i j) h) : wp (iRng2D [.int i, .int j] h) Q E := by
  unfold iRng2D
  simp only [if_pos (And.intro e0 e)]
  exact q
theorem ws_forG {body : SD} {tg : Tg} {it : Itg} {xs : List D} (P : Nat → Sl → AH → Prop) (hn : ∀ i δ h, i ≤ xs.length → P i δ h → nxtI it i h = some xs[i]?)
    (hs : ∀ i x δ h, xs[i]? = some x → P i δ h → ∃ δ1, asgT tg x δ = some δ1 ∧ ws (body δ1 h) (P (i + 1)) T N (P (i + 1)) X) (he : ∀ δ h, P xs.length δ h → N δ h) :
    ∀ f i δ h, i ≤ xs.length → xs.length ≤ i + f → P i δ h → ws (forG body tg it f i δ h) N T B C X
  | 0, i, δ, h, h1, h2, p => by
    have e : i = xs.length := by omega
    subst e
    unfold forG
    rw [hn _ δ h (Nat.le_refl _) p, List.getElem?_eq_none (Nat.le_refl _)]
    exact he _ _ p
  | f + 1, i, δ, h, h1, h2, p => by
    unfold forG
    rw [hn i δ h h1 p]
    cases e : xs[i]? with
    | none =>
      have hi : xs.length ≤ i := List.getElem?_eq_none_iff.mp e
      have e' : i = xs.length := by omega
      subst e'
      exact he _ _ p
    | some x =>
      have hi : i < xs.length := (List.getElem?_eq_some_iff.mp e).1
      obtain ⟨δ1, ha, hb⟩ := hs i x δ h e p
      simp only [ha]
      cases eb : body δ1 h with
      | nx δ2 h2 => rw [eb] at hb; exact ws_forG P hn hs he f (i + 1) δ2 h2 (by omega) (by omega) hb
      | ct δ2 h2 => rw [eb] at hb; exact ws_forG P hn hs he f (i + 1) δ2 h2 (by omega) (by omega) hb
      | bk δ2 h2 => rw [eb] at hb; exact hb
      | rt d h2 => rw [eb] at hb; exact hb
      | ex c fs δ2 h2 => rw [eb] at hb; exact hb
      | no => rw [eb] at hb; exact hb
theorem ws_items {body : SD} {tg : Tg} {xs : List D} {δ : Sl} {h : AH} (P : Nat → Sl → AH → Prop) (p : P 0 δ h)
    (hs : ∀ i x δ h, xs[i]? = some x → P i δ h → ∃ δ1, asgT tg x δ = some δ1 ∧ ws (body δ1 h) (P (i + 1)) T N (P (i + 1)) X) (he : ∀ δ h, P xs.length δ h → N δ h) :
    ws (forG body tg (.items xs) (cntI (.items xs) h) 0 δ h) N T B C X := ws_forG P (fun i δ h _ p => rfl) hs he _ 0 δ h (Nat.zero_le _) (by simp only [cntI]; omega) p
theorem ws_list {body : SD} {tg : Tg} {n : Nat} {xs : List D} {δ : Sl} {h : AH} (P : Nat → Sl → AH → Prop) (hl : ∀ i δ h, P i δ h → lstAt h n = some xs) (p : P 0 δ h)
    (hs : ∀ i x δ h, xs[i]? = some x → P i δ h → ∃ δ1, asgT tg x δ = some δ1 ∧ ws (body δ1 h) (P (i + 1)) T N (P (i + 1)) X) (he : ∀ δ h, P xs.length δ h → N δ h) :
    ws (forG body tg (.lst n) (cntI (.lst n) h) 0 δ h) N T B C X := ws_forG P (fun i δ h _ p => nxt_lst (hl i δ h p)) hs he _ 0 δ h (Nat.zero_le _) (by rw [cnt_lst (hl _ _ _ p)]; omega) p
theorem ws_enumS {body : SD} {tg : Tg} {sg : Sg} {xs : List D} {δ : Sl} {h : AH} (P : Nat → Sl → AH → Prop) (hl : ∀ i δ h, P i δ h → sgAt h sg = some xs) (p : P 0 δ h)
    (hs : ∀ i x δ h, xs[i]? = some x → P i δ h → ∃ δ1, asgT tg (.tup [.int (i : Nat), x]) δ = some δ1 ∧ ws (body δ1 h) (P (i + 1)) T N (P (i + 1)) X) (he : ∀ δ h, P xs.length δ h → N δ h) :
    ws (forG body tg (.enum sg) (cntI (.enum sg) h) 0 δ h) N T B C X := by
  have hx : ∀ i, (xs.mapIdx fun i x => D.tup [.int (i : Nat), x])[i]? = xs[i]?.map fun x => D.tup [.int (i : Nat), x] := fun i => by rw [List.getElem?_mapIdx]
  refine ws_forG (xs := xs.mapIdx fun i x => D.tup [.int (i : Nat), x]) P (fun i δ h hi p => ?_) (fun i x δ h e p => ?_) (by rw [List.length_mapIdx]; exact he) _ 0 δ h (Nat.zero_le _) ?_ p
  · rw [List.length_mapIdx] at hi
    simp only [nxtI, hl i δ h p, hx, if_pos hi]
  · rw [hx, Option.map_eq_some_iff] at e
    obtain ⟨y, ey, rfl⟩ := e
    exact hs i y δ h ey p
  · simp only [cntI, hl _ _ _ p, List.length_mapIdx, Option.getD_some]; omega
theorem ws_enum {body : SD} {tg : Tg} {n : Nat} {xs : List D} {δ : Sl} {h : AH} (P : Nat → Sl → AH → Prop) (hl : ∀ i δ h, P i δ h → lstAt h n = some xs) (p : P 0 δ h)
    (hs : ∀ i x δ h, xs[i]? = some x → P i δ h → ∃ δ1, asgT tg (.tup [.int (i : Nat), x]) δ = some δ1 ∧ ws (body δ1 h) (P (i + 1)) T N (P (i + 1)) X) (he : ∀ δ h, P xs.length δ h → N δ h) :
    ws (forG body tg (.enum (.lst n)) (cntI (.enum (.lst n)) h) 0 δ h) N T B C X := ws_enumS (sg := .lst n) P hl p hs he
theorem ws_enumT {body : SD} {tg : Tg} {xs : List D} {δ : Sl} {h : AH} (P : Nat → Sl → AH → Prop) (p : P 0 δ h)
    (hs : ∀ i x δ h, xs[i]? = some x → P i δ h → ∃ δ1, asgT tg (.tup [.int (i : Nat), x]) δ = some δ1 ∧ ws (body δ1 h) (P (i + 1)) T N (P (i + 1)) X) (he : ∀ δ h, P xs.length δ h → N δ h) :
    ws (forG body tg (.enum (.items xs)) (cntI (.enum (.items xs)) h) 0 δ h) N T B C X := ws_enumS (sg := .items xs) P (fun _ _ _ _ => rfl) p hs he
theorem ws_wh {c : BD} {body : SD} (P : Nat → Sl → AH → Prop)
    (hs : ∀ k δ h, P k δ h → wp (c δ h) (fun b h => (b = true → ∃ k', k = k' + 1 ∧ ws (body δ h) (P k') T N (P k') X) ∧ (b = false → N δ h)) fun c fs h => X c fs δ h) :
    ∀ f k δ h, k < f → P k δ h → ws (whG c body f δ h) N T B C X
  | 0, k, δ, h, hf, p => absurd hf (Nat.not_lt_zero _)
  | f + 1, k, δ, h, hf, p => by
    unfold whG
    refine ws_thn (wp_imp (hs k δ h p) fun b h q => ?_)
    cases b with
    | false => exact q.2 rfl
    | true =>
      obtain ⟨k', e, q⟩ := q.1 rfl
      simp only [if_true]
      cases eb : body δ h with
      | nx δ2 h2 => rw [eb] at q; exact ws_wh P hs f k' δ2 h2 (by omega) q
      | ct δ2 h2 => rw [eb] at q; exact ws_wh P hs f k' δ2 h2 (by omega) q
      | bk δ2 h2 => rw [eb] at q; exact q
      | rt d h2 => rw [eb] at q; exact q
      | ex c fs δ2 h2 => rw [eb] at q; exact q
      | no => rw [eb] at q; exact q
theorem wp_Lc {Q : D → AH → Prop} {mi : ID} {tg : Tg} {test : BD} {elt : ED} {vs : List Nat} {δ : Sl} {h : AH} (p : wp (mi δ h) (fun it h => wp (lcG elt test tg it h.length (dwipe δ vs) (cntI it h) 0 (h ++ [.lst []])) Q E) E) : wp (eLc mi tg test elt vs δ h) Q E := wp_bind p
theorem wp_lcG {Q : D → AH → Prop} {elt : ED} {test : BD} {tg : Tg} {it : Itg} {M : Nat} {δ : Sl} {xs : List D} (P : Nat → List D → AH → Prop) (hn : ∀ i acc h, i ≤ xs.length → P i acc h → nxtI it i h = some xs[i]?) (hz : xs.length ≤ lim)
    (hs : ∀ i x acc h, xs[i]? = some x → P i acc h → h[M]? = some (.lst acc) → acc.length ≤ i → ∃ δ1, asgT tg x δ = some δ1 ∧ wp (test δ1 h) (fun b h => (b = true → wp (elt δ1 h) (fun y h => h[M]? = some (.lst acc) ∧ P (i + 1) (acc ++ [y]) (h.set M (.lst (acc ++ [y])))) noE) ∧ (b = false → h[M]? = some (.lst acc) ∧ P (i + 1) acc h)) noE)
    (he : ∀ acc h, P xs.length acc h → h[M]? = some (.lst acc) → acc.length ≤ xs.length → Q (.loc M) h) :
    ∀ f i acc h, i ≤ xs.length → xs.length ≤ i + f → P i acc h → h[M]? = some (.lst acc) → acc.length ≤ i → wp (lcG elt test tg it M δ f i h) Q E
  | 0, i, acc, h, h1, h2, p, hM, ha => by
    have e : i = xs.length := by omega
    subst e
    unfold lcG
    rw [hn _ acc h (Nat.le_refl _) p, List.getElem?_eq_none (Nat.le_refl _)]
    exact he _ _ p hM ha
  | f + 1, i, acc, h, h1, h2, p, hM, ha => by
    unfold lcG
    rw [hn i acc h h1 p]
    cases e : xs[i]? with
    | none =>
      have hi : xs.length ≤ i := List.getElem?_eq_none_iff.mp e
      have e' : i = xs.length := by omega
      subst e'
      exact he _ _ p hM ha
    | some x =>
      have hi : i < xs.length := (List.getElem?_eq_some_iff.mp e).1
      obtain ⟨δ1, ht, hb⟩ := hs i x acc h e p hM ha
      simp only [ht]
      obtain ⟨b, h1', et, hb⟩ := wp_get hb
      simp only [et]
      cases b with
      | false =>
        obtain ⟨hM', p'⟩ := hb.2 rfl
        exact wp_lcG P hn hz hs he f (i + 1) acc h1' (by omega) (by omega) p' hM' (by omega)
      | true =>
        obtain ⟨y, h2', ee, hM', p'⟩ := wp_get (hb.1 rfl)
        have hl : acc.length < lim := by omega
        simp only [ee, hM', if_pos hl]
        refine wp_lcG P hn hz hs he f (i + 1) _ _ (by omega) (by omega) p' (List.getElem?_set_self (List.getElem?_eq_some_iff.mp hM').1) (by simp; omega)
theorem wp_lcI {Q : D → AH → Prop} {elt : ED} {test : BD} {tg : Tg} {δ : Sl} {xs : List D} {h0 : AH} (P : Nat → List D → AH → Prop) (hz : xs.length ≤ lim) (p : P 0 [] (h0 ++ [.lst []]))
    (hs : ∀ i x acc h, xs[i]? = some x → P i acc h → h[h0.length]? = some (.lst acc) → acc.length ≤ i → ∃ δ1, asgT tg x δ = some δ1 ∧ wp (test δ1 h) (fun b h => (b = true → wp (elt δ1 h) (fun y h => h[h0.length]? = some (.lst acc) ∧ P (i + 1) (acc ++ [y]) (h.set h0.length (.lst (acc ++ [y])))) noE) ∧ (b = false → h[h0.length]? = some (.lst acc) ∧ P (i + 1) acc h)) noE)
    (he : ∀ acc h, P xs.length acc h → h[h0.length]? = some (.lst acc) → acc.length ≤ xs.length → Q (.loc h0.length) h) :
    wp (lcG elt test tg (.items xs) h0.length δ (cntI (.items xs) h0) 0 (h0 ++ [.lst []])) Q E :=
  wp_lcG P (fun i acc h _ p => rfl) hz hs he _ 0 [] _ (Nat.zero_le _) (by simp only [cntI]; omega) p (by simp) (Nat.zero_le _)
theorem wp_lcL {Q : D → AH → Prop} {elt : ED} {test : BD} {tg : Tg} {n : Nat} {δ : Sl} {xs : List D} {h0 : AH} (P : Nat → List D → AH → Prop) (h00 : lstAt h0 n = some xs) (hl : ∀ i acc h, P i acc h → lstAt h n = some xs) (hz : xs.length ≤ lim) (p : P 0 [] (h0 ++ [.lst []]))
    (hs : ∀ i x acc h, xs[i]? = some x → P i acc h → h[h0.length]? = some (.lst acc) → acc.length ≤ i → ∃ δ1, asgT tg x δ = some δ1 ∧ wp (test δ1 h) (fun b h => (b = true → wp (elt δ1 h) (fun y h => h[h0.length]? = some (.lst acc) ∧ P (i + 1) (acc ++ [y]) (h.set h0.length (.lst (acc ++ [y])))) noE) ∧ (b = false → h[h0.length]? = some (.lst acc) ∧ P (i + 1) acc h)) noE)
    (he : ∀ acc h, P xs.length acc h → h[h0.length]? = some (.lst acc) → acc.length ≤ xs.length → Q (.loc h0.length) h) :
    wp (lcG elt test tg (.lst n) h0.length δ (cntI (.lst n) h0) 0 (h0 ++ [.lst []])) Q E :=
  wp_lcG P (fun i acc h _ p => nxt_lst (hl i acc h p)) hz hs he _ 0 [] _ (Nat.zero_le _) (by rw [cnt_lst h00]; omega) p (by simp) (Nat.zero_le _)
theorem wp_tt {Q : Bool → AH → Prop} {h : AH} (q : Q true h) : wp (.ok true h) Q E := q
theorem wif_t {P P' : Prop} (p : P) : (true = true → P) ∧ (true = false → P') := ⟨fun _ => p, fun z => nomatch z⟩
theorem wif_f {P P' : Prop} (p : P') : (false = true → P) ∧ (false = false → P') := ⟨fun z => (nomatch z), fun _ => p⟩
theorem wif_tt {b : Bool} {P P' : Prop} (e : b = true) (p : P) : (b = true → P) ∧ (b = false → P') := by subst e; exact wif_t p
theorem wif_ff {b : Bool} {P P' : Prop} (e : b = false) (p : P') : (b = true → P) ∧ (b = false → P') := by subst e; exact wif_f p
theorem wif {b : Bool} {P P' : Prop} (p : b = true → P) (q : b = false → P') : (b = true → P) ∧ (b = false → P') := ⟨p, q⟩
end
theorem lstAt_app {h r : AH} {n : Nat} {xs : List D} (e : lstAt h n = some xs) : lstAt (h ++ r) n = some xs := by
  unfold lstAt at e ⊢
  split at e
  · rename_i e0; rw [getO_app e0]; exact e
  · rename_i e0; rw [getO_app e0]; exact e
  · cases e
theorem lstAt_new {h : AH} {xs : List D} : lstAt (h ++ [.lst xs]) h.length = some xs := lstAt_lst (by simp)
end Cod

namespace Cod
open PySem L2
section
variable {N B C : Sl → AH → Prop} {T : D → AH → Prop} {X : SX} {E : EX}
theorem ws_mono {N' B' C' : Sl → AH → Prop} {r : RT} (p : ws r N' T B' C' X) (f : ∀ δ h, N' δ h → N δ h) (g : ∀ δ h, B' δ h → B δ h) (k : ∀ δ h, C' δ h → C δ h) : ws r N T B C X := by
  cases r with
  | nx δ h => exact f _ _ p
  | rt d h => exact p
  | bk δ h => exact g _ _ p
  | ct δ h => exact k _ _ p
  | ex c fs δ h => exact p
  | no => exact p
/-- two ways that come together -/
theorem ws_join (P : Sl → AH → Prop) {m n : SD} {δ : Sl} {h : AH} (p : ws (m δ h) P T B C X) (q : ∀ δ h, P δ h → ws (n δ h) N T B C X) : ws (sSeq m n δ h) N T B C X :=
  ws_seq (ws_mono p q (fun _ _ e => e) fun _ _ e => e)
/-- a test that never bites -/
theorem ws_chk {c : BD} {m n : SD} {δ : Sl} {h : AH} (p : wp (c δ h) (fun b h' => b = false ∧ h' = h) noE) (q : ws (n δ h) N T B C X) : ws (sSeq (sIf c m sNext) n δ h) N T B C X :=
  ws_seq (ws_if (wp_no p fun b h' ⟨e, e'⟩ => by subst e; subst e'; exact wif_f q))
theorem ws_chkH (P : AH → Prop) {c : BD} {m n : SD} {δ : Sl} {h : AH} (p : wp (c δ h) (fun b h' => b = false ∧ P h') noE) (q : ∀ h', P h' → ws (n δ h') N T B C X) : ws (sSeq (sIf c m sNext) n δ h) N T B C X :=
  ws_seq (ws_if (wp_no p fun b h' ⟨e, e'⟩ => by subst e; exact wif_f (q _ e')))
theorem ws_chk1 {c : BD} {m : SD} {δ : Sl} {h : AH} (p : wp (c δ h) (fun b h' => b = false ∧ h' = h) noE) (q : N δ h) : ws (sIf c m sNext δ h) N T B C X :=
  ws_if (wp_no p fun b h' ⟨e, e'⟩ => by subst e; subst e'; exact wif_f q)
theorem ws_chk1H (P : AH → Prop) {c : BD} {m : SD} {δ : Sl} {h : AH} (p : wp (c δ h) (fun b h' => b = false ∧ P h') noE) (q : ∀ h', P h' → N δ h') : ws (sIf c m sNext δ h) N T B C X :=
  ws_if (wp_no p fun b h' ⟨e, e'⟩ => by subst e; exact wif_f (q _ e'))
/-- the law's loop over its rounds -/
theorem ws_rounds {tg : Tg} {body : SD} {δ : Sl} {h : AH} {n : Nat} {ls : List Nat} (hr : Rounds h n ls) (Ps : Sl → Prop) (hp : Ps δ)
    (ht : ∀ l δ h, Ps δ → Dice h l → ∃ δ1, asgT tg (.loc l) δ = some δ1 ∧ ws (body δ1 h) (fun δ2 h2 => Ps δ2 ∧ St1 l h h2 ∧ Dice h2 l) T (fun _ _ => False) (fun δ2 h2 => Ps δ2 ∧ St1 l h h2 ∧ Dice h2 l) X)
    (he : ∀ δ h, Ps δ → N δ h) : ws (forG body tg (.lst n) (cntI (.lst n) h) 0 δ h) N T B C X := by
  refine ws_list (xs := ls.map D.loc) (fun _ δ h => Rounds h n ls ∧ Ps δ) (fun i δ h p => lstAt_lst p.1.at_) ⟨hr, hp⟩ (fun i x δ h hx ⟨pr, pp⟩ => ?_) fun δ h p => he δ h p.2
  rw [List.getElem?_map, Option.map_eq_some_iff] at hx
  obtain ⟨l, hl, rfl⟩ := hx
  have hl := List.mem_of_getElem? hl
  obtain ⟨δ1, e1, hb⟩ := ht l δ h pp (pr.dice l hl)
  exact ⟨δ1, e1, ws_mono hb (fun δ2 h2 ⟨p2, s2, d2⟩ => ⟨pr.step hl s2 d2, p2⟩) (fun _ _ e => e.elim) fun δ2 h2 ⟨p2, s2, d2⟩ => ⟨pr.step hl s2 d2, p2⟩⟩
/-- the same, with what stood ahead of the rounds -/
theorem ws_roundsK {tg : Tg} {body : SD} {δ : Sl} {h h0 : AH} {n : Nat} {ls : List Nat} (hr : Rounds h n ls) (st : Stay h0 h) (fr : ∀ l ∈ ls, h0.length ≤ l) (Ps : Sl → Prop) (hp : Ps δ)
    (ht : ∀ l δ h, Ps δ → Dice h l → Stay h0 h → h0.length ≤ l → ∃ δ1, asgT tg (.loc l) δ = some δ1 ∧ ws (body δ1 h) (fun δ2 h2 => Ps δ2 ∧ St1 l h h2 ∧ Dice h2 l) T (fun _ _ => False) (fun δ2 h2 => Ps δ2 ∧ St1 l h h2 ∧ Dice h2 l) X)
    (he : ∀ δ h, Ps δ → Stay h0 h → N δ h) : ws (forG body tg (.lst n) (cntI (.lst n) h) 0 δ h) N T B C X := by
  refine ws_list (xs := ls.map D.loc) (fun _ δ h => Rounds h n ls ∧ Stay h0 h ∧ Ps δ) (fun i δ h p => lstAt_lst p.1.at_) ⟨hr, st, hp⟩ (fun i x δ h hx ⟨pr, ps, pp⟩ => ?_) fun δ h p => he δ h p.2.2 p.2.1
  rw [List.getElem?_map, Option.map_eq_some_iff] at hx
  obtain ⟨l, hl, rfl⟩ := hx
  have hl := List.mem_of_getElem? hl
  obtain ⟨δ1, e1, hb⟩ := ht l δ h pp (pr.dice l hl) ps (fr l hl)
  exact ⟨δ1, e1, ws_mono hb (fun δ2 h2 ⟨p2, s2, d2⟩ => ⟨pr.step hl s2 d2, ps.st s2 (fr l hl), p2⟩) (fun _ _ e => e.elim) fun δ2 h2 ⟨p2, s2, d2⟩ => ⟨pr.step hl s2 d2, ps.st s2 (fr l hl), p2⟩⟩
theorem wp_iaddI {Q : D → AH → Prop} {i j : Int} {h : AH} {E : EX} (q : Q (.int (i + j)) h) : wp (iaddD (.int i) (.int j) h) Q E := q
end
end Cod
namespace Cod
open PySem L2
theorem ints_strs {xs : List D} {s : Str} {r : List Str} (e : strsO xs = some (s :: r)) : intsO xs = none := by
  cases xs with
  | nil => cases e
  | cons d xs =>
    cases d with
    | str x => rfl
    | _ => cases e
theorem strsO_nil {xs : List D} (e : strsO xs = some []) : xs = [] := by
  cases xs with
  | nil => rfl
  | cons d xs =>
    cases d with
    | str x =>
      unfold strsO at e
      split at e <;> cases e
    | _ => cases e
theorem wp_sorted {Q : D → AH → Prop} {E : EX} {d : D} {xs : List D} {ss : List Str} {h : AH} (e : seqD h d = some xs) (e1 : strsO xs = some ss) (e2 : ss.length < 64) (q : Q (.loc h.length) (h ++ [.lst ((srtS ss).map D.str)])) : wp (sortedD [d] h) Q E := by
  unfold sortedD
  cases hi : intsAt h d with
  | none =>
    simp only [hi, e, e1, if_pos e2]
    exact q
  | some ns =>
    have hx : intsO xs = some ns := by
      unfold intsAt at hi
      split at hi
      · simp only [seqD] at e
        split at hi
        · rename_i e0; simp only [e0] at e; cases e; exact hi
        · rename_i e0; simp only [e0] at e; cases e; exact hi
        · cases hi
      · cases hi
    cases ss with
    | cons s r => rw [ints_strs e1] at hx; cases hx
    | nil =>
      have := strsO_nil e1
      subst this
      cases hx
      simp only [hi]
      exact q
theorem wp_sortI {Q : D → AH → Prop} {E : EX} {n : Nat} {ns : List Int} {h : AH} (e : lstAt h n = some (ns.map D.int)) (q : Q (.loc h.length) (h ++ [.lst ((srtI ns).map D.int)])) : wp (sortedD [.loc n] h) Q E := by
  unfold sortedD
  have hi : intsAt h (.loc n) = some ns := by
    rcases lstAt_or e with e0 | e0 <;> simp only [intsAt, e0, intsO_map]
  simp only [hi]
  exact q
theorem keysI_map : ∀ ns : List Int, keysI (ns.map Sum.inl) = some ns
  | [] => rfl
  | n :: r => by rw [List.map_cons, keysI, keysI_map r]
theorem wp_sortDI {Q : D → AH → Prop} {E : EX} {n : Nat} {kvs : List (Key × D)} {ns : List Int} {h : AH} (e : h[n]? = some (.dct kvs)) (ek : kvs.map (·.1) = ns.map Sum.inl) (hl : ns.length < 64) (q : Q (.loc h.length) (h ++ [.lst ((srtI ns).map D.int)])) : wp (sortedD [.loc n] h) Q E := by
  unfold sortedD
  simp only [intsAt, seqD, dctAt, e, ek, keysI_map, if_pos hl]
  exact q
end Cod
namespace Cod
open PySem L2
theorem wp_Gx {Q : D → AH → Prop} {E : EX} {k : Bool} {mi : ID} {tg : Tg} {elt : ED} {vs : List Nat} {δ : Sl} {h : AH} (p : wp (mi δ h) (fun it h => wp (gxG k elt tg it (dwipe δ vs) (cntI it h) 0 h) Q E) E) : wp (eGx k mi tg elt vs δ h) Q E := wp_bind p
/-- all (k false), any (k true): a turn that does not stop goes on -/
theorem wp_gxG {Q : D → AH → Prop} {E : EX} {k : Bool} {elt : ED} {tg : Tg} {it : Itg} {δ : Sl} {xs : List D} (P : Nat → AH → Prop) (hn : ∀ i h, i ≤ xs.length → P i h → nxtI it i h = some xs[i]?)
    (hs : ∀ i x h, xs[i]? = some x → P i h → ∃ δ1, asgT tg x δ = some δ1 ∧ wp (elt δ1 h) (fun d h => ∃ b, d = .bl b ∧ (b = k → Q (.bl k) h) ∧ (b ≠ k → P (i + 1) h)) noE)
    (he : ∀ h, P xs.length h → Q (.bl (!k)) h) :
    ∀ f i h, i ≤ xs.length → xs.length ≤ i + f → P i h → wp (gxG k elt tg it δ f i h) Q E
  | 0, i, h, h1, h2, p => by
    have e : i = xs.length := by omega
    subst e
    unfold gxG
    rw [hn _ h (Nat.le_refl _) p, List.getElem?_eq_none (Nat.le_refl _)]
    exact he _ p
  | f + 1, i, h, h1, h2, p => by
    unfold gxG
    rw [hn i h h1 p]
    cases e : xs[i]? with
    | none =>
      have hi : xs.length ≤ i := List.getElem?_eq_none_iff.mp e
      have e' : i = xs.length := by omega
      subst e'
      exact he _ p
    | some x =>
      have hi : i < xs.length := (List.getElem?_eq_some_iff.mp e).1
      obtain ⟨δ1, ht, hb⟩ := hs i x h e p
      obtain ⟨d, h1', et, b, rfl, q1, q2⟩ := wp_get hb
      simp only [ht, et]
      by_cases hk : b = k
      · rw [if_pos hk]; exact q1 hk
      · rw [if_neg hk]; exact wp_gxG P hn hs he f (i + 1) h1' (by omega) (by omega) (q2 hk)
theorem wp_gxI {Q : D → AH → Prop} {E : EX} {k : Bool} {elt : ED} {tg : Tg} {δ : Sl} {xs : List D} {h : AH} (P : Nat → AH → Prop) (p : P 0 h)
    (hs : ∀ i x h, xs[i]? = some x → P i h → ∃ δ1, asgT tg x δ = some δ1 ∧ wp (elt δ1 h) (fun d h => ∃ b, d = .bl b ∧ (b = k → Q (.bl k) h) ∧ (b ≠ k → P (i + 1) h)) noE)
    (he : ∀ h, P xs.length h → Q (.bl (!k)) h) : wp (gxG k elt tg (.items xs) δ (cntI (.items xs) h) 0 h) Q E :=
  wp_gxG P (fun i h _ p => rfl) hs he _ 0 _ (Nat.zero_le _) (by simp only [cntI]; omega) p
theorem wp_gxL {Q : D → AH → Prop} {E : EX} {k : Bool} {elt : ED} {tg : Tg} {n : Nat} {δ : Sl} {xs : List D} {h : AH} (P : Nat → AH → Prop) (hl : ∀ i h, P i h → lstAt h n = some xs) (p : P 0 h)
    (hs : ∀ i x h, xs[i]? = some x → P i h → ∃ δ1, asgT tg x δ = some δ1 ∧ wp (elt δ1 h) (fun d h => ∃ b, d = .bl b ∧ (b = k → Q (.bl k) h) ∧ (b ≠ k → P (i + 1) h)) noE)
    (he : ∀ h, P xs.length h → Q (.bl (!k)) h) : wp (gxG k elt tg (.lst n) δ (cntI (.lst n) h) 0 h) Q E :=
  wp_gxG P (fun i h _ p => nxt_lst (hl i h p)) hs he _ 0 _ (Nat.zero_le _) (by rw [cnt_lst (hl _ _ p)]; omega) p
theorem wp_Gs {Q : D → AH → Prop} {E : EX} {mi : ID} {tg : Tg} {elt : ED} {vs : List Nat} {δ : Sl} {h : AH} (p : wp (mi δ h) (fun it h => wp (gsG elt tg it (dwipe δ vs) (cntI it h) 0 0 h) Q E) E) : wp (eGs mi tg elt vs δ h) Q E := wp_bind p
/-- sum: what is added so far -/
theorem wp_gsG {Q : D → AH → Prop} {E : EX} {elt : ED} {tg : Tg} {it : Itg} {δ : Sl} {xs : List D} (P : Nat → Int → AH → Prop) (hn : ∀ i c h, i ≤ xs.length → P i c h → nxtI it i h = some xs[i]?)
    (hs : ∀ i c x h, xs[i]? = some x → P i c h → ∃ δ1, asgT tg x δ = some δ1 ∧ wp (elt δ1 h) (fun d h => ∃ j, d = .int j ∧ P (i + 1) (c + j) h) noE)
    (he : ∀ c h, P xs.length c h → Q (.int c) h) :
    ∀ f i c h, i ≤ xs.length → xs.length ≤ i + f → P i c h → wp (gsG elt tg it δ f i c h) Q E
  | 0, i, c, h, h1, h2, p => by
    have e : i = xs.length := by omega
    subst e
    unfold gsG
    rw [hn _ _ h (Nat.le_refl _) p, List.getElem?_eq_none (Nat.le_refl _)]
    exact he _ _ p
  | f + 1, i, c, h, h1, h2, p => by
    unfold gsG
    rw [hn i c h h1 p]
    cases e : xs[i]? with
    | none =>
      have hi : xs.length ≤ i := List.getElem?_eq_none_iff.mp e
      have e' : i = xs.length := by omega
      subst e'
      exact he _ _ p
    | some x =>
      have hi : i < xs.length := (List.getElem?_eq_some_iff.mp e).1
      obtain ⟨δ1, ht, hb⟩ := hs i c x h e p
      obtain ⟨d, h1', et, j, rfl, q1⟩ := wp_get hb
      simp only [ht, et]
      exact wp_gsG P hn hs he f (i + 1) (c + j) h1' (by omega) (by omega) q1
/-- sum over the parts of a list, of a tuple -/
theorem wp_gsL {Q : D → AH → Prop} {E : EX} {elt : ED} {tg : Tg} {δ : Sl} {α : Type} {xs : List α} {rd : α → D} {v : α → Int} {n : Nat} {h : AH} (P : AH → Prop) (hl : ∀ h, P h → lstAt h n = some (xs.map rd)) (p : P h)
    (hs : ∀ x ∈ xs, ∀ g, P g → ∃ δ1, asgT tg (rd x) δ = some δ1 ∧ wp (elt δ1 g) (fun d g' => d = .int (v x) ∧ P g') noE)
    (q : ∀ g, P g → Q (.int (xs.map v).sum) g) : wp (gsG elt tg (.lst n) δ (cntI (.lst n) h) 0 0 h) Q E := by
  refine wp_gsG (xs := xs.map rd) (fun i c g => P g ∧ c = ((xs.take i).map v).sum) (fun i c h _ p => nxt_lst (hl h p.1)) ?_ ?_ _ 0 _ _ (Nat.zero_le _) (by rw [cnt_lst (hl _ p)]; omega) ⟨p, by simp⟩
  · rintro i c x g hx ⟨s, hp⟩
    rw [List.getElem?_map, Option.map_eq_some_iff] at hx
    obtain ⟨y, hy, rfl⟩ := hx
    obtain ⟨δ1, e1, hw⟩ := hs y (List.mem_of_getElem? hy) g s
    refine ⟨δ1, e1, wp_imp hw ?_⟩
    rintro d g' ⟨rfl, s'⟩
    refine ⟨_, rfl, s', ?_⟩
    rw [List.take_add_one, hy]
    simp [hp]
  · rintro c g ⟨s, hp⟩
    rw [List.length_map, List.take_length] at hp
    rw [hp]
    exact q g s
theorem wp_gsT {Q : D → AH → Prop} {E : EX} {elt : ED} {tg : Tg} {δ : Sl} {α : Type} {xs : List α} {rd : α → D} {v : α → Int} {h : AH} (P : AH → Prop) (p : P h)
    (hs : ∀ x ∈ xs, ∀ g, P g → ∃ δ1, asgT tg (rd x) δ = some δ1 ∧ wp (elt δ1 g) (fun d g' => d = .int (v x) ∧ P g') noE)
    (q : ∀ g, P g → Q (.int (xs.map v).sum) g) : wp (gsG elt tg (.items (xs.map rd)) δ (cntI (.items (xs.map rd)) h) 0 0 h) Q E := by
  refine wp_gsG (xs := xs.map rd) (fun i c g => P g ∧ c = ((xs.take i).map v).sum) (fun i c h _ p => rfl) ?_ ?_ _ 0 _ _ (Nat.zero_le _) (by simp only [cntI]; omega) ⟨p, by simp⟩
  · rintro i c x g hx ⟨s, hp⟩
    rw [List.getElem?_map, Option.map_eq_some_iff] at hx
    obtain ⟨y, hy, rfl⟩ := hx
    obtain ⟨δ1, e1, hw⟩ := hs y (List.mem_of_getElem? hy) g s
    refine ⟨δ1, e1, wp_imp hw ?_⟩
    rintro d g' ⟨rfl, s'⟩
    refine ⟨_, rfl, s', ?_⟩
    rw [List.take_add_one, hy]
    simp [hp]
  · rintro c g ⟨s, hp⟩
    rw [List.length_map, List.take_length] at hp
    rw [hp]
    exact q g s
end Cod

namespace Cod
open PySem L2
/-! ### comprehensions that roll dice, comprehensions that leave all as it is -/
theorem Dice.lt {h : AH} {n : Nat} (d : Dice h n) : n < h.length := by
  obtain ⟨_, _, _, e⟩ := d
  exact (List.getElem?_eq_some_iff.mp e).1
theorem St1.set2 {l M : Nat} {h0 h : AH} {o : O} (s : St1 l h0 h) (hM : h0.length ≤ M) : St1 l h0 (h.set M o) := ⟨fun m o' hn e => by
  have : m < h0.length := (List.getElem?_eq_some_iff.mp e).1
  rw [List.getElem?_set_ne (by omega)]
  exact s.keep m o' hn e⟩
theorem Dice.set2 {l M : Nat} {h : AH} {o : O} (d : Dice h l) (hM : M ≠ l) : Dice (h.set M o) l := by
  obtain ⟨a, b, c, e⟩ := d
  exact ⟨a, b, c, by rw [List.getElem?_set_ne hM]; exact e⟩
section
variable {Q : D → AH → Prop} {E : EX} {elt : ED} {tg : Tg} {δ : Sl} {xs : List D} {h0 : AH} {it : Itg}
theorem wp_lcK {l : Nat} {n : Nat} (Pe : Nat → D → Prop) (d : Dice h0 l) (hn : ∀ i h, St1 l h0 h → nxtI it i h = some xs[i]?) (hc : xs.length ≤ n) (hz : xs.length ≤ lim)
    (hs : ∀ (i : Nat) (x : D) (h : AH), xs[i]? = some x → Dice h l → St1 l h0 h → ∃ δ1, asgT tg x δ = some δ1 ∧ wp (elt δ1 h) (fun y h' => Pe i y ∧ St1 l h h' ∧ Dice h' l) noE)
    (he : ∀ acc h', acc.length = xs.length → (∀ i y, acc[i]? = some y → Pe i y) → h'[h0.length]? = some (.lst acc) → St1 l h0 h' → Dice h' l → Q (.loc h0.length) h') :
    wp (lcG elt (fun _ h => .ok true h) tg it h0.length δ n 0 (h0 ++ [.lst []])) Q E := by
  have hl := d.lt
  refine wp_lcG (xs := xs) (fun i acc h => acc.length = i ∧ (∀ j y, acc[j]? = some y → Pe j y) ∧ St1 l h0 h ∧ Dice h l) (fun i acc h _ p => hn i h p.2.2.1) hz (fun i x acc h hx p hM ha => ?_) (fun acc h p hM ha => he acc h p.1 p.2.1 hM p.2.2.1 p.2.2.2) _ 0 [] _ (Nat.zero_le _) (by omega) ⟨rfl, fun j y e => by simp at e, St1.app _ _ _, d.app _⟩ (by simp) (Nat.zero_le _)
  obtain ⟨p1, p2, p3, p4⟩ := p
  obtain ⟨δ1, e1, hw⟩ := hs i x h hx p4 p3
  refine ⟨δ1, e1, wp_tt (wif_t (wp_imp hw fun y h' ⟨q1, q2, q3⟩ => ⟨q2.keep _ _ (by omega) hM, by simp [p1], fun j z e => ?_, (p3.trans q2).set2 (Nat.le_refl _), q3.set2 (by omega)⟩))⟩
  by_cases hj : j < acc.length
  · rw [List.getElem?_append_left hj] at e; exact p2 j z e
  · have hj' : j = i := by
      have := (List.getElem?_eq_some_iff.mp e).1
      simp at this; omega
    subst hj'
    rw [← p1] at e ⊢
    simp at e
    subst e
    rw [p1]; exact q1
theorem wp_lcDI {l : Nat} (Pe : Nat → D → Prop) (d : Dice h0 l) (hz : xs.length ≤ lim)
    (hs : ∀ (i : Nat) (x : D) (h : AH), xs[i]? = some x → Dice h l → St1 l h0 h → ∃ δ1, asgT tg x δ = some δ1 ∧ wp (elt δ1 h) (fun y h' => Pe i y ∧ St1 l h h' ∧ Dice h' l) noE)
    (he : ∀ acc h', acc.length = xs.length → (∀ i y, acc[i]? = some y → Pe i y) → h'[h0.length]? = some (.lst acc) → St1 l h0 h' → Dice h' l → Q (.loc h0.length) h') :
    wp (lcG elt (fun _ h => .ok true h) tg (.items xs) h0.length δ (cntI (.items xs) h0) 0 (h0 ++ [.lst []])) Q E :=
  wp_lcK Pe d (fun _ _ _ => rfl) (Nat.le_refl _) hz hs he
theorem wp_lcDL {l m : Nat} (Pe : Nat → D → Prop) (d : Dice h0 l) (hm : lstAt h0 m = some xs) (hml : m ≠ l) (hz : xs.length ≤ lim)
    (hs : ∀ (i : Nat) (x : D) (h : AH), xs[i]? = some x → Dice h l → St1 l h0 h → ∃ δ1, asgT tg x δ = some δ1 ∧ wp (elt δ1 h) (fun y h' => Pe i y ∧ St1 l h h' ∧ Dice h' l) noE)
    (he : ∀ acc h', acc.length = xs.length → (∀ i y, acc[i]? = some y → Pe i y) → h'[h0.length]? = some (.lst acc) → St1 l h0 h' → Dice h' l → Q (.loc h0.length) h') :
    wp (lcG elt (fun _ h => .ok true h) tg (.lst m) h0.length δ (cntI (.lst m) h0) 0 (h0 ++ [.lst []])) Q E :=
  wp_lcK Pe d (fun i h s => nxt_lst (s.lst hml hm)) (by rw [cnt_lst hm]; exact Nat.le_refl _) hz hs he
end
/-! ### comprehensions with a test whose parts are told by functions -/
section
variable {Q : D → AH → Prop} {E : EX} {elt : ED} {test : BD} {tg : Tg} {δ : Sl} {xs : List D} {h0 : AH} {it : Itg}
theorem wp_lcF {n : Nat} (f : D → D) (p : D → Bool) (hn : ∀ i h, Stay h0 h → nxtI it i h = some xs[i]?) (hc : xs.length ≤ n) (hz : xs.length ≤ lim)
    (hs : ∀ (i : Nat) (x : D) (h : AH), xs[i]? = some x → Stay h0 h → ∃ δ1, asgT tg x δ = some δ1 ∧ wp (test δ1 h) (fun b h1 => b = p x ∧ Stay h h1 ∧ (b = true → wp (elt δ1 h1) (fun y h' => y = f x ∧ Stay h1 h') noE)) noE)
    (he : ∀ h', h'[h0.length]? = some (.lst ((xs.filter p).map f)) → Stay h0 h' → Q (.loc h0.length) h') :
    wp (lcG elt test tg it h0.length δ n 0 (h0 ++ [.lst []])) Q E := by
  refine wp_lcG (xs := xs) (fun i acc h => acc = ((xs.take i).filter p).map f ∧ Stay h0 h) (fun i acc h _ p => hn i h p.2) hz (fun i x acc h hx q hM ha => ?_) (fun acc h q hM ha => he h (by rw [hM, q.1, List.take_length]) q.2) _ 0 [] _ (Nat.zero_le _) (by omega) ⟨by simp, Stay.app _ _⟩ (by simp) (Nat.zero_le _)
  obtain ⟨rfl, st⟩ := q
  obtain ⟨δ1, e1, hw⟩ := hs i x h hx st
  refine ⟨δ1, e1, wp_imp hw fun b h1 ⟨eb, s1, hy⟩ => ⟨fun hb => wp_imp (hy hb) fun y h' ⟨ey, s2⟩ => ⟨s2 _ _ (s1 _ _ hM), ?_, (st.trans (s1.trans s2)).put (Nat.le_refl _)⟩, fun hb => ⟨s1 _ _ hM, ?_, st.trans s1⟩⟩⟩
  · subst ey
    rw [List.take_add_one, hx]
    have : p x = true := by rw [← eb, hb]
    simp [this]
  · rw [List.take_add_one, hx]
    have : p x = false := by rw [← eb, hb]
    simp [this]
theorem wp_lcFI (f : D → D) (p : D → Bool) (hz : xs.length ≤ lim)
    (hs : ∀ (i : Nat) (x : D) (h : AH), xs[i]? = some x → Stay h0 h → ∃ δ1, asgT tg x δ = some δ1 ∧ wp (test δ1 h) (fun b h1 => b = p x ∧ Stay h h1 ∧ (b = true → wp (elt δ1 h1) (fun y h' => y = f x ∧ Stay h1 h') noE)) noE)
    (he : ∀ h', h'[h0.length]? = some (.lst ((xs.filter p).map f)) → Stay h0 h' → Q (.loc h0.length) h') :
    wp (lcG elt test tg (.items xs) h0.length δ (cntI (.items xs) h0) 0 (h0 ++ [.lst []])) Q E :=
  wp_lcF f p (fun _ _ _ => rfl) (Nat.le_refl _) hz hs he
theorem wp_lcFL {m : Nat} (f : D → D) (p : D → Bool) (hm : lstAt h0 m = some xs) (hz : xs.length ≤ lim)
    (hs : ∀ (i : Nat) (x : D) (h : AH), xs[i]? = some x → Stay h0 h → ∃ δ1, asgT tg x δ = some δ1 ∧ wp (test δ1 h) (fun b h1 => b = p x ∧ Stay h h1 ∧ (b = true → wp (elt δ1 h1) (fun y h' => y = f x ∧ Stay h1 h') noE)) noE)
    (he : ∀ h', h'[h0.length]? = some (.lst ((xs.filter p).map f)) → Stay h0 h' → Q (.loc h0.length) h') :
    wp (lcG elt test tg (.lst m) h0.length δ (cntI (.lst m) h0) 0 (h0 ++ [.lst []])) Q E :=
  wp_lcF f p (fun i h s => nxt_lst (s.lst hm)) (by rw [cnt_lst hm]; exact Nat.le_refl _) hz hs he
end
theorem rng_len (lo hi : Int) : ∃ xs, rng lo hi = .items xs ∧ xs.length = (hi - lo).toNat ∧ ∀ (i : Nat) (x : D), xs[i]? = some x → x = .int (lo + (i : Nat)) := by
  refine ⟨_, rfl, by simp, fun i x e => ?_⟩
  rw [List.getElem?_map, Option.map_eq_some_iff] at e
  obtain ⟨j, ej, rfl⟩ := e
  obtain ⟨hj, rfl⟩ := List.getElem?_eq_some_iff.mp ej
  simp
theorem newO (h : AH) (o : O) : (h ++ [o])[h.length]? = some o := by simp
/-! ### slices -/
theorem cut_map {α β : Type} (f : α → β) (xs : List α) (lo hi : Option Int) : cutD (xs.map f) lo hi = (cutD xs lo hi).map f := by
  unfold cutD
  rw [List.length_map, List.map_take, List.map_drop]
theorem mem_cut {α : Type} {xs : List α} {lo hi : Option Int} {x : α} (h : x ∈ cutD xs lo hi) : x ∈ xs := List.mem_of_mem_drop (List.mem_of_mem_take h)
theorem len_cut {α : Type} (xs : List α) (lo hi : Option Int) : (cutD xs lo hi).length ≤ xs.length := by
  unfold cutD
  rw [List.length_take, List.length_drop]
  omega
end Cod

namespace Cod
open PySem L2
/-! ### == of data that stand -/
/-- immutable data of a depth below k -/
noncomputable def okD : Nat → D → Bool
  | 0, _ => false
  | k + 1, d => match d with
    | .non => true
    | .bl _ => true
    | .int _ => true
    | .str _ => true
    | .tup xs => xs.all (okD k)
    | _ => false
theorem eqF_refl {d : D} (h : flatD d = true) : eqF d d = true := by
  cases d with
  | non => rfl
  | bl b => simp [eqF]
  | int i => simp [eqF]
  | str x => simp [eqF]
  | _ => cases h
theorem eqL_refl {f : D → D → Option Bool} : ∀ {xs : List D}, (∀ x ∈ xs, f x x = some true) → eqL f xs xs = some true
  | [], _ => rfl
  | x :: r, h => by rw [eqL, h x (by simp), eqL_refl (xs := r) fun y hy => h y (by simp [hy])]; rfl
theorem eqX_refl (h : AH) : ∀ (k m : Nat) (d : D), k ≤ m → okD k d = true → eqX m h d d = some true
  | 0, _, _, _, e => by cases e
  | k + 1, 0, _, hm, _ => by omega
  | k + 1, m + 1, d, hm, e => by
    cases d with
    | tup xs =>
      have e : xs.all (okD k) = true := e
      rw [List.all_eq_true] at e
      unfold eqX
      simp only [flatD, sqOf, if_true]
      exact eqL_refl fun x hx => eqX_refl h k m x (by omega) (e x hx)
    | non => exact eqX_flat rfl rfl
    | bl b => rw [eqX_flat rfl rfl, eqF_refl rfl]
    | int i => rw [eqX_flat rfl rfl, eqF_refl rfl]
    | str x => rw [eqX_flat rfl rfl, eqF_refl rfl]
    | _ => cases e
theorem eqB_refl {h : AH} {d : D} (e : okD 60 d = true) : eqB h d d = some true := by
  have e1 : dctAt h d = none := by cases d <;> first | rfl | cases e
  unfold eqB
  rw [e1]
  exact eqX_refl h 60 60 d (Nat.le_refl _) e
theorem eqB_lists {h : AH} {m n : Nat} {xs : List D} (e1 : lstAt h m = some xs) (e2 : lstAt h n = some xs) (ho : xs.all (okD 59) = true) : eqB h (.loc m) (.loc n) = some true := by
  rw [List.all_eq_true] at ho
  rw [eqB_sq (sqOf_lst e1) (sqOf_lst e2), if_pos rfl]
  exact eqL_refl fun x hx => eqX_refl h 59 59 x (Nat.le_refl _) (ho x hx)
theorem eqB_nil {h : AH} {m n : Nat} {xs : List D} (e1 : lstAt h m = some xs) (e2 : lstAt h n = some []) : eqB h (.loc m) (.loc n) = some xs.isEmpty := by
  rw [eqB_sq (sqOf_lst e1) (sqOf_lst e2), if_pos rfl]
  cases xs <;> rfl
/-- two lists whose items are equal one by one -/
theorem eqB_each {h : AH} {m n : Nat} {xs ys : List D} (e1 : lstAt h m = some xs) (e2 : lstAt h n = some ys) (hl : xs.length = ys.length) (he : ∀ (i : Nat) (x y : D), xs[i]? = some x → ys[i]? = some y → eqX 59 h x y = some true) : eqB h (.loc m) (.loc n) = some true := by
  rw [eqB_sq (sqOf_lst e1) (sqOf_lst e2), if_pos rfl]
  clear e1 e2
  induction xs generalizing ys with
  | nil => cases ys with
    | nil => rfl
    | cons _ _ => simp at hl
  | cons x r ih => cases ys with
    | nil => simp at hl
    | cons y s =>
      rw [eqL, he 0 x y rfl rfl, ih (by simpa using hl) fun i a b h1 h2 => he (i + 1) a b (by simpa using h1) (by simpa using h2)]
      rfl
theorem eqX_lists {k : Nat} {h : AH} {m n : Nat} {xs : List D} (e1 : lstAt h m = some xs) (e2 : lstAt h n = some xs) (ho : ∀ x ∈ xs, eqX k h x x = some true) : eqX (k + 1) h (.loc m) (.loc n) = some true := by
  unfold eqX
  simp only [flatD, sqOf_lst e1, sqOf_lst e2, if_true]
  exact eqL_refl ho
theorem eqB_dicts {h : AH} {m n : Nat} {ks ls : List (Key × D)} (e1 : h[m]? = some (.dct ks)) (e2 : h[n]? = some (.dct ls)) (hl : ks.length = ls.length) (he : ∀ k v, (k, v) ∈ ks → ∃ w, valD ls k = some w ∧ eqX 59 h v w = some true) : eqB h (.loc m) (.loc n) = some true := by
  have key : ∀ (ks : List (Key × D)), (∀ k v, (k, v) ∈ ks → ∃ w, valD ls k = some w ∧ eqX 59 h v w = some true) → eqK (eqX 59 h) ls ks = some true := by
    intro ks
    induction ks with
    | nil => intro _; rfl
    | cons p r ih =>
      intro hp
      obtain ⟨k, v⟩ := p
      obtain ⟨w, ew, ex⟩ := hp k v (by simp)
      rw [eqK, ew]
      simp only [ex, ih fun k v hm => hp k v (by simp [hm])]
      rfl
  unfold eqB
  simp only [dctAt, e1, e2, if_pos hl]
  exact key ks he
theorem wp_Ch3 {Q : D → AH → Prop} {E : EX} {g g' g2 : D → D → AH → R D} {a b c d : ED} {δ : Sl} {h : AH} (p : wp (a δ h) (fun x h => wp (b δ h) (fun y h => wp (g x y h) (fun z h => ∃ k, z = .bl k ∧ (k = true → wp (c δ h) (fun w h => wp (g' y w h) (fun z h => ∃ k, z = .bl k ∧ (k = true → wp (d δ h) (fun v h => wp (g2 w v h) Q E) E) ∧ (k = false → Q (.bl false) h)) E) E) ∧ (k = false → Q (.bl false) h)) E) E) E) : wp (eCh3 g g' g2 a b c d δ h) Q E := by
  unfold eCh3
  refine wp_bind (wp_imp p fun x h p => wp_bind (wp_imp p fun y h p => wp_bind (wp_imp p fun z h ⟨k, ek, p1, p2⟩ => ?_)))
  subst ek
  cases k with
  | false => exact p2 rfl
  | true =>
    refine wp_bind (wp_imp (p1 rfl) fun w h p => wp_bind (wp_imp p fun z h ⟨k, ek, p1, p2⟩ => ?_))
    subst ek
    cases k with
    | false => exact p2 rfl
    | true => exact wp_bind (p1 rfl)
/-! ### rules for dicts -/
section
variable {E : EX}
theorem wp_dict0 {Q : D → AH → Prop} {δ : Sl} {h : AH} (q : Q (.loc h.length) (h ++ [.dct []])) : wp (eDict0 δ h) Q E := q
theorem wp_ixK {Q : D → AH → Prop} {n : Nat} {kvs : List (Key × D)} {e d : D} {k : Key} {h : AH} (e0 : h[n]? = some (.dct kvs)) (ek : keyOf e = some k) (ev : valD kvs k = some d) (q : Q d h) : wp (ixD (.loc n) e h) Q E := by
  unfold ixD
  simp only [e0, ek, ev, okO]
  exact q
theorem wp_ixC {Q : D → AH → Prop} {ks : List Str} {vs : List D} {z : Str} {i : Nat} {d : D} {h : AH} (ei : ks.findIdx? (fun k => decide (k = z)) = some i) (ev : vs[i]? = some d) (q : Q d h) : wp (ixD (.kd ks vs) (.str z) h) Q E := by
  unfold ixD
  simp only [ei, ev, okO]
  exact q
theorem wp_inK {Q : D → AH → Prop} {n : Nat} {neg : Bool} {kvs : List (Key × D)} {e : D} {k : Key} {h : AH} (e0 : h[n]? = some (.dct kvs)) (ek : keyOf e = some k) (q : Q (.bl (xor neg (valD kvs k).isSome)) h) : wp (inD neg e (.loc n) h) Q E := by
  unfold inD
  simp only [e0, ek]
  exact q
theorem wp_getK1 {Q : D → AH → Prop} {n : Nat} {kvs : List (Key × D)} {e : D} {k : Key} {h : AH} (e0 : h[n]? = some (.dct kvs)) (ek : keyOf e = some k) (q : Q ((valD kvs k).getD .non) h) : wp (dgetD (.loc n) [e] h) Q E := by
  unfold dgetD
  simp only [dctAt, e0, ek]
  exact q
theorem wp_getK2 {Q : D → AH → Prop} {n : Nat} {kvs : List (Key × D)} {e z : D} {k : Key} {h : AH} (e0 : h[n]? = some (.dct kvs)) (ek : keyOf e = some k) (q : Q ((valD kvs k).getD z) h) : wp (dgetD (.loc n) [e, z] h) Q E := by
  unfold dgetD
  simp only [dctAt, e0, ek]
  exact q
theorem wp_lenK {Q : D → AH → Prop} {n : Nat} {kvs : List (Key × D)} {h : AH} (e0 : h[n]? = some (.dct kvs)) (q : Q (.int kvs.length) h) : wp (lenD [.loc n] h) Q E := by
  unfold lenD
  simp only [seqD, dctAt, e0]
  exact q
theorem setL_d {n : Nat} {kvs : List (Key × D)} {i v : D} {k : Key} {h : AH} (e0 : h[n]? = some (.dct kvs)) (ek : keyOf i = some k) (hz : kvs.length < lim) : setL (.loc n) i v h = some (h.set n (.dct (putD kvs k v))) := by
  unfold setL
  simp only [e0, ek, if_pos hz]
theorem setL_l {n : Nat} {xs : List D} {i : Int} {v : D} {h : AH} (e0 : h[n]? = some (.lst xs)) (h0 : 0 ≤ i) (h1 : i < xs.length) : setL (.loc n) (.int i) v h = some (h.set n (.lst (xs.set i.toNat v))) := by
  unfold setL ixN
  simp only [e0, if_pos h0, if_pos h1]
theorem wp_sumL {Q : D → AH → Prop} {n : Nat} {ns : List Int} {h : AH} (e : lstAt h n = some (ns.map D.int)) (q : Q (.int ns.sum) h) : wp (sumD [.loc n] h) Q E := by
  have hi : intsAt h (.loc n) = some ns := by rcases lstAt_or e with e0 | e0 <;> simp only [intsAt, e0, intsO_map]
  unfold sumD
  simp only [hi]
  exact q
theorem wp_maxL {Q : D → AH → Prop} {n : Nat} {ns : List Int} {h : AH} (e : lstAt h n = some (ns.map D.int)) (hn : ns ≠ []) (q : Q (.int (maxL ns)) h) : wp (maxD [.loc n] h) Q E := by
  have hi : intsAt h (.loc n) = some ns := by rcases lstAt_or e with e0 | e0 <;> simp only [intsAt, e0, intsO_map]
  cases ns with
  | nil => exact absurd rfl hn
  | cons a r =>
    unfold maxD
    simp only [hi]
    exact q
theorem wp_minL {Q : D → AH → Prop} {n : Nat} {ns : List Int} {h : AH} (e : lstAt h n = some (ns.map D.int)) (hn : ns ≠ []) (q : Q (.int (minL ns)) h) : wp (minD [.loc n] h) Q E := by
  have hi : intsAt h (.loc n) = some ns := by rcases lstAt_or e with e0 | e0 <;> simp only [intsAt, e0, intsO_map]
  cases ns with
  | nil => exact absurd rfl hn
  | cons a r =>
    unfold minD
    simp only [hi]
    exact q
theorem wp_iEnumT {Q : Itg → AH → Prop} {xs : List D} {h : AH} (q : Q (.enum (.items xs)) h) : wp (iEnumD [.tup xs] h) Q E := q
theorem wp_iEnumL {Q : Itg → AH → Prop} {n : Nat} {xs : List D} {h : AH} (e : lstAt h n = some xs) (q : Q (.enum (.lst n)) h) : wp (iEnumD [.loc n] h) Q E := by
  unfold iEnumD
  simp only [sgD, e]
  exact q
theorem wp_iZip {Q : Itg → AH → Prop} {d e : D} {s t : Sg} {h : AH} (e1 : sgD h d = some s) (e2 : sgD h e = some t) (q : Q (.zip s t) h) : wp (iZipD [d, e] h) Q E := by
  unfold iZipD
  simp only [e1, e2]
  exact q
theorem wp_iRev {Q : Itg → AH → Prop} {m : ED} {δ : Sl} {h : AH} (p : wp (m δ h) (fun d h => wp (iRevD d h) Q E) E) : wp (iRev m δ h) Q E := wp_bind p
theorem wp_iRevT {Q : Itg → AH → Prop} {xs : List D} {h : AH} (q : Q (.items xs.reverse) h) : wp (iRevD (.tup xs) h) Q E := q
end
theorem sIx_pos {n d : Nat} {i : Int} (h0 : 0 ≤ i) (h1 : i ≤ n) : HT.sIx n d (some i) = i.toNat := by
  unfold HT.sIx
  simp only
  rw [if_neg (by omega)]
  omega
theorem cut_pre {α : Type} {xs : List α} {i : Int} (h0 : 0 ≤ i) (h1 : i ≤ xs.length) : cutD xs none (some i) = xs.take i.toNat := by
  unfold cutD
  rw [show HT.sIx xs.length 0 none = 0 from rfl, sIx_pos h0 h1, List.drop_zero, Nat.sub_zero]
theorem cut_suf {α : Type} {xs : List α} {i : Int} (h0 : 0 ≤ i) (h1 : i ≤ xs.length) : cutD xs (some i) none = xs.drop i.toNat := by
  unfold cutD
  rw [show HT.sIx xs.length xs.length none = xs.length from rfl, sIx_pos h0 h1, List.take_of_length_le (by simp)]
theorem cut_mid {α : Type} {xs : List α} {i j : Int} (h0 : 0 ≤ i) (h1 : i ≤ xs.length) (h2 : 0 ≤ j) (h3 : j ≤ xs.length) : cutD xs (some i) (some j) = (xs.drop i.toNat).take (j.toNat - i.toNat) := by
  unfold cutD
  rw [sIx_pos h0 h1, sIx_pos h2 h3]
theorem atI_c0 {α : Type} (x : α) (r : List α) : L2.atI (x :: r) 0 = some x := by
  rw [atI_pos (Int.le_refl _) (by rw [List.length_cons]; omega)]
  rfl
theorem wp_ixT0 {Q : D → AH → Prop} {E : EX} {x : D} {r : List D} {h : AH} (q : Q x h) : wp (ixD (.tup (x :: r)) (.int 0) h) Q E := wp_ixT (atI_c0 x r) q
theorem wp_ixM {Q : D → AH → Prop} {E : EX} {n : Nat} {xs : List D} {i : Int} {h : AH} (e0 : lstAt h n = some xs) (h0 : 0 ≤ i) (h1 : i < xs.length) (q : ∀ d, xs[i.toNat]? = some d → Q d h) : wp (ixD (.loc n) (.int i) h) Q E := by
  have hi : i.toNat < xs.length := by omega
  exact wp_ixL e0 (by rw [atI_pos h0 h1]; exact List.getElem?_eq_getElem hi) (q _ (List.getElem?_eq_getElem hi))
theorem wp_ixMT {Q : D → AH → Prop} {E : EX} {xs : List D} {i : Int} {h : AH} (h0 : 0 ≤ i) (h1 : i < xs.length) (q : ∀ d, xs[i.toNat]? = some d → Q d h) : wp (ixD (.tup xs) (.int i) h) Q E := by
  have hi : i.toNat < xs.length := by omega
  exact wp_ixT (by rw [atI_pos h0 h1]; exact List.getElem?_eq_getElem hi) (q _ (List.getElem?_eq_getElem hi))
/-! ### comprehensions over a list, each part told by its number -/
theorem mapIdx_of {α : Type} (f : Nat → α → D) (P : α → Prop) : ∀ (acc : List D) (k : Nat), (∀ (i : Nat) (y : D), acc[i]? = some y → ∃ a, y = f (k + i) a ∧ P a) → ∃ as : List α, acc = as.mapIdx (fun i a => f (k + i) a) ∧ ∀ a ∈ as, P a
  | [], k, _ => ⟨[], rfl, fun a h => by cases h⟩
  | y :: r, k, h => by
    obtain ⟨a, e, p⟩ := h 0 y rfl
    obtain ⟨as, e2, p2⟩ := mapIdx_of f P r (k + 1) fun i z ez => by
      obtain ⟨b, e3, p3⟩ := h (i + 1) z (by simpa using ez)
      exact ⟨b, by rw [e3]; congr 1; omega, p3⟩
    refine ⟨a :: as, ?_, fun b hb => ?_⟩
    · rw [List.mapIdx_cons, e, e2]
      congr 1
      apply List.ext_getElem?
      intro i
      simp only [List.getElem?_mapIdx]
      cases as[i]? with
      | none => rfl
      | some b => exact congrArg some (by show f (k + 1 + i) b = f (k + (i + 1)) b; rw [show k + 1 + i = k + (i + 1) by omega])
    · rcases List.mem_cons.mp hb with rfl | hb
      · exact p
      · exact p2 b hb
theorem map_of {α : Type} (f : α → D) (P : α → Prop) (acc : List D) (h : ∀ (i : Nat) (y : D), acc[i]? = some y → ∃ a, y = f a ∧ P a) : ∃ as : List α, acc = as.map f ∧ ∀ a ∈ as, P a := by
  obtain ⟨as, e, p⟩ := mapIdx_of (fun _ a => f a) P acc 0 h
  exact ⟨as, by rw [e]; apply List.ext_getElem?; intro i; rw [List.getElem?_mapIdx, List.getElem?_map], p⟩
theorem wp_zipT {Q : D → AH → Prop} {E : EX} {k : Bool} {elt : ED} {tg : Tg} {δ : Sl} {xs ys : List D} {h : AH} (P : Nat → AH → Prop) (hl : xs.length = ys.length) (p : P 0 h)
    (hs : ∀ i x y h, xs[i]? = some x → ys[i]? = some y → P i h → ∃ δ1, asgT tg (.tup [x, y]) δ = some δ1 ∧ wp (elt δ1 h) (fun d h => ∃ b, d = .bl b ∧ (b = k → Q (.bl k) h) ∧ (b ≠ k → P (i + 1) h)) noE)
    (he : ∀ h, P xs.length h → Q (.bl (!k)) h) : wp (gxG k elt tg (.zip (.items xs) (.items ys)) δ (cntI (.zip (.items xs) (.items ys)) h) 0 h) Q E := by
  have hz : ∀ i, (List.zipWith (fun a b => D.tup [a, b]) xs ys)[i]? = match xs[i]?, ys[i]? with | some x, some y => some (D.tup [x, y]) | _, _ => none := fun i => by
    rw [List.getElem?_zipWith]
    cases xs[i]? <;> cases ys[i]? <;> rfl
  have hll : (List.zipWith (fun a b => D.tup [a, b]) xs ys).length = xs.length := by rw [List.length_zipWith]; omega
  refine wp_gxG (xs := List.zipWith (fun a b => D.tup [a, b]) xs ys) P (fun i h hi p => ?_) (fun i x h hx p => ?_) (by rw [hll]; exact he) _ 0 _ (Nat.zero_le _) (by simp only [cntI, sgAt, Option.getD_some]; omega) p
  · rw [hll] at hi
    simp only [nxtI, sgAt, if_pos (⟨hi, by omega⟩ : i ≤ xs.length ∧ i ≤ ys.length), hz]
    cases e1 : xs[i]? <;> cases e2 : ys[i]? <;> rfl
  · rw [hz] at hx
    cases e1 : xs[i]? with
    | none => rw [e1] at hx; cases hx
    | some a =>
      cases e2 : ys[i]? with
      | none => rw [e1, e2] at hx; cases hx
      | some b =>
        rw [e1, e2] at hx
        cases hx
        exact hs i a b h e1 e2 p
end Cod

/-! # middle code as Lean data -/
namespace Cod
open PySem L2
inductive Opn where
  | n (w : Int)
  | r (k : Int)
inductive Ins where
  | copy (p g : Int) (o : Opn)
  | make (p g : Int) (op : Str) (a b : Opn)
  | load (p g : Int) (row : Str) (i : Opn)
  | store (p : Int) (row : Str) (i o : Opn)
  | ask (p g : Int)
  | tell (p : Int) (o : Opn)
  | call (p g : Int) (f : Str) (os : List Opn)
inductive Fin' where
  | go (k : Int)
  | fork (o : Opn) (a b : Int)
  | give (o : Opn)
structure Blk where
  ins : List Ins
  fin : Fin'
structure Fun' where
  name : Str
  par : Int
  size : Int
  blocks : List Blk
structure Unt where
  rows : List (Str × Int)
  funs : List Fun'
noncomputable def opnD : Opn → D
  | .n w => .tup [.str "n", .int w]
  | .r k => .tup [.str "r", .int k]
noncomputable def insD : Ins → D
  | .copy p g o => .tup [.str "copy", .int p, .int g, opnD o]
  | .make p g op a b => .tup [.str "make", .int p, .int g, .str op, opnD a, opnD b]
  | .load p g row i => .tup [.str "load", .int p, .int g, .str row, opnD i]
  | .store p row i o => .tup [.str "store", .int p, .str row, opnD i, opnD o]
  | .ask p g => .tup [.str "ask", .int p, .int g]
  | .tell p o => .tup [.str "tell", .int p, opnD o]
  | .call p g f os => .tup [.str "call", .int p, .int g, .str f, .tup (os.map opnD)]
noncomputable def finD : Fin' → D
  | .go k => .tup [.str "go", .int k]
  | .fork o a b => .tup [.str "fork", opnD o, .int a, .int b]
  | .give o => .tup [.str "give", opnD o]
noncomputable def blkD (b : Blk) : D := .tup [.tup (b.ins.map insD), finD b.fin]
noncomputable def funD (f : Fun') : D := .tup [.str f.name, .int f.par, .int f.size, .tup (f.blocks.map blkD)]
noncomputable def rowD (p : Str × Int) : D := .tup [.str p.1, .int p.2]
noncomputable def untD (u : Unt) : D := .tup [.tup (u.rows.map rowD), .tup (u.funs.map funD)]
noncomputable def opS : List Str := ["add", "sub", "mul", "less", "same", "and", "or", "xor", "div", "rem"]
noncomputable def WdI (w : Int) : Prop := -2147483648 ≤ w ∧ w ≤ 2147483647
noncomputable def Opn.ok (size : Int) : Opn → Prop
  | .n w => WdI w
  | .r k => 0 ≤ k ∧ k < size
noncomputable def Ins.ok (rows : List (Str × Int)) (known : List (Str × Int)) (size : Int) : Ins → Prop
  | .copy p g o => (0 ≤ p ∧ p < 1000) ∧ (0 ≤ g ∧ g < size) ∧ o.ok size
  | .make p g op a b => (0 ≤ p ∧ p < 1000) ∧ (0 ≤ g ∧ g < size) ∧ op ∈ opS ∧ a.ok size ∧ b.ok size
  | .load p g row i => (0 ≤ p ∧ p < 1000) ∧ (0 ≤ g ∧ g < size) ∧ row ∈ rows.map (·.1) ∧ i.ok size
  | .store p row i o => (0 ≤ p ∧ p < 1000) ∧ row ∈ rows.map (·.1) ∧ i.ok size ∧ o.ok size
  | .ask p g => (0 ≤ p ∧ p < 1000) ∧ (0 ≤ g ∧ g < size)
  | .tell p o => (0 ≤ p ∧ p < 1000) ∧ o.ok size
  | .call p g f os => (0 ≤ p ∧ p < 1000) ∧ (0 ≤ g ∧ g < size) ∧ (f, (os.length : Int)) ∈ known ∧ (∀ o ∈ os, o.ok size)
noncomputable def Fin'.ok (n : Int) (size : Int) (lo : Int) : Fin' → Prop
  | .go k => lo ≤ k ∧ k < n
  | .fork o a b => o.ok size ∧ (lo ≤ a ∧ a < n) ∧ (lo ≤ b ∧ b < n)
  | .give o => o.ok size
structure Fun'.ok (rows known : List (Str × Int)) (fw : Bool) (f : Fun') : Prop where
  par0 : 0 ≤ f.par
  par1 : f.par ≤ 2
  size0 : f.par ≤ f.size
  size1 : 1 ≤ f.size
  size2 : f.size ≤ 5
  blk0 : 1 ≤ f.blocks.length
  blk1 : f.blocks.length ≤ 6
  ins : ∀ b ∈ f.blocks, b.ins.length ≤ 4 ∧ ∀ i ∈ b.ins, i.ok rows known f.size
  fin : ∀ (k : Nat) (b : Blk), f.blocks[k]? = some b → b.fin.ok f.blocks.length f.size (if fw = true then (k : Int) + 1 else 0)
/-- each function knows those ahead of it -/
noncomputable def funsOk (rows : List (Str × Int)) (fw : Bool) : List (Str × Int) → List Fun' → Prop
  | _, [] => True
  | known, f :: r => f.ok rows known fw ∧ funsOk rows fw (known ++ [(f.name, f.par)]) r
structure Unt.ok (fw : Bool) (u : Unt) : Prop where
  rows : u.rows.map (·.1) = (["a", "bb"] : List Str).take u.rows.length
  rlen : u.rows.length ≤ 2
  sizes : ∀ p ∈ u.rows, 1 ≤ p.2 ∧ p.2 ≤ 4
  names : ∃ m : Nat, m ≤ 2 ∧ u.funs.map (·.name) = (["f", "gh"] : List Str).take m ++ (["main"] : List Str)
  main : ∀ f, u.funs.getLast? = some f → f.par = 0
  funs : funsOk u.rows fw [] u.funs
theorem funsOk_app {rows : List (Str × Int)} {fw : Bool} : ∀ {fs : List Fun'} {known : List (Str × Int)} {f : Fun'}, funsOk rows fw known fs → f.ok rows (known ++ fs.map fun g => (g.name, g.par)) fw → funsOk rows fw known (fs ++ [f])
  | [], known, f, _, h => ⟨by simpa using h, trivial⟩
  | g :: r, known, f, h, hf => by
    refine ⟨h.1, funsOk_app h.2 ?_⟩
    simpa using hf
theorem Fun'.ok.mem {rows : List (Str × Int)} {fw : Bool} : ∀ {fs : List Fun'} {known : List (Str × Int)}, funsOk rows fw known fs → ∀ f ∈ fs, ∃ kn, f.ok rows kn fw
  | [], _, _, f, h => by cases h
  | g :: r, known, h, f, hf => by
    rcases List.mem_cons.mp hf with rfl | hf
    · exact ⟨known, h.1⟩
    · exact Fun'.ok.mem h.2 f hf
theorem Fun'.ok.mem2 {rows : List (Str × Int)} {fw : Bool} : ∀ {fs : List Fun'} {known : List (Str × Int)}, (∀ p ∈ known, 0 ≤ p.2 ∧ p.2 ≤ 2) → funsOk rows fw known fs → ∀ f ∈ fs, ∃ kn : List (Str × Int), (∀ p ∈ kn, 0 ≤ p.2 ∧ p.2 ≤ 2) ∧ f.ok rows kn fw
  | [], _, _, _, f, h => by cases h
  | g :: r, known, hk, h, f, hf => by
    rcases List.mem_cons.mp hf with rfl | hf
    · exact ⟨known, hk, h.1⟩
    · refine Fun'.ok.mem2 (fun p hp => ?_) h.2 f hf
      rw [List.mem_append] at hp
      rcases hp with hp | hp
      · exact hk p hp
      · have : p = (g.name, g.par) := by simpa using hp
        subst this
        exact ⟨h.1.par0, h.1.par1⟩
theorem wp_zero {Q : D → AH → Prop} {E : EX} {h : AH} {i : Int} (q : Q (.bl (i == 0)) h) : wp (eqD (.int i) (.int 0) h) Q E := wp_eq (eqB_int _ _ _) q
/-! ### parts of instructions -/
noncomputable def word : Ins → Str
  | .copy .. => "copy"
  | .make .. => "make"
  | .load .. => "load"
  | .store .. => "store"
  | .ask .. => "ask"
  | .tell .. => "tell"
  | .call .. => "call"
noncomputable def itI : Ins → List D
  | .copy p g o => [.str "copy", .int p, .int g, opnD o]
  | .make p g op a b => [.str "make", .int p, .int g, .str op, opnD a, opnD b]
  | .load p g row i => [.str "load", .int p, .int g, .str row, opnD i]
  | .store p row i o => [.str "store", .int p, .str row, opnD i, opnD o]
  | .ask p g => [.str "ask", .int p, .int g]
  | .tell p o => [.str "tell", .int p, opnD o]
  | .call p g f os => [.str "call", .int p, .int g, .str f, .tup (os.map opnD)]
theorem insD_it (i : Ins) : insD i = .tup (itI i) := by cases i <;> rfl
noncomputable def srcs : Ins → List Opn
  | .copy _ _ o => [o]
  | .make _ _ _ a b => [a, b]
  | .load _ _ _ i => [i]
  | .store _ _ i o => [i, o]
  | .ask _ _ => []
  | .tell _ o => [o]
  | .call _ _ _ os => os
noncomputable def tgt : Ins → Option Int
  | .copy _ g _ => some g
  | .make _ g _ _ _ => some g
  | .load _ g _ _ => some g
  | .store .. => none
  | .ask _ g => some g
  | .tell .. => none
  | .call _ g _ _ => some g
noncomputable def intO : Option Int → D
  | some i => .int i
  | none => .non
noncomputable def withS : Ins → List Opn → Ins
  | .copy p g _, [o] => .copy p g o
  | .make p g op _ _, [a, b] => .make p g op a b
  | .load p g row _, [i] => .load p g row i
  | .store p row _ _, [i, o] => .store p row i o
  | .tell p _, [o] => .tell p o
  | .call p g f _, os => .call p g f os
  | i, _ => i
theorem withS_self (i : Ins) : withS i (srcs i) = i := by cases i <;> rfl
theorem srcs_withS {i : Ins} {os : List Opn} (h : os.length = (srcs i).length) : srcs (withS i os) = os := by
  cases i with
  | copy p g o => match os, h with | [a], _ => rfl
  | make p g op a b => match os, h with | [a, b], _ => rfl
  | load p g row o => match os, h with | [a], _ => rfl
  | store p row a b => match os, h with | [a, b], _ => rfl
  | ask p g => match os, h with | [], _ => rfl
  | tell p o => match os, h with | [a], _ => rfl
  | call p g f l => rfl
theorem srcs_few {rows kn : List (Str × Int)} {size : Int} {i : Ins} (hk : ∀ p ∈ kn, 0 ≤ p.2 ∧ p.2 ≤ 2) (h : i.ok rows kn size) : (srcs i).length ≤ 2 := by
  cases i with
  | call p g f os => have := hk _ h.2.2.1; show os.length ≤ 2; simp at this; omega
  | copy p g o => exact Nat.le_of_ble_eq_true rfl
  | make p g op x y => exact Nat.le_refl _
  | load p g row x => exact Nat.le_of_ble_eq_true rfl
  | store p row x y => exact Nat.le_refl _
  | ask p g => exact Nat.le_of_ble_eq_true rfl
  | tell p x => exact Nat.le_of_ble_eq_true rfl
noncomputable def gls : Fin' → List Int
  | .go k => [k]
  | .fork _ a b => [a, b]
  | .give _ => []
noncomputable def eSrc : Fin' → List Opn
  | .go _ => []
  | .fork o _ _ => [o]
  | .give o => [o]
noncomputable def withE : Fin' → Opn → Fin'
  | .go k, _ => .go k
  | .fork _ a b, o => .fork o a b
  | .give _, o => .give o
noncomputable def withG : Fin' → List Int → Fin'
  | .go _, [k] => .go k
  | .fork o _ _, [a, b] => .fork o a b
  | f, _ => f
noncomputable def mv : Opn → Opn
  | .r k => .r (k + 100)
  | .n _ => .n 7
theorem at_off {α : Type} (h xs : List α) (j : Nat) : (h ++ xs)[h.length + j]? = xs[j]? := by rw [List.getElem?_append_right (by omega)]; congr 1; omega
theorem set_off {α : Type} (h xs : List α) (x y : α) : (h ++ x :: xs).set h.length y = h ++ y :: xs := by simp
theorem opn_ok (k : Nat) (o : Opn) : okD (k + 2) (opnD o) = true := by cases o <;> rfl
theorem opns_ok (k : Nat) : ∀ os : List Opn, (os.map opnD).all (okD (k + 2)) = true
  | [] => rfl
  | o :: r => by rw [List.map_cons, List.all_cons, opn_ok k o, opns_ok k r]; rfl
theorem ins_ok (k : Nat) (i : Ins) : okD (k + 4) (insD i) = true := by
  cases i with
  | call p g f os =>
    show (okD (k + 3) (.str "call") && (okD (k + 3) (.int p) && (okD (k + 3) (.int g) && (okD (k + 3) (.str f) && ((os.map opnD).all (okD (k + 2)) && true))))) = true
    rw [opns_ok k os]; rfl
  | copy p g o => cases o <;> rfl
  | make p g op a b => cases a <;> cases b <;> rfl
  | load p g row o => cases o <;> rfl
  | store p row a b => cases a <;> cases b <;> rfl
  | ask p g => rfl
  | tell p o => cases o <;> rfl
theorem fin_ok (k : Nat) (f : Fin') : okD (k + 3) (finD f) = true := by
  cases f with
  | go k => rfl
  | fork o a b => cases o <;> rfl
  | give o => cases o <;> rfl
/-! ### displays of dicts, step by step -/
theorem wp_disp {Q : D → AH → Prop} {E : EX} {ps : List (ED × ED)} {δ : Sl} {h : AH} (p : wp (prs ps δ (h ++ [.dct []])) (fun kvs h2 => h2[h.length]? = some (.dct []) ∧ ∃ l, keysO kvs = some l ∧ l.length ≤ 15 ∧ Q (.loc h.length) (h2.set h.length (.dct (mergeD [] l)))) E) : wp (eDisp ps δ h) Q E := by
  unfold eDisp
  refine wp_bind (wp_imp p fun kvs h2 ⟨e1, l, e2, e3, q⟩ => ?_)
  simp only [e1, e2, if_pos e3]
  exact q
theorem wp_prs0 {Q : List (D × D) → AH → Prop} {E : EX} {δ : Sl} {h : AH} (q : Q [] h) : wp (prs [] δ h) Q E := q
theorem wp_prs {Q : List (D × D) → AH → Prop} {E : EX} {a b : ED} {r : List (ED × ED)} {δ : Sl} {h : AH} (p : wp (a δ h) (fun x h => wp (b δ h) (fun y h => wp (prs r δ h) (fun l h => Q ((x, y) :: l) h) E) E) E) : wp (prs ((a, b) :: r) δ h) Q E := by
  unfold prs
  exact wp_bind (wp_imp p fun x h p => wp_bind (wp_imp p fun y h p => wp_bind p))
end Cod

/-! # dicts from ints to lists -/
namespace Cod
open PySem L2
noncomputable abbrev Tr := Int × Nat × List D
noncomputable abbrev Ml := List (Int × List D)
noncomputable def kvT (T : List Tr) : List (Key × D) := T.map fun t => (Sum.inl t.1, D.loc t.2.1)
noncomputable def mT (T : List Tr) : Ml := T.map fun t => (t.1, t.2.2)
structure DO (g : AH) (b n : Nat) (T : List Tr) : Prop where
  at_ : g[n]? = some (.dct (kvT T))
  cell : ∀ t ∈ T, g[t.2.1]? = some (.lst t.2.2)
  keys : (T.map (·.1)).Nodup
  cells : (T.map (·.2.1)).Nodup
  low : ∀ t ∈ T, b ≤ t.2.1 ∧ t.2.1 ≠ n
noncomputable def hasM (M : Ml) (z : Int) : Bool := M.any fun p => decide (p.1 = z)
noncomputable def updM (M : Ml) (z : Int) (x : D) : Ml := if hasM M z = true then M.map (fun p => if p.1 = z then (p.1, p.2 ++ [x]) else p) else M ++ [(z, [x])]
theorem DO.stay {g g' : AH} {b n : Nat} {T : List Tr} (d : DO g b n T) (s : Stay g g') : DO g' b n T := ⟨s _ _ d.at_, fun t ht => s _ _ (d.cell t ht), d.keys, d.cells, d.low⟩
theorem DO.nil (g : AH) (b : Nat) : DO (g ++ [.dct []]) b g.length [] := ⟨newO _ _, fun t h => (by cases h), .nil, .nil, fun t h => (by cases h)⟩
theorem valT_some : ∀ {T : List Tr} {t : Tr}, (T.map (·.1)).Nodup → t ∈ T → valD (kvT T) (Sum.inl t.1 : Key) = some (.loc t.2.1)
  | [], t, _, h => by cases h
  | u :: r, t, hn, h => by
    rw [List.map_cons, List.nodup_cons] at hn
    unfold valD kvT
    rw [List.map_cons, List.find?_cons]
    rcases List.mem_cons.mp h with rfl | h
    · simp
    · have hne : u.1 ≠ t.1 := fun z => hn.1 (z ▸ List.mem_map_of_mem h)
      have e : decide ((Sum.inl u.1 : Key) = Sum.inl t.1) = false := by simp [hne]
      simp only [e]
      exact valT_some hn.2 h
theorem valT_none : ∀ {T : List Tr} {z : Int}, (∀ t ∈ T, t.1 ≠ z) → valD (kvT T) (Sum.inl z : Key) = none
  | [], z, _ => rfl
  | u :: r, z, h => by
    unfold valD kvT
    rw [List.map_cons, List.find?_cons]
    have e : decide ((Sum.inl u.1 : Key) = Sum.inl z) = false := by simp [h u (by simp)]
    simp only [e]
    exact valT_none fun t ht => h t (by simp [ht])
theorem has_iff (T : List Tr) (z : Int) : hasM (mT T) z = true ↔ ∃ t ∈ T, t.1 = z := by
  unfold hasM mT
  simp
theorem T_or (T : List Tr) (z : Int) : (∃ t ∈ T, t.1 = z) ∨ ∀ t ∈ T, t.1 ≠ z := by
  by_cases h : ∃ t ∈ T, t.1 = z
  · exact .inl h
  · exact .inr fun t ht e => h ⟨t, ht, e⟩
theorem put_new {T : List Tr} {z : Int} {c : Nat} {l : List D} (h : ∀ t ∈ T, t.1 ≠ z) : putD (kvT T) (Sum.inl z : Key) (.loc c) = kvT (T ++ [(z, c, l)]) := by
  unfold putD
  rw [if_neg]
  · unfold kvT; simp
  · simp only [kvT, List.any_map, List.any_eq_true, Function.comp_apply, decide_eq_true_eq, not_exists, not_and]
    intro t ht e
    exact h t ht (Sum.inl.inj e)
theorem put_old {T : List Tr} {z : Int} {c : Nat} {F : Tr → List D} (h : ∃ t ∈ T, t.1 = z) : putD (kvT T) (Sum.inl z : Key) (.loc c) = kvT (T.map fun t => if t.1 = z then (t.1, c, F t) else t) := by
  unfold putD
  rw [if_pos]
  · unfold kvT
    rw [List.map_map, List.map_map]
    apply List.map_congr_left
    intro t ht
    simp only [Function.comp_apply]
    by_cases e : t.1 = z
    · simp [e]
    · simp [e]
  · obtain ⟨t, ht, e⟩ := h
    simp only [kvT, List.any_map, List.any_eq_true, Function.comp_apply, decide_eq_true_eq]
    exact ⟨t, ht, by rw [e]⟩
theorem upd_new {T : List Tr} {z : Int} {c : Nat} {x : D} (h : ∀ t ∈ T, t.1 ≠ z) : mT (T ++ [(z, c, [x])]) = updM (mT T) z x := by
  unfold updM
  rw [if_neg]
  · unfold mT; simp
  · rw [has_iff]
    rintro ⟨t, ht, e⟩
    exact h t ht e
theorem upd_old {T : List Tr} {z : Int} {C : Tr → Nat} {x : D} (h : ∃ t ∈ T, t.1 = z) : mT (T.map fun t => if t.1 = z then (t.1, C t, t.2.2 ++ [x]) else t) = updM (mT T) z x := by
  unfold updM
  rw [if_pos ((has_iff T z).mpr h)]
  unfold mT
  rw [List.map_map, List.map_map]
  apply List.map_congr_left
  intro t ht
  simp only [Function.comp_apply]
  by_cases e : t.1 = z
  · simp [e]
  · simp [e]
theorem keys_old (T : List Tr) (z : Int) (C : Tr → Nat) (F : Tr → List D) : (T.map fun t => if t.1 = z then (t.1, C t, F t) else t).map (·.1) = T.map (·.1) := by
  rw [List.map_map]
  apply List.map_congr_left
  intro t ht
  simp only [Function.comp_apply]
  by_cases e : t.1 = z
  · simp [e]
  · simp [e]
theorem keys_new {T : List Tr} {z : Int} {c : Nat} {l : List D} (hk : (T.map (·.1)).Nodup) (h : ∀ t ∈ T, t.1 ≠ z) : ((T ++ [(z, c, l)]).map (·.1)).Nodup := by
  rw [List.map_append, List.nodup_append]
  refine ⟨hk, by simp, fun a ha b hb => ?_⟩
  obtain ⟨t, ht, rfl⟩ := List.mem_map.mp ha
  have : b = z := by simpa using hb
  rw [this]
  exact h t ht
theorem cells_new {T : List Tr} {z : Int} {c : Nat} {l : List D} (hk : (T.map (·.2.1)).Nodup) (h : ∀ t ∈ T, t.2.1 ≠ c) : ((T ++ [(z, c, l)]).map (·.2.1)).Nodup := by
  rw [List.map_append, List.nodup_append]
  refine ⟨hk, by simp, fun a ha b hb => ?_⟩
  obtain ⟨t, ht, rfl⟩ := List.mem_map.mp ha
  have : b = c := by simpa using hb
  rw [this]
  exact h t ht
theorem cells_old : ∀ {T : List Tr} {z : Int} {c : Nat} {F : Tr → List D}, (T.map (·.1)).Nodup → (T.map (·.2.1)).Nodup → (∀ t ∈ T, t.2.1 ≠ c) → ((T.map fun t => if t.1 = z then (t.1, c, F t) else t).map (·.2.1)).Nodup
  | [], z, c, F, _, _, _ => .nil
  | u :: r, z, c, F, hk, hc, h => by
    rw [List.map_cons, List.nodup_cons] at hk hc
    rw [List.map_cons, List.map_cons, List.nodup_cons]
    refine ⟨?_, cells_old hk.2 hc.2 fun t ht => h t (by simp [ht])⟩
    intro hm
    rw [List.map_map] at hm
    obtain ⟨t, ht, e⟩ := List.mem_map.mp hm
    simp only [Function.comp_apply] at e
    by_cases e1 : u.1 = z
    · have e2 : t.1 ≠ z := fun e2 => hk.1 (by rw [e1, ← e2]; exact List.mem_map_of_mem ht)
      rw [if_pos e1, if_neg e2] at e
      exact h t (by simp [ht]) e
    · rw [if_neg e1] at e
      by_cases e2 : t.1 = z
      · rw [if_pos e2] at e
        exact h u (by simp) e.symm
      · rw [if_neg e2] at e
        exact hc.1 (by rw [← e]; exact List.mem_map_of_mem ht)
theorem DO.ne {g : AH} {b n c : Nat} {T : List Tr} (d : DO g b n T) (hc : g.length ≤ c) : ∀ t ∈ T, t.2.1 ≠ c := fun t ht z => by
  have := (List.getElem?_eq_some_iff.mp (d.cell t ht)).1
  omega
theorem DO.ltn {g : AH} {b n : Nat} {T : List Tr} (d : DO g b n T) : n < g.length := (List.getElem?_eq_some_iff.mp d.at_).1
/-- `d[z] = c` with c a new list -/
theorem DO.put {g g' : AH} {b n c : Nat} {T : List Tr} {z : Int} {x : D} {l : List D} (d : DO g b n T) (s : Stay g g') (hb : b ≤ g.length) (hc : g.length ≤ c) (hl : g'[c]? = some (.lst (l ++ [x])))
    (ho : ∀ t ∈ T, t.1 = z → l = t.2.2) (hn : (∀ t ∈ T, t.1 ≠ z) → l = []) : ∃ T', DO (g'.set n (.dct (putD (kvT T) (Sum.inl z : Key) (.loc c)))) b n T' ∧ mT T' = updM (mT T) z x := by
  have d' := d.stay s
  have hcn : c ≠ n := by have := d.ltn; omega
  have hne := d.ne hc
  rcases T_or T z with h | h
  · refine ⟨T.map fun t => if t.1 = z then (t.1, c, t.2.2 ++ [x]) else t, ⟨?_, ?_, ?_, ?_, ?_⟩, upd_old h⟩
    · rw [List.getElem?_set_self d'.ltn, put_old h]
    · intro t ht
      obtain ⟨u, hu, rfl⟩ := List.mem_map.mp ht
      by_cases e : u.1 = z
      · rw [if_pos e]
        show (g'.set n _)[c]? = some (.lst (u.2.2 ++ [x]))
        rw [List.getElem?_set_ne (Ne.symm hcn), hl, ho u hu e]
      · rw [if_neg e, List.getElem?_set_ne (Ne.symm (d.low u hu).2)]
        exact d'.cell u hu
    · rw [keys_old]; exact d.keys
    · exact cells_old d.keys d.cells hne
    · intro t ht
      obtain ⟨u, hu, rfl⟩ := List.mem_map.mp ht
      by_cases e : u.1 = z
      · rw [if_pos e]; exact ⟨by show b ≤ c; omega, hcn⟩
      · rw [if_neg e]; exact d.low u hu
  · have hl' := hn h
    subst hl'
    refine ⟨T ++ [(z, c, [x])], ⟨?_, ?_, keys_new d.keys h, cells_new d.cells hne, ?_⟩, upd_new h⟩
    · rw [List.getElem?_set_self d'.ltn, put_new h]
    · intro t ht
      rw [List.mem_append] at ht
      rcases ht with ht | ht
      · rw [List.getElem?_set_ne (Ne.symm (d.low t ht).2)]
        exact d'.cell t ht
      · have : t = (z, c, [x]) := by simpa using ht
        subst this
        rw [List.getElem?_set_ne (Ne.symm hcn)]
        exact hl
    · intro t ht
      rw [List.mem_append] at ht
      rcases ht with ht | ht
      · exact d.low t ht
      · have : t = (z, c, [x]) := by simpa using ht
        subst this
        exact ⟨by show b ≤ c; omega, hcn⟩
/-- the list of z made longer in its place -/
theorem DO.grow {g : AH} {b n : Nat} {T : List Tr} {t : Tr} {x : D} (d : DO g b n T) (ht : t ∈ T) : ∃ T', DO (g.set t.2.1 (.lst (t.2.2 ++ [x]))) b n T' ∧ mT T' = updM (mT T) t.1 x := by
  have inj : ∀ u ∈ T, u.2.1 = t.2.1 → u = t := by
    intro u hu e
    have : ∀ {l : List Tr}, (l.map (·.2.1)).Nodup → u ∈ l → t ∈ l → u = t := by
      intro l
      induction l with
      | nil => intro _ h; cases h
      | cons a r ih =>
        intro hn h1 h2
        rw [List.map_cons, List.nodup_cons] at hn
        rcases List.mem_cons.mp h1 with rfl | h1 <;> rcases List.mem_cons.mp h2 with rfl | h2
        · rfl
        · exact absurd (e ▸ List.mem_map_of_mem (f := fun x : Tr => x.2.1) h2) hn.1
        · rename_i h1'
          exact absurd (e ▸ List.mem_map_of_mem (f := fun x : Tr => x.2.1) h1') hn.1
        · exact ih hn.2 h1 h2
    exact this d.cells hu ht
  have inj1 : ∀ u ∈ T, u.1 = t.1 → u = t := by
    intro u hu e
    have h1 := valT_some d.keys hu
    have h2 := valT_some d.keys ht
    rw [e, h2] at h1
    injection h1 with h1
    injection h1 with h1
    exact inj u hu h1.symm
  refine ⟨T.map fun u => if u.1 = t.1 then (u.1, u.2.1, u.2.2 ++ [x]) else u, ⟨?_, ?_, ?_, ?_, ?_⟩, upd_old ⟨t, ht, rfl⟩⟩
  · rw [List.getElem?_set_ne (d.low t ht).2, d.at_]
    congr 2
    unfold kvT
    rw [List.map_map]
    apply List.map_congr_left
    intro u hu
    simp only [Function.comp_apply]
    split <;> rfl
  · intro v hv
    obtain ⟨u, hu, rfl⟩ := List.mem_map.mp hv
    by_cases e : u.1 = t.1
    · rw [if_pos e]
      have := inj1 u hu e
      subst this
      exact List.getElem?_set_self (List.getElem?_eq_some_iff.mp (d.cell u hu)).1
    · rw [if_neg e, List.getElem?_set_ne]
      · exact d.cell u hu
      · intro z
        exact e (by rw [inj u hu z.symm])
  · rw [keys_old]; exact d.keys
  · have : (T.map fun u => if u.1 = t.1 then (u.1, u.2.1, u.2.2 ++ [x]) else u).map (·.2.1) = T.map (·.2.1) := by
      rw [List.map_map]
      apply List.map_congr_left
      intro u hu
      simp only [Function.comp_apply]
      split <;> rfl
    rw [this]
    exact d.cells
  · intro v hv
    obtain ⟨u, hu, rfl⟩ := List.mem_map.mp hv
    have := d.low u hu
    split <;> exact this
structure WB (M : Ml) (c : Nat) : Prop where
  few : M.length ≤ c
  short : ∀ p ∈ M, p.2.length ≤ c
  ok : ∀ p ∈ M, ∀ x ∈ p.2, okD 3 x = true
theorem WB.nil : WB [] 0 := ⟨Nat.le_refl _, fun p h => (by cases h), fun p h => (by cases h)⟩
theorem WB.mono {M : Ml} {c c' : Nat} (w : WB M c) (h : c ≤ c') : WB M c' := ⟨Nat.le_trans w.few h, fun p hp => Nat.le_trans (w.short p hp) h, w.ok⟩
theorem WB.upd {M : Ml} {c : Nat} {z : Int} {x : D} (w : WB M c) (hx : okD 3 x = true) : WB (updM M z x) (c + 1) := by
  unfold updM
  split
  · refine ⟨by rw [List.length_map]; exact Nat.le_succ_of_le w.few, fun p hp => ?_, fun p hp y hy => ?_⟩ <;> obtain ⟨u, hu, rfl⟩ := List.mem_map.mp hp
    · have := w.short u hu
      split
      · simp; omega
      · omega
    · split at hy
      · simp only [List.mem_append, List.mem_singleton] at hy
        rcases hy with hy | rfl
        · exact w.ok u hu y hy
        · exact hx
      · exact w.ok u hu y hy
  · refine ⟨by simp; exact w.few, fun p hp => ?_, fun p hp y hy => ?_⟩ <;> rw [List.mem_append] at hp <;> rcases hp with hp | hp
    · have := w.short p hp; omega
    · have : p = (z, [x]) := by simpa using hp
      subst this
      simp
    · exact w.ok p hp y hy
    · have : p = (z, [x]) := by simpa using hp
      subst this
      have : y = x := by simpa using hy
      subst this
      exact hx
theorem mT_len (T : List Tr) : (mT T).length = T.length := by unfold mT; simp
theorem kvT_len (T : List Tr) : (kvT T).length = T.length := by unfold kvT; simp
theorem WB.mem {T : List Tr} {c : Nat} (w : WB (mT T) c) {t : Tr} (ht : t ∈ T) : t.2.2.length ≤ c ∧ ∀ x ∈ t.2.2, okD 3 x = true := by
  have hm : (t.1, t.2.2) ∈ mT T := List.mem_map_of_mem (f := fun t : Tr => (t.1, t.2.2)) ht
  exact ⟨w.short _ hm, w.ok _ hm⟩
theorem eqB_DO {g : AH} {b b' n n' c : Nat} {T T' : List Tr} (d : DO g b n T) (d' : DO g b' n' T') (e : mT T = mT T') (w : WB (mT T) c) : eqB g (.loc n) (.loc n') = some true := by
  refine eqB_dicts d.at_ d'.at_ (by rw [kvT_len, kvT_len, ← mT_len, e, mT_len]) fun k v hm => ?_
  obtain ⟨t, ht, ek⟩ := List.mem_map.mp hm
  cases ek
  have hm' : (t.1, t.2.2) ∈ mT T' := by rw [← e]; exact List.mem_map_of_mem (f := fun t : Tr => (t.1, t.2.2)) ht
  obtain ⟨t', ht', ee⟩ := List.mem_map.mp hm'
  injection ee with e1 e2
  refine ⟨.loc t'.2.1, by rw [← e1]; exact valT_some d'.keys ht', ?_⟩
  refine eqX_lists (k := 58) (xs := t.2.2) (lstAt_lst (d.cell t ht)) (lstAt_lst (by rw [← e2]; exact d'.cell t' ht')) fun x hx => ?_
  exact eqX_refl g 3 58 x (Nat.le_of_ble_eq_true rfl) ((w.mem ht).2 x hx)
theorem foldl_take {α β : Type} {f : β → α × Nat → β} {l : List α} {j : Nat} {a : α} {M : β} (h : l[j]? = some a) : (l.take (j + 1)).zipIdx.foldl f M = f ((l.take j).zipIdx.foldl f M) (a, j) := by
  have hj := (List.getElem?_eq_some_iff.mp h).1
  rw [List.take_add_one, h, List.zipIdx_append, List.foldl_append]
  simp
  congr 2
  omega
theorem memF_ints (x : Int) : ∀ l : List Int, memF (.int x) (l.map D.int) = decide (x ∈ l)
  | [] => by simp [memF]
  | y :: r => by
    have ih := memF_ints x r
    unfold memF at ih ⊢
    rw [List.map_cons, List.any_cons, ih]
    by_cases h : y = x
    · simp [eqF, h]
    · simp [eqF, h, Ne.symm h]
theorem ints_flat (l : List Int) : (l.map D.int).all flatD = true := by simp [flatD]
theorem isTy_l {h : AH} {n : Nat} {xs : List D} (e : h[n]? = some (.lst xs)) : isTy "list" h (.loc n) = true := by
  unfold isTy
  simp only [e]
  rfl
theorem isTy_d {h : AH} {n : Nat} {ks : List (Key × D)} (e : h[n]? = some (.dct ks)) : isTy "dict" h (.loc n) = true := by
  unfold isTy
  simp only [e]
  rfl
theorem wp_dsetO {Q : D → AH → Prop} {E : EX} {n : Nat} {kvs : List (Key × D)} {e v z : D} {k : Key} {h : AH} (e0 : h[n]? = some (.dct kvs)) (ek : keyOf e = some k) (hz : kvs.length < lim) (ev : valD kvs k = some v) (q : Q v h) : wp (dsetD (.loc n) [e, z] h) Q E := by
  unfold dsetD dctAt
  simp only [e0, ek, if_pos hz, ev]
  exact q
theorem wp_dsetN {Q : D → AH → Prop} {E : EX} {n : Nat} {kvs : List (Key × D)} {e z : D} {k : Key} {h : AH} (e0 : h[n]? = some (.dct kvs)) (ek : keyOf e = some k) (hz : kvs.length < lim) (ev : valD kvs k = none) (q : Q z (h.set n (.dct (putD kvs k z)))) : wp (dsetD (.loc n) [e, z] h) Q E := by
  unfold dsetD dctAt
  simp only [e0, ek, if_pos hz, ev]
  exact q
end Cod

/-! # comprehensions of two clauses, told by functions -/
namespace Cod
open PySem L2
section
variable {E : EX} {elt : ED} {test test1 : BD} {tg tg1 : Tg} {it : Itg} {M : Nat}
theorem lcN_F {δ : Sl} {xs : List D} {h2 : AH} (f : D → D) (p : D → Bool) (hn : ∀ i h, St1 M h2 h → nxtI it i h = some xs[i]?)
    (hs : ∀ (j : Nat) (y : D) (h : AH), xs[j]? = some y → St1 M h2 h → ∃ δ2, asgT tg y δ = some δ2 ∧ wp (test δ2 h) (fun b h3 => b = p y ∧ Stay h h3 ∧ (b = true → wp (elt δ2 h3) (fun z h' => z = f y ∧ Stay h3 h') noE)) noE) :
    ∀ n i h acc, i ≤ xs.length → xs.length ≤ i + n → St1 M h2 h → h[M]? = some (.lst acc) → acc.length + (xs.length - i) ≤ lim → ∃ h', lcN elt test tg it M δ n i h = some h' ∧ St1 M h2 h' ∧ h'[M]? = some (.lst (acc ++ ((xs.drop i).filter p).map f))
  | 0, i, h, acc, h1, hc, s, hM, hz => by
    have e : i = xs.length := by omega
    subst e
    unfold lcN
    rw [hn _ h s, List.getElem?_eq_none (Nat.le_refl _)]
    exact ⟨h, rfl, s, by simpa using hM⟩
  | n + 1, i, h, acc, h1, hc, s, hM, hz => by
    unfold lcN
    rw [hn i h s]
    cases e : xs[i]? with
    | none =>
      have hi : xs.length ≤ i := List.getElem?_eq_none_iff.mp e
      have e' : i = xs.length := by omega
      subst e'
      exact ⟨h, rfl, s, by simpa using hM⟩
    | some x =>
      have hi : i < xs.length := (List.getElem?_eq_some_iff.mp e).1
      have hd : xs.drop i = x :: xs.drop (i + 1) := by
        rw [List.drop_eq_getElem_cons hi]
        congr 1
        exact (List.getElem?_eq_some_iff.mp e).2
      obtain ⟨δ2, ht, hb⟩ := hs i x h e s
      simp only [ht]
      obtain ⟨b, h3, et, eb, s3, hy⟩ := wp_get hb
      simp only [et]
      cases b with
      | false =>
        obtain ⟨h', e1, s1, q1⟩ := lcN_F f p hn hs n (i + 1) h3 acc (by omega) (by omega) (s.trans s3.st1) (s3 _ _ hM) (by omega)
        refine ⟨h', e1, s1, ?_⟩
        rw [q1, hd, List.filter_cons, if_neg (by rw [← eb]; decide)]
      | true =>
        obtain ⟨z, h4, ee, rfl, s4⟩ := wp_get (hy rfl)
        have hl : acc.length < lim := by omega
        have hM4 := s4 _ _ (s3 _ _ hM)
        simp only [ee, hM4, if_pos hl]
        obtain ⟨h', e1, s1, q1⟩ := lcN_F f p hn hs n (i + 1) (h4.set M (.lst (acc ++ [f x]))) (acc ++ [f x]) (by omega) (by omega) ((s.trans (s3.trans s4).st1).trans (St1.set _ _ _)) (List.getElem?_set_self (List.getElem?_eq_some_iff.mp hM4).1) (by simp; omega)
        refine ⟨h', e1, s1, ?_⟩
        rw [q1, hd, List.filter_cons, if_pos eb.symm]
        simp
theorem lc2G_F {δ : Sl} {vs1 : List Nat} {mi1 : ID} {xs : List D} {h0 : AH} (ys : D → List D) (f : D → D → D) (p : D → Bool) (p1 : D → D → Bool) (c : Nat) (hn : ∀ i h, St1 M h0 h → nxtI it i h = some xs[i]?) (hy : ∀ x ∈ xs, (ys x).length ≤ c)
    (hs : ∀ (i : Nat) (x : D) (h : AH), xs[i]? = some x → St1 M h0 h → M < h.length → ∃ δ1, asgT tg x δ = some δ1 ∧ wp (test δ1 h) (fun b h1 => b = p x ∧ Stay h h1 ∧ (b = true → wp (mi1 δ1 h1) (fun it1 h2 => Stay h1 h2 ∧ (ys x).length ≤ cntI it1 h2 ∧ (∀ i h, St1 M h2 h → nxtI it1 i h = some (ys x)[i]?) ∧
      ∀ (j : Nat) (y : D) (h : AH), (ys x)[j]? = some y → St1 M h2 h → ∃ δ2, asgT tg1 y (dwipe δ1 vs1) = some δ2 ∧ wp (test1 δ2 h) (fun b h3 => b = p1 x y ∧ Stay h h3 ∧ (b = true → wp (elt δ2 h3) (fun z h' => z = f x y ∧ Stay h3 h') noE)) noE) noE)) noE) :
    ∀ n i h acc, i ≤ xs.length → xs.length ≤ i + n → St1 M h0 h → h[M]? = some (.lst acc) → acc.length + (xs.length - i) * c ≤ lim → ∃ h', lc2G elt test test1 tg tg1 it mi1 M δ vs1 n i h = .ok (.loc M) h' ∧ St1 M h0 h' ∧ h'[M]? = some (.lst (acc ++ ((xs.drop i).filter p).flatMap fun x => ((ys x).filter (p1 x)).map (f x)))
  | 0, i, h, acc, h1, hc, s, hM, hz => by
    have e : i = xs.length := by omega
    subst e
    unfold lc2G
    rw [hn _ h s, List.getElem?_eq_none (Nat.le_refl _)]
    exact ⟨h, rfl, s, by simpa using hM⟩
  | n + 1, i, h, acc, h1, hc, s, hM, hz => by
    unfold lc2G
    rw [hn i h s]
    cases e : xs[i]? with
    | none =>
      have hi : xs.length ≤ i := List.getElem?_eq_none_iff.mp e
      have e' : i = xs.length := by omega
      subst e'
      exact ⟨h, rfl, s, by simpa using hM⟩
    | some x =>
      have hi : i < xs.length := (List.getElem?_eq_some_iff.mp e).1
      have hd : xs.drop i = x :: xs.drop (i + 1) := by
        rw [List.drop_eq_getElem_cons hi]
        congr 1
        exact (List.getElem?_eq_some_iff.mp e).2
      have hyx := hy x (List.mem_of_getElem? e)
      have hmul : (xs.length - i) * c = (xs.length - (i + 1)) * c + c := by
        rw [show xs.length - i = (xs.length - (i + 1)) + 1 by omega, Nat.succ_mul]
      obtain ⟨δ1, ht, hb⟩ := hs i x h e s (List.getElem?_eq_some_iff.mp hM).1
      simp only [ht]
      obtain ⟨b, h3, et, eb, s3, hw⟩ := wp_get hb
      simp only [et]
      cases b with
      | false =>
        obtain ⟨h', e1, s1, q1⟩ := lc2G_F ys f p p1 c hn hy hs n (i + 1) h3 acc (by omega) (by omega) (s.trans s3.st1) (s3 _ _ hM) (by omega)
        refine ⟨h', e1, s1, ?_⟩
        rw [q1, hd, List.filter_cons, if_neg (by rw [← eb]; decide)]
      | true =>
        obtain ⟨it1, h4, ei, s4, hct, hn1, hs1⟩ := wp_get (hw rfl)
        obtain ⟨h5, e5, s5, q5⟩ := lcN_F (f x) (p1 x) hn1 hs1 (cntI it1 h4) 0 h4 acc (Nat.zero_le _) (by omega) (St1.refl _ _) (s4 _ _ (s3 _ _ hM)) (by omega)
        simp only [ei, e5]
        have hfl : ((List.drop 0 (ys x)).filter (p1 x)).length ≤ c := Nat.le_trans (List.length_filter_le _ _) (by simpa using hyx)
        obtain ⟨h', e1, s1, q1⟩ := lc2G_F ys f p p1 c hn hy hs n (i + 1) h5 _ (by omega) (by omega) ((s.trans (s3.trans s4).st1).trans s5) q5 (by rw [List.length_append, List.length_map]; omega)
        refine ⟨h', e1, s1, ?_⟩
        rw [q1, hd, List.filter_cons, if_pos eb.symm]
        simp
theorem wp_Lc2 {Q : D → AH → Prop} {mi mi1 : ID} {vs vs1 : List Nat} {δ : Sl} {h : AH} (p : wp (mi δ h) (fun it h => wp (lc2G elt test test1 tg tg1 it mi1 h.length (dwipe δ vs) vs1 (cntI it h) 0 (h ++ [.lst []])) Q E) E) : wp (eLc2 mi tg test mi1 tg1 test1 elt vs vs1 δ h) Q E := wp_bind p
theorem wp_lc2F {Q : D → AH → Prop} {mi1 : ID} {vs1 : List Nat} {δ : Sl} {h0 : AH} {xs : List D} {n : Nat} (ys : D → List D) (f : D → D → D) (p : D → Bool) (p1 : D → D → Bool) (c : Nat) (hc : xs.length ≤ n) (hn : ∀ i h, Stay h0 h → nxtI it i h = some xs[i]?) (hy : ∀ x ∈ xs, (ys x).length ≤ c) (hz : xs.length * c ≤ lim)
    (hs : ∀ (i : Nat) (x : D) (h : AH), xs[i]? = some x → Stay h0 h → h0.length < h.length → ∃ δ1, asgT tg x δ = some δ1 ∧ wp (test δ1 h) (fun b h1 => b = p x ∧ Stay h h1 ∧ (b = true → wp (mi1 δ1 h1) (fun it1 h2 => Stay h1 h2 ∧ (ys x).length ≤ cntI it1 h2 ∧ (∀ i h, St1 h0.length h2 h → nxtI it1 i h = some (ys x)[i]?) ∧
      ∀ (j : Nat) (y : D) (h : AH), (ys x)[j]? = some y → St1 h0.length h2 h → ∃ δ2, asgT tg1 y (dwipe δ1 vs1) = some δ2 ∧ wp (test1 δ2 h) (fun b h3 => b = p1 x y ∧ Stay h h3 ∧ (b = true → wp (elt δ2 h3) (fun z h' => z = f x y ∧ Stay h3 h') noE)) noE) noE)) noE)
    (he : ∀ h', h'[h0.length]? = some (.lst ((xs.filter p).flatMap fun x => ((ys x).filter (p1 x)).map (f x))) → Stay h0 h' → Q (.loc h0.length) h') :
    wp (lc2G elt test test1 tg tg1 it mi1 h0.length δ vs1 n 0 (h0 ++ [.lst []])) Q E := by
  have key : ∀ {h : AH}, St1 h0.length (h0 ++ [.lst []]) h → Stay h0 h := fun {h} s => (Stay.app h0 [.lst []]).st s (Nat.le_refl _)
  obtain ⟨h', e1, s1, q1⟩ := lc2G_F (elt := elt) (test := test) (test1 := test1) (tg := tg) (tg1 := tg1) (it := it) (M := h0.length) (δ := δ) (vs1 := vs1) (mi1 := mi1) (xs := xs) (h0 := h0 ++ [.lst []]) ys f p p1 c (fun i h s => hn i h (key s)) hy (fun i x h hx s hl => hs i x h hx (key s) hl) n 0 _ [] (Nat.zero_le _) (by omega) (St1.refl _ _) (by simp) (by simpa using hz)
  exact wp_of e1 (he h' (by simpa using q1) (key s1))
end
end Cod

/-! # lists of lists of ints -/
namespace Cod
open PySem L2
noncomputable abbrev Rw := Nat × List Int
structure LL (g : AH) (b e n : Nat) (T : List Rw) : Prop where
  at_ : g[n]? = some (.lst (T.map fun t => D.loc t.1))
  cell : ∀ t ∈ T, g[t.1]? = some (.lst (t.2.map D.int))
  nd : (T.map (·.1)).Nodup
  low : ∀ t ∈ T, b ≤ t.1 ∧ t.1 < e ∧ t.1 ≠ n
noncomputable def rws (T : List Rw) : List (List Int) := T.map (·.2)
theorem LL.nil (g : AH) (b e : Nat) : LL (g ++ [.lst []]) b e g.length [] := ⟨newO _ _, fun t h => (by cases h), .nil, fun t h => (by cases h)⟩
theorem LL.keep {g g' : AH} {b e n : Nat} {T : List Rw} (d : LL g b e n T) (hn : b ≤ n ∧ n < e) (s : ∀ m o, b ≤ m → m < e → g[m]? = some o → g'[m]? = some o) : LL g' b e n T :=
  ⟨s _ _ hn.1 hn.2 d.at_, fun t ht => s _ _ (d.low t ht).1 (d.low t ht).2.1 (d.cell t ht), d.nd, d.low⟩
theorem LL.stay {g g' : AH} {b e n : Nat} {T : List Rw} (d : LL g b e n T) (s : Stay g g') : LL g' b e n T := ⟨s _ _ d.at_, fun t ht => s _ _ (d.cell t ht), d.nd, d.low⟩
theorem LL.wide {g : AH} {b e e' n : Nat} {T : List Rw} (d : LL g b e n T) (h : e ≤ e') : LL g b e' n T := ⟨d.at_, d.cell, d.nd, fun t ht => ⟨(d.low t ht).1, by have := (d.low t ht).2.1; omega, (d.low t ht).2.2⟩⟩
theorem rws_len (T : List Rw) : (rws T).length = T.length := by unfold rws; simp
theorem LL.push {g g' : AH} {b e n c : Nat} {T : List Rw} {r : List Int} (d : LL g b e n T) (s : Stay g g') (hb : b ≤ c) (he : e ≤ c) (hn : n < c) (hc : g'[c]? = some (.lst (r.map D.int))) : LL (g'.set n (.lst ((T.map fun t => D.loc t.1) ++ [.loc c]))) b (c + 1) n (T ++ [(c, r)]) := by
  have hl : n < g'.length := (List.getElem?_eq_some_iff.mp (s _ _ d.at_)).1
  refine ⟨by rw [List.getElem?_set_self hl]; simp, fun t ht => ?_, ?_, fun t ht => ?_⟩
  · rw [List.mem_append] at ht
    rcases ht with ht | ht
    · rw [List.getElem?_set_ne (Ne.symm (d.low t ht).2.2)]
      exact s _ _ (d.cell t ht)
    · have : t = (c, r) := by simpa using ht
      subst this
      rw [List.getElem?_set_ne (by show n ≠ c; omega)]
      exact hc
  · rw [List.map_append, List.nodup_append]
    refine ⟨d.nd, by simp, fun x hx y hy => ?_⟩
    obtain ⟨t, ht, rfl⟩ := List.mem_map.mp hx
    have : y = c := by simpa using hy
    subst this
    have := (d.low t ht).2.1
    omega
  · rw [List.mem_append] at ht
    rcases ht with ht | ht
    · have := d.low t ht
      exact ⟨this.1, by omega, this.2.2⟩
    · have : t = (c, r) := by simpa using ht
      subst this
      exact ⟨hb, by show c < c + 1; omega, by show c ≠ n; omega⟩
theorem nodup_fst {T : List Rw} (h : (T.map (·.1)).Nodup) {t u : Rw} (ht : t ∈ T) (hu : u ∈ T) (e : t.1 = u.1) : t = u := by
  induction T with
  | nil => cases ht
  | cons a r ih =>
    rw [List.map_cons, List.nodup_cons] at h
    rcases List.mem_cons.mp ht with rfl | h1 <;> rcases List.mem_cons.mp hu with rfl | h2
    · rfl
    · exact absurd (e ▸ List.mem_map_of_mem (f := fun x : Rw => x.1) h2) h.1
    · exact absurd (e ▸ List.mem_map_of_mem (f := fun x : Rw => x.1) h1) h.1
    · exact ih h.2 h1 h2
theorem nodup_ix {T : List Rw} (h : (T.map (·.1)).Nodup) {i j : Nat} {t u : Rw} (hi : T[i]? = some t) (hj : T[j]? = some u) (e : t.1 = u.1) : i = j := by
  have h1 : i < (T.map (·.1)).length := by rw [List.length_map]; exact (List.getElem?_eq_some_iff.mp hi).1
  have h2 : j < (T.map (·.1)).length := by rw [List.length_map]; exact (List.getElem?_eq_some_iff.mp hj).1
  refine (List.getElem_inj (h₀ := h1) (h₁ := h2) h).mp ?_
  have e1 : (T.map (·.1))[i]? = some t.1 := by rw [List.getElem?_map, hi]; rfl
  have e2 : (T.map (·.1))[j]? = some u.1 := by rw [List.getElem?_map, hj]; rfl
  rw [(List.getElem?_eq_some_iff.mp e1).2, (List.getElem?_eq_some_iff.mp e2).2, e]
/-- a row made longer in its place -/
theorem LL.grow {g : AH} {b e n i : Nat} {T : List Rw} {t : Rw} {x : Int} (d : LL g b e n T) (hi : T[i]? = some t) : ∃ T', LL (g.set t.1 (.lst (t.2.map D.int ++ [.int x]))) b e n T' ∧ rws T' = (rws T).modify i (· ++ [x]) := by
  have ht := List.mem_of_getElem? hi
  have hm : ∀ {β : Type} (f : Rw → β), (∀ u, f (u.1, u.2 ++ [x]) = f u) → (T.modify i fun u => (u.1, u.2 ++ [x])).map f = T.map f := fun f hf => by
    apply List.ext_getElem?
    intro j
    rw [List.getElem?_map, List.getElem?_map, List.getElem?_modify]
    by_cases hj : i = j
    · simp only [hj, if_true]
      cases T[j]? with
      | none => rfl
      | some u => exact congrArg some (hf u)
    · simp only [hj, if_false]
      cases T[j]? <;> rfl
  have hmem : ∀ u ∈ (T.modify i fun u => (u.1, u.2 ++ [x])), (u = (t.1, t.2 ++ [x])) ∨ (u ∈ T ∧ u.1 ≠ t.1) := fun u hu => by
    obtain ⟨j, hj⟩ := List.mem_iff_getElem?.mp hu
    rw [List.getElem?_modify] at hj
    by_cases hij : i = j
    · subst hij
      rw [hi] at hj
      simp at hj
      exact .inl hj.symm
    · simp only [hij, if_false] at hj
      cases hv : T[j]? with
      | none => rw [hv] at hj; cases hj
      | some v =>
        rw [hv] at hj
        simp at hj
        subst hj
        exact .inr ⟨List.mem_of_getElem? hv, fun z => hij (nodup_ix d.nd hi hv z.symm)⟩
  refine ⟨T.modify i fun u => (u.1, u.2 ++ [x]), ⟨?_, fun u hu => ?_, ?_, fun u hu => ?_⟩, ?_⟩
  · rw [hm (fun t => D.loc t.1) fun _ => rfl, List.getElem?_set_ne (d.low t ht).2.2]
    exact d.at_
  · rcases hmem u hu with rfl | ⟨hu, hne⟩
    · rw [List.getElem?_set_self (List.getElem?_eq_some_iff.mp (d.cell t ht)).1]
      simp
    · rw [List.getElem?_set_ne (Ne.symm hne)]
      exact d.cell u hu
  · rw [hm (·.1) fun _ => rfl]
    exact d.nd
  · rcases hmem u hu with rfl | ⟨hu, hne⟩
    · exact d.low t ht
    · exact d.low u hu
  · unfold rws
    apply List.ext_getElem?
    intro j
    rw [List.getElem?_map, List.getElem?_modify, List.getElem?_modify, List.getElem?_map]
    by_cases hj : i = j
    · simp only [hj, if_true]
      cases T[j]? <;> rfl
    · simp only [hj, if_false]
      cases T[j]? <;> rfl
theorem eqB_LL {g : AH} {b e n b' e' n' : Nat} {T T' : List Rw} (d : LL g b e n T) (d' : LL g b' e' n' T') (he : rws T = rws T') : eqB g (.loc n) (.loc n') = some true := by
  refine eqB_each (lstAt_lst d.at_) (lstAt_lst d'.at_) (by rw [List.length_map, List.length_map, ← rws_len, he, rws_len]) fun i x y hx hy => ?_
  rw [List.getElem?_map, Option.map_eq_some_iff] at hx hy
  obtain ⟨t, ht, rfl⟩ := hx
  obtain ⟨u, hu, rfl⟩ := hy
  have h1 : (rws T)[i]? = some t.2 := by unfold rws; rw [List.getElem?_map, ht]; rfl
  have h2 : (rws T')[i]? = some u.2 := by unfold rws; rw [List.getElem?_map, hu]; rfl
  rw [he, h2] at h1
  have h1 : u.2 = t.2 := by simpa using h1
  refine eqX_lists (k := 58) (xs := t.2.map D.int) (lstAt_lst (d.cell t (List.mem_of_getElem? ht))) (lstAt_lst (by rw [← h1]; exact d'.cell u (List.mem_of_getElem? hu))) fun x hx => ?_
  obtain ⟨z, _, rfl⟩ := List.mem_map.mp hx
  exact eqX_refl g 1 58 _ (by omega) rfl
theorem wp_ixLL {Q : D → AH → Prop} {E : EX} {g : AH} {b e n : Nat} {T : List Rw} {i : Int} (d : LL g b e n T) (h0 : 0 ≤ i) (h1 : i < T.length) (q : ∀ t, T[i.toNat]? = some t → Q (.loc t.1) g) : wp (ixD (.loc n) (.int i) g) Q E := by
  refine wp_ixM (lstAt_lst d.at_) h0 (by rw [List.length_map]; exact h1) fun x hx => ?_
  rw [List.getElem?_map, Option.map_eq_some_iff] at hx
  obtain ⟨t, ht, rfl⟩ := hx
  exact q t ht
section
variable {Q : D → AH → Prop} {E : EX} {elt : ED} {tg : Tg} {δ : Sl} {xs : List D} {h0 : AH} {it : Itg}
/-- a list of lists told part by part -/
theorem wp_lcLL {n : Nat} (f : Nat → List Int) (hn : ∀ i h, Stay h0 h → nxtI it i h = some xs[i]?) (hc : xs.length ≤ n) (hz : xs.length ≤ lim)
    (hs : ∀ (i : Nat) (x : D) (h : AH), xs[i]? = some x → Stay h0 h → h0.length < h.length → ∃ δ1, asgT tg x δ = some δ1 ∧ wp (elt δ1 h) (fun y h' => ∃ c, y = .loc c ∧ h.length ≤ c ∧ h'[c]? = some (.lst ((f i).map D.int)) ∧ Stay h h') noE)
    (he : ∀ T h', LL h' h0.length h'.length h0.length T → rws T = (List.range xs.length).map f → Stay h0 h' → h0.length < h'.length → Q (.loc h0.length) h') :
    wp (lcG elt (fun _ h => .ok true h) tg it h0.length δ n 0 (h0 ++ [.lst []])) Q E := by
  refine wp_lcG (xs := xs) (fun i acc h => ∃ T, acc = T.map (fun t => D.loc t.1) ∧ LL h h0.length h.length h0.length T ∧ rws T = (List.range i).map f ∧ Stay h0 h ∧ h0.length < h.length) (fun i acc h _ ⟨_, _, _, _, s, _⟩ => hn i h s) hz (fun i x acc h hx q hM ha => ?_) (fun acc h ⟨T, e1, d, e2, s, hl⟩ hM ha => he T h d e2 s hl) _ 0 [] _ (Nat.zero_le _) (by omega) ⟨[], rfl, LL.nil _ _ _, rfl, Stay.app _ _, by simp⟩ (by simp) (Nat.zero_le _)
  obtain ⟨T, e1, d, e2, s, hl⟩ := q
  obtain ⟨δ1, e3, hw⟩ := hs i x h hx s hl
  refine ⟨δ1, e3, wp_tt (wif_t (wp_imp hw ?_))⟩
  rintro y h' ⟨c, rfl, hcl, hcc, s'⟩
  refine ⟨s' _ _ hM, T ++ [(c, f i)], ?_, ?_, ?_, (s.trans s').put (Nat.le_refl _), ?_⟩
  · rw [e1]; simp
  · rw [e1]
    have hcl' := (List.getElem?_eq_some_iff.mp hcc).1
    exact (d.push s' (by omega) hcl (by omega) hcc).wide (by rw [List.length_set]; omega)
  · rw [List.range_succ, List.map_append, ← e2]; unfold rws; simp
  · rw [List.length_set]; have := s'.len; omega
end
end Cod

/-! # what is to hold behind raise, try, and some more methods -/
namespace Cod
open PySem L2
section
variable {N B C : Sl → AH → Prop} {T : D → AH → Prop} {X : SX} {E : EX}
theorem ws_raise {c n : Nat} {fs : List (Str × Src)} {a : AD} {δ : Sl} {h : AH} (p : wp (a δ h) (fun ds h => ds.length = n ∧ ∃ gs, fldD ds fs [] = some gs ∧ X c gs δ h) fun c fs h => X c fs δ h) : ws (sRaise c n fs a δ h) N T B C X :=
  ws_thn (wp_imp p fun ds h ⟨e, gs, eg, q⟩ => by rw [if_pos e, eg]; exact q)
theorem ws_raise0 {c : Nat} {a : AD} {δ : Sl} {h : AH} (p : wp (a δ h) (fun ds h => ds.length ≤ 1000 ∧ X c [] δ h) fun c fs h => X c fs δ h) : ws (sRaise0 c a δ h) N T B C X :=
  ws_thn (wp_imp p fun ds h ⟨e, q⟩ => by rw [if_pos e]; exact q)
theorem ws_try {tab : List ((Nat × Nat) × Bool)} {xf : List (Nat × List Str)} {c i : Nat} {mb ms : SD} {δ : Sl} {h : AH}
    (p : ws (mb δ h) N T B C fun c' fs δ' h' => (∃ z, tab.lookup (c', c) = some true ∧ xf.lookup c' = some z ∧ ws (ms (δ'.set i (some (.loc h'.length))) (h' ++ [.exn c' fs])) (fun δ2 _ => N (δ2.set i none) (h' ++ [.ded])) (fun d _ => T d (h' ++ [.ded])) (fun δ2 _ => B (δ2.set i none) (h' ++ [.ded])) (fun δ2 _ => C (δ2.set i none) (h' ++ [.ded])) noX) ∨ (tab.lookup (c', c) = some false ∧ X c' fs δ' h')) : ws (sTry tab xf c i mb ms δ h) N T B C X := by
  unfold sTry
  cases e : mb δ h with
  | nx δ1 h1 => rw [e] at p; exact p
  | rt d1 h1 => rw [e] at p; exact p
  | bk δ1 h1 => rw [e] at p; exact p
  | ct δ1 h1 => rw [e] at p; exact p
  | no => rw [e] at p; exact p
  | ex c' fs δ1 h1 =>
    rw [e] at p
    rcases p with ⟨z, e1, e2, q⟩ | ⟨e1, q⟩
    · simp only [e1, e2]
      cases es : ms (δ1.set i (some (.loc h1.length))) (h1 ++ [.exn c' fs]) <;> rw [es] at q <;> exact q
    · simp only [e1]
      exact q
/-- the clauses of a try, one behind the other -/
noncomputable def gMp (tab : List ((Nat × Nat) × Bool)) (xf : List (Nat × List Str)) (N : Sl → AH → Prop) (T : D → AH → Prop) (B C : Sl → AH → Prop) (X : SX) (c' : Nat) (fs : List (Str × D)) (δ' : Sl) (h' : AH) : List (Nat × Option Nat × SD) → Prop
  | [] => X c' fs δ' h'
  | (c, j, ms) :: r => (∃ z, tab.lookup (c', c) = some true ∧ xf.lookup c' = some z ∧ ws (ms (setJ j h'.length δ') (h' ++ [.exn c' fs])) (fun δ2 _ => N (unsetJ j δ2) (h' ++ [.ded])) (fun d _ => T d (h' ++ [.ded])) (fun δ2 _ => B (unsetJ j δ2) (h' ++ [.ded])) (fun δ2 _ => C (unsetJ j δ2) (h' ++ [.ded])) noX) ∨
      (tab.lookup (c', c) = some false ∧ gMp tab xf N T B C X c' fs δ' h' r)
theorem ws_goM {tab : List ((Nat × Nat) × Bool)} {xf : List (Nat × List Str)} {c' : Nat} {fs : List (Str × D)} {δ' : Sl} {h' : AH} : ∀ {hs : List (Nat × Option Nat × SD)}, gMp tab xf N T B C X c' fs δ' h' hs → ws (goM tab xf c' fs δ' h' hs) N T B C X
  | [], p => p
  | (c, j, ms) :: r, p => by
    unfold goM
    rcases p with ⟨z, e1, e2, q⟩ | ⟨e1, q⟩
    · simp only [e1, e2]
      cases es : ms (setJ j h'.length δ') (h' ++ [.exn c' fs]) <;> rw [es] at q <;> exact q
    · simp only [e1]
      exact ws_goM q
theorem ws_tryM {tab : List ((Nat × Nat) × Bool)} {xf : List (Nat × List Str)} {mb : SD} {hs : List (Nat × Option Nat × SD)} {δ : Sl} {h : AH}
    (p : ws (mb δ h) N T B C fun c' fs δ' h' => gMp tab xf N T B C X c' fs δ' h' hs) : ws (sTryM tab xf mb hs δ h) N T B C X := by
  unfold sTryM
  cases e : mb δ h with
  | nx δ1 h1 => rw [e] at p; exact p
  | rt d1 h1 => rw [e] at p; exact p
  | bk δ1 h1 => rw [e] at p; exact p
  | ct δ1 h1 => rw [e] at p; exact p
  | no => rw [e] at p; exact p
  | ex c' fs δ1 h1 =>
    rw [e] at p
    exact ws_goM p
theorem wp_fldX {Q : D → AH → Prop} {n c : Nat} {fs : List (Str × D)} {f : Str} {d : D} {h : AH} (e : h[n]? = some (.exn c fs)) (e1 : fs.lookup f = some d) (q : Q d h) : wp (fldX f (.loc n) h) Q E := by
  unfold fldX
  simp only [e, e1, okO]
  exact q
theorem wp_isX {Q : D → AH → Prop} {tab : List ((Nat × Nat) × Bool)} {n c c2 : Nat} {fs : List (Str × D)} {b : Bool} {h : AH} (e : h[n]? = some (.exn c fs)) (e1 : tab.lookup (c, c2) = some b) (q : Q (.bl b) h) : wp (isX tab [.loc n, .cl c2] h) Q E := by
  unfold isX
  simp only [e, e1]
  exact q
theorem wp_isXV {Q : D → AH → Prop} {tab : List ((Nat × Nat) × Bool)} {n c : Nat} {fs : List (Str × D)} {h : AH} (e : h[n]? = some (.exn c fs)) (q : Q (.bl true) h) : wp (isX tab [.loc n, .ty "ValueError"] h) Q E := by
  unfold isX
  simp only [e, if_true]
  exact q
theorem wp_popAt {Q : D → AH → Prop} {n : Nat} {i : Int} {xs : List D} {y : D} {h : AH} (e : h[n]? = some (.lst xs)) (h0 : 0 ≤ i) (h1 : i < 1000000) (ey : xs[i.toNat]? = some y) (q : Q y (h.set n (.lst (xs.eraseIdx i.toNat)))) : wp (popAtD (.loc n) [.int i] h) Q E := by
  unfold popAtD
  simp only [e, ey]
  rw [if_pos (by simp [h0, h1])]
  exact q
theorem wp_pop0 {Q : D → AH → Prop} {n : Nat} {x : D} {r : List D} {h : AH} (e : h[n]? = some (.lst (x :: r))) (q : Q x (h.set n (.lst r))) : wp (popAtD (.loc n) [.int 0] h) Q E :=
  wp_popAt e (Int.le_refl _) (by decide) (y := x) rfl q
theorem wp_GI {Q : D → AH → Prop} {d : D} {a : AD} {δ : Sl} {h : AH} (p : wp (a δ h) (fun ds h => wp (idxD d ds h) Q E) E) : wp (eGI d a δ h) Q E := wp_bind p
theorem wp_idx {Q : D → AH → Prop} {xs : List D} {ys : List Str} {z : Str} {j : Nat} {h : AH} (e : txts xs = some ys) (ej : ys.findIdx? (fun y => decide (y = z)) = some j) (q : Q (.int (j : Nat)) h) : wp (idxD (.tup xs) [.str z] h) Q E := by
  unfold idxD
  simp only [e, ej]
  exact q
theorem wp_rv {Q : D → AH → Prop} {n : Nat} {xs : List D} {h : AH} (e : lstAt h n = some xs) (q : Q (.loc h.length) (h ++ [.lst xs.reverse])) : wp (rvD (.loc n) h) Q E := by
  rcases lstAt_or e with e0 | e0 <;> (unfold rvD; simp only [e0]; exact q)
theorem wp_mulL {Q : D → AH → Prop} {n : Nat} {k : Int} {xs : List D} {h : AH} (e : h[n]? = some (.lst xs)) (h0 : -1000000 ≤ k) (h1 : k ≤ 1000000) (hz : xs.length * k.toNat ≤ lim) (q : Q (.loc h.length) (h ++ [.lst (List.replicate k.toNat xs).flatten])) : wp (mulD (.loc n) (.int k) h) Q E := by
  unfold mulD
  simp only [e]
  rw [if_pos (by simp [h0, h1, hz])]
  exact wp_lst (by rw [List.length_flatten]; simp; rw [Nat.mul_comm]; exact hz) q
theorem ws_zipT {body : SD} {tg : Tg} {xs ys : List D} {δ : Sl} {h : AH} (P : Nat → Sl → AH → Prop) (hl : xs.length = ys.length) (p : P 0 δ h)
    (hs : ∀ i x y δ h, xs[i]? = some x → ys[i]? = some y → P i δ h → ∃ δ1, asgT tg (.tup [x, y]) δ = some δ1 ∧ ws (body δ1 h) (P (i + 1)) T N (P (i + 1)) X) (he : ∀ δ h, P xs.length δ h → N δ h) :
    ws (forG body tg (.zip (.items xs) (.items ys)) (cntI (.zip (.items xs) (.items ys)) h) 0 δ h) N T B C X := by
  have hz : ∀ i, (List.zipWith (fun a b => D.tup [a, b]) xs ys)[i]? = match xs[i]?, ys[i]? with | some x, some y => some (D.tup [x, y]) | _, _ => none := fun i => by
    rw [List.getElem?_zipWith]
    cases xs[i]? <;> cases ys[i]? <;> rfl
  have hll : (List.zipWith (fun a b => D.tup [a, b]) xs ys).length = xs.length := by rw [List.length_zipWith]; omega
  refine ws_forG (xs := List.zipWith (fun a b => D.tup [a, b]) xs ys) P (fun i δ h hi p => ?_) (fun i x δ h hx p => ?_) (by rw [hll]; exact he) _ 0 _ _ (Nat.zero_le _) (by simp only [cntI, sgAt, Option.getD_some]; omega) p
  · rw [hll] at hi
    simp only [nxtI, sgAt, if_pos (⟨hi, by omega⟩ : i ≤ xs.length ∧ i ≤ ys.length), hz]
    cases e1 : xs[i]? <;> cases e2 : ys[i]? <;> rfl
  · rw [hz] at hx
    cases e1 : xs[i]? with
    | none => rw [e1] at hx; cases hx
    | some a =>
      cases e2 : ys[i]? with
      | none => rw [e1, e2] at hx; cases hx
      | some b =>
        rw [e1, e2] at hx
        cases hx
        exact hs i a b δ h e1 e2 p
theorem wp_ifdiv {Q : D → AH → Prop} {i j : Int} {h : AH} (e0 : 0 < j) (e1 : j < 1073741824) (q : Q (.int (i / j)) h) : wp (ifdivD (.int i) (.int j) h) Q E := by
  unfold ifdivD
  simp only [if_pos (And.intro e0 e1)]
  exact q
theorem wp_inS {Q : D → AH → Prop} {neg : Bool} {c : Nat} {z : Str} {h : AH} (q : Q (.bl (xor neg (decide (c ∈ z.cps.toList)))) h) : wp (inD neg (.str ⟨#[c]⟩) (.str z) h) Q E := q
end
end Cod

/-! # == of data that may differ, rounds with what is kept on the heap -/
namespace Cod
open PySem L2
/-- ints, texts, None, and tuples of these, of a depth below k: what is equal is the same -/
noncomputable def okI : Nat → D → Bool
  | 0, _ => false
  | k + 1, d => match d with
    | .non => true
    | .int _ => true
    | .str _ => true
    | .tup xs => xs.all (okI k)
    | _ => false
theorem eqL_dec {f : D → D → Option Bool} : ∀ {xs ys : List D}, (∀ x ∈ xs, ∀ y ∈ ys, ∃ b, f x y = some b ∧ (b = true ↔ x = y)) → ∃ b, eqL f xs ys = some b ∧ (b = true ↔ xs = ys)
  | [], [], _ => ⟨true, rfl, by simp⟩
  | [], _ :: _, _ => ⟨false, rfl, by simp⟩
  | _ :: _, [], _ => ⟨false, rfl, by simp⟩
  | x :: xs, y :: ys, h => by
    obtain ⟨a, e1, i1⟩ := h x (by simp) y (by simp)
    obtain ⟨b, e2, i2⟩ := eqL_dec (xs := xs) (ys := ys) fun u hu v hv => h u (by simp [hu]) v (by simp [hv])
    refine ⟨a && b, by rw [eqL, e1, e2], ?_⟩
    rw [Bool.and_eq_true, i1, i2, List.cons.injEq]
theorem eqX_dec (h : AH) : ∀ (k m : Nat) (d e : D), k ≤ m → okI k d = true → okI k e = true → ∃ b, eqX m h d e = some b ∧ (b = true ↔ d = e)
  | 0, _, _, _, _, e, _ => by cases e
  | k + 1, 0, _, _, hm, _, _ => by omega
  | k + 1, m + 1, d, e, hm, h1, h2 => by
    have flat : ∀ {d e : D}, flatD d = true → flatD e = true → (eqF d e = true ↔ d = e) → ∃ b, eqX (m + 1) h d e = some b ∧ (b = true ↔ d = e) := fun {d e} a b c => ⟨_, eqX_flat a b, c⟩
    have fs : ∀ {d : D} {xs : List D}, flatD d = true → ∃ b, eqX (m + 1) h d (.tup xs) = some b ∧ (b = true ↔ d = .tup xs) := fun {d xs} a => ⟨false, by
      unfold eqX
      rw [a]
      rfl, by cases d <;> first | (cases a; done) | simp⟩
    have sf : ∀ {d : D} {xs : List D}, flatD d = true → ∃ b, eqX (m + 1) h (.tup xs) d = some b ∧ (b = true ↔ .tup xs = d) := fun {d xs} a => ⟨false, by
      unfold eqX
      rw [a]
      rfl, by cases d <;> first | (cases a; done) | simp⟩
    cases d with
    | non => cases e with
      | non => exact flat rfl rfl (by simp [eqF])
      | int j => exact flat rfl rfl (by simp [eqF])
      | str y => exact flat rfl rfl (by simp [eqF])
      | tup ys => exact fs rfl
      | _ => cases h2
    | int i => cases e with
      | non => exact flat rfl rfl (by simp [eqF])
      | int j => exact flat rfl rfl (by simp [eqF])
      | str y => exact flat rfl rfl (by simp [eqF])
      | tup ys => exact fs rfl
      | _ => cases h2
    | str x => cases e with
      | non => exact flat rfl rfl (by simp [eqF])
      | int j => exact flat rfl rfl (by simp [eqF])
      | str y => exact flat rfl rfl (by simp [eqF])
      | tup ys => exact fs rfl
      | _ => cases h2
    | tup xs => cases e with
      | non => exact sf rfl
      | int j => exact sf rfl
      | str y => exact sf rfl
      | tup ys =>
        have h1 : xs.all (okI k) = true := h1
        have h2 : ys.all (okI k) = true := h2
        rw [List.all_eq_true] at h1 h2
        obtain ⟨b, e1, i1⟩ := eqL_dec (f := eqX m h) (xs := xs) (ys := ys) fun x hx y hy => eqX_dec h k m x y (by omega) (h1 x hx) (h2 y hy)
        refine ⟨b, ?_, by rw [i1]; simp⟩
        unfold eqX
        simp only [flatD, sqOf, if_true]
        exact e1
      | _ => cases h2
    | _ => cases h1
theorem eqB_dec {h : AH} {d e : D} (h1 : okI 60 d = true) (h2 : okI 60 e = true) : ∃ b, eqB h d e = some b ∧ (b = true ↔ d = e) := by
  have e1 : dctAt h d = none := by cases d <;> first | rfl | cases h1
  unfold eqB
  rw [e1]
  exact eqX_dec h 60 60 d e (Nat.le_refl _) h1 h2
theorem okI_tup {k : Nat} {xs : List D} (h : ∀ x ∈ xs, okI k x = true) : okI (k + 1) (.tup xs) = true := by
  show xs.all (okI k) = true
  rw [List.all_eq_true]
  exact h
theorem okI_mono {k : Nat} : ∀ {d : D}, okI k d = true → okI (k + 1) d = true := by
  induction k with
  | zero => intro d h; cases h
  | succ k ih =>
    intro d h
    cases d with
    | tup xs =>
      have h : xs.all (okI k) = true := h
      show xs.all (okI (k + 1)) = true
      rw [List.all_eq_true] at h ⊢
      exact fun x hx => ih (h x hx)
    | non => rfl
    | int i => rfl
    | str x => rfl
    | _ => cases h
section
variable {N B C : Sl → AH → Prop} {T : D → AH → Prop} {X : SX}
theorem ws_roundsP {tg : Tg} {body : SD} {δ : Sl} {h : AH} {n : Nat} {ls : List Nat} (hr : Rounds h n ls) (P : Sl → AH → Prop) (hp : P δ h)
    (ht : ∀ l δ h, l ∈ ls → Rounds h n ls → P δ h → Dice h l → ∃ δ1, asgT tg (.loc l) δ = some δ1 ∧ ws (body δ1 h) (fun δ2 h2 => P δ2 h2 ∧ St1 l h h2 ∧ Dice h2 l) T (fun _ _ => False) (fun δ2 h2 => P δ2 h2 ∧ St1 l h h2 ∧ Dice h2 l) X)
    (he : ∀ δ h, P δ h → N δ h) : ws (forG body tg (.lst n) (cntI (.lst n) h) 0 δ h) N T B C X := by
  refine ws_list (xs := ls.map D.loc) (fun _ δ h => Rounds h n ls ∧ P δ h) (fun i δ h p => lstAt_lst p.1.at_) ⟨hr, hp⟩ (fun i x δ h hx ⟨pr, pp⟩ => ?_) fun δ h p => he δ h p.2
  rw [List.getElem?_map, Option.map_eq_some_iff] at hx
  obtain ⟨l, hl, rfl⟩ := hx
  have hl := List.mem_of_getElem? hl
  obtain ⟨δ1, e1, hb⟩ := ht l δ h hl pr pp (pr.dice l hl)
  exact ⟨δ1, e1, ws_mono hb (fun δ2 h2 ⟨p2, s2, d2⟩ => ⟨pr.step hl s2 d2, p2⟩) (fun _ _ e => e.elim) fun δ2 h2 ⟨p2, s2, d2⟩ => ⟨pr.step hl s2 d2, p2⟩⟩
end
/-! ### dicts that are walked -/
theorem ws_lock {mk : ED} {m : SD} {n : Nat} {kvs : List (Key × D)} {δ : Sl} {h : AH} {N B C : Sl → AH → Prop} {T : D → AH → Prop} {X : SX} (e1 : mk δ h = .ok (.loc n) h) (e0 : h[n]? = some (.dct kvs))
    (p : ws (m δ (h.set n (.lck kvs))) (fun δ' h' => h'[n]? = some (.lck kvs) ∧ N δ' (h'.set n (.dct kvs))) (fun d h' => h'[n]? = some (.lck kvs) ∧ T d (h'.set n (.dct kvs))) (fun _ _ => False) (fun _ _ => False) (fun _ _ _ _ => False)) :
    ws (lockS mk m δ h) N T B C X := by
  have e2 : lckN mk δ h = some (n, kvs) := by unfold lckN; rw [e1]; simp only [e0]
  unfold lockS
  rw [e2]
  simp only
  generalize m δ (h.set n (.lck kvs)) = r at p
  cases r with
  | nx δ' h' => obtain ⟨e, p⟩ := p; simp only [unlkS, unlk, e]; exact p
  | rt d h' => obtain ⟨e, p⟩ := p; simp only [unlkS, unlk, e]; exact p
  | bk δ' h' => exact p.elim
  | ct δ' h' => exact p.elim
  | ex c fs δ' h' => exact p.elim
  | no => exact p.elim
theorem wp_iK {Q : Itg → AH → Prop} {E : EX} {n : Nat} {kvs : List (Key × D)} {h : AH} (e : h[n]? = some (.lck kvs)) (q : Q (.items (kvs.map fun p => keyD p.1)) h) : wp (iSeqD (.loc n) h) Q E := by
  unfold iSeqD
  have : lstAt h n = none := by unfold lstAt; rw [e]
  simp only [this, e]
  exact q
theorem wp_ixLk {Q : D → AH → Prop} {E : EX} {n : Nat} {kvs : List (Key × D)} {e d : D} {k : Key} {h : AH} (e0 : h[n]? = some (.lck kvs)) (ek : keyOf e = some k) (ev : valD kvs k = some d) (q : Q d h) : wp (ixD (.loc n) e h) Q E := by
  unfold ixD
  simp only [e0, ek, ev, okO]
  exact q
theorem wp_pop2 {Q : D → AH → Prop} {E : EX} {n : Nat} {kvs : List (Key × D)} {e z : D} {k : Key} {h : AH} (e0 : h[n]? = some (.dct kvs)) (ek : keyOf e = some k) (q1 : ∀ d, valD kvs k = some d → Q d (h.set n (.dct (dropD kvs k)))) (q2 : valD kvs k = none → Q z h) : wp (dpopD (.loc n) [e, z] h) Q E := by
  unfold dpopD dctAt
  simp only [e0, ek]
  cases ev : valD kvs k with
  | some d => exact q1 d ev
  | none => exact q2 ev
/-! ### dicts of ints -/
noncomputable def iKv {α : Type} (f : α → D) (T : List (Int × α)) : List (Key × D) := T.map fun p => ((Sum.inl p.1 : Key), f p.2)
section
variable {α : Type} {f : α → D}
theorem valD_i (k : Int) : ∀ T : List (Int × α), valD (iKv f T) (.inl k) = (T.lookup k).map f
  | [] => rfl
  | (j, a) :: r => by
    have ih := valD_i k r
    unfold valD iKv at ih ⊢
    rw [List.map_cons, List.find?_cons, List.lookup_cons]
    by_cases e : j = k
    · subst e
      simp
    · have e1 : decide ((Sum.inl j : Key) = Sum.inl k) = false := decide_eq_false fun z => e (Sum.inl.inj z)
      have e2 : (k == j) = false := by simpa using fun z => e z.symm
      simp only [e1, e2]
      exact ih
theorem putD_i (k : Int) (b : α) (T : List (Int × α)) : ∃ T', putD (iKv f T) (.inl k) (f b) = iKv f T' ∧ (∀ j, T'.lookup j = if j = k then some b else T.lookup j) ∧ T'.length ≤ T.length + 1 := by
  unfold putD
  have ha : ((iKv f T).any fun kv => decide (kv.1 = Sum.inl k)) = (T.any fun p => decide (p.1 = k)) := by
    unfold iKv
    rw [List.any_map]
    congr 1
    funext p
    simp
  rw [ha]
  cases h : T.any fun p => decide (p.1 = k) with
  | true =>
    refine ⟨T.map fun p => if p.1 = k then (p.1, b) else p, ?_, fun j => ?_, by simp⟩
    · rw [if_pos rfl]
      unfold iKv
      rw [List.map_map, List.map_map]
      refine List.map_congr_left fun p _ => ?_
      simp only [Function.comp_def]
      by_cases e : p.1 = k
      · rw [if_pos e, if_pos (by rw [e])]
      · rw [if_neg e, if_neg (fun z => e (Sum.inl.inj z))]
    · have : ∀ T : List (Int × α), (T.any fun p => decide (p.1 = k)) = true ∨ j ≠ k → (T.map fun p => if p.1 = k then (p.1, b) else p).lookup j = if j = k then some b else T.lookup j := by
        intro T
        induction T with
        | nil =>
          intro h
          rcases h with h | h
          · cases h
          · simp [h]
        | cons p r ih =>
          intro h
          rw [List.map_cons]
          by_cases e : p.1 = k
          · rw [if_pos e, List.lookup_cons]
            by_cases ej : j = k
            · have e5 : (j == p.1) = true := by rw [e, ej]; simp
              rw [e5, if_pos ej]
            · have e3 : (j == p.1) = false := by rw [e]; simpa using ej
              rw [e3]
              simp only
              rw [ih (.inr ej), if_neg ej, if_neg ej]
              obtain ⟨p1, p2⟩ := p
              simp only at e3
              rw [List.lookup_cons, e3]
          · rw [if_neg e]
            obtain ⟨p1, p2⟩ := p
            rw [List.lookup_cons, List.lookup_cons]
            by_cases e4 : j = p1
            · have : (j == p1) = true := by simpa using e4
              have ejk : j ≠ k := fun z => e (by rw [← z, e4])
              rw [this, if_neg ejk]
            · have : (j == p1) = false := by simpa using e4
              rw [this]
              simp only
              refine ih ?_
              rcases h with h | h
              · rw [List.any_cons, Bool.or_eq_true, decide_eq_true_eq] at h
                exact .inl (h.resolve_left e)
              · exact .inr h
      exact this T (.inl h)
  | false =>
    refine ⟨T ++ [(k, b)], ?_, fun j => ?_, by simp⟩
    · rw [if_neg (by decide)]
      unfold iKv
      rw [List.map_append]
      rfl
    · rw [List.any_eq_false] at h
      have hn : ∀ T : List (Int × α), (∀ p ∈ T, ¬ decide (p.1 = k) = true) → (T ++ [(k, b)]).lookup j = if j = k then some b else T.lookup j := by
        intro T
        induction T with
        | nil =>
          intro _
          rw [List.nil_append, List.lookup_cons]
          by_cases ej : j = k
          · simp [ej]
          · have : (j == k) = false := by simpa using ej
            rw [this]; simp [ej]
        | cons p r ih =>
          intro h
          obtain ⟨p1, p2⟩ := p
          rw [List.cons_append, List.lookup_cons, List.lookup_cons]
          have h1 : p1 ≠ k := by simpa using h (p1, p2) List.mem_cons_self
          by_cases e4 : j = p1
          · have : (j == p1) = true := by simpa using e4
            rw [this, if_neg (fun z => h1 (by rw [← z, e4]))]
          · have : (j == p1) = false := by simpa using e4
            rw [this]
            exact ih fun p hp => h p (List.mem_cons_of_mem _ hp)
      exact hn T h
theorem dropD_i (k : Int) (T : List (Int × α)) : ∃ T', dropD (iKv f T) (.inl k) = iKv f T' ∧ (∀ j, T'.lookup j = if j = k then none else T.lookup j) ∧ T'.length ≤ T.length := by
  refine ⟨T.filter fun p => decide (p.1 ≠ k), ?_, fun j => ?_, List.length_filter_le _ _⟩
  · unfold dropD iKv
    rw [List.filter_map]
    congr 1
    refine List.filter_congr fun p _ => ?_
    simp
  · induction T with
    | nil => simp
    | cons p r ih =>
      obtain ⟨p1, p2⟩ := p
      by_cases e : p1 = k
      · rw [List.filter_cons, if_neg (by simp [e]), ih, List.lookup_cons]
        by_cases ej : j = k
        · rw [if_pos ej, if_pos ej]
        · have : (j == p1) = false := by rw [e]; simpa using ej
          rw [if_neg ej, if_neg ej, this]
      · rw [List.filter_cons, if_pos (by simp [e]), List.lookup_cons, List.lookup_cons]
        by_cases e4 : j = p1
        · have : (j == p1) = true := by simpa using e4
          rw [this, if_neg (fun z => e (by rw [← z, e4]))]
        · have : (j == p1) = false := by simpa using e4
          rw [this]
          exact ih
end
section
variable {Q : D → AH → Prop} {E : EX} {elt : ED} {test : BD} {tg : Tg} {δ : Sl} {α : Type} {as : List α} {rd out : α → D} {p : α → Bool} {h0 : AH} {it : Itg}
/-- a comprehension over things of a type, with a test; all stays -/
theorem wp_lcA {n : Nat} (hn : ∀ i h, Stay h0 h → nxtI it i h = some (as.map rd)[i]?) (hc : as.length ≤ n) (hz : as.length ≤ lim)
    (hs : ∀ x ∈ as, ∀ (h : AH), Stay h0 h → ∃ δ1, asgT tg (rd x) δ = some δ1 ∧ wp (test δ1 h) (fun b h1 => b = p x ∧ Stay h h1 ∧ (b = true → wp (elt δ1 h1) (fun y h' => y = out x ∧ Stay h1 h') noE)) noE)
    (he : ∀ h', h'[h0.length]? = some (.lst ((as.filter p).map out)) → Stay h0 h' → Q (.loc h0.length) h') :
    wp (lcG elt test tg it h0.length δ n 0 (h0 ++ [.lst []])) Q E := by
  refine wp_lcG (xs := as.map rd) (fun i acc h => acc = ((as.take i).filter p).map out ∧ Stay h0 h) (fun i acc h _ p => hn i h p.2) (by rw [List.length_map]; exact hz) (fun i x acc h hx q hM ha => ?_) (fun acc h q hM ha => he h (by rw [hM, q.1, List.length_map, List.take_length]) q.2) _ 0 [] _ (Nat.zero_le _) (by rw [List.length_map]; omega) ⟨by simp, Stay.app _ _⟩ (by simp) (Nat.zero_le _)
  obtain ⟨rfl, st⟩ := q
  rw [List.getElem?_map, Option.map_eq_some_iff] at hx
  obtain ⟨a, ha', rfl⟩ := hx
  obtain ⟨δ1, e1, hw⟩ := hs a (List.mem_of_getElem? ha') h st
  refine ⟨δ1, e1, wp_imp hw fun b h1 ⟨eb, s1, hy⟩ => ⟨fun hb => wp_imp (hy hb) fun y h' ⟨ey, s2⟩ => ⟨s2 _ _ (s1 _ _ hM), ?_, (st.trans (s1.trans s2)).put (Nat.le_refl _)⟩, fun hb => ⟨s1 _ _ hM, ?_, st.trans s1⟩⟩⟩
  · subst ey
    rw [List.take_add_one, ha']
    have : p a = true := by rw [← eb, hb]
    simp [this]
  · rw [List.take_add_one, ha']
    have : p a = false := by rw [← eb, hb]
    simp [this]
theorem wp_lcAT (hz : as.length ≤ lim)
    (hs : ∀ x ∈ as, ∀ (h : AH), Stay h0 h → ∃ δ1, asgT tg (rd x) δ = some δ1 ∧ wp (test δ1 h) (fun b h1 => b = p x ∧ Stay h h1 ∧ (b = true → wp (elt δ1 h1) (fun y h' => y = out x ∧ Stay h1 h') noE)) noE)
    (he : ∀ h', h'[h0.length]? = some (.lst ((as.filter p).map out)) → Stay h0 h' → Q (.loc h0.length) h') :
    wp (lcG elt test tg (.items (as.map rd)) h0.length δ (cntI (.items (as.map rd)) h0) 0 (h0 ++ [.lst []])) Q E :=
  wp_lcA (fun i h _ => rfl) (by simp only [cntI, List.length_map]; exact Nat.le_refl _) hz hs he
theorem wp_lcAL {m : Nat} (hm : lstAt h0 m = some (as.map rd)) (hz : as.length ≤ lim)
    (hs : ∀ x ∈ as, ∀ (h : AH), Stay h0 h → ∃ δ1, asgT tg (rd x) δ = some δ1 ∧ wp (test δ1 h) (fun b h1 => b = p x ∧ Stay h h1 ∧ (b = true → wp (elt δ1 h1) (fun y h' => y = out x ∧ Stay h1 h') noE)) noE)
    (he : ∀ h', h'[h0.length]? = some (.lst ((as.filter p).map out)) → Stay h0 h' → Q (.loc h0.length) h') :
    wp (lcG elt test tg (.lst m) h0.length δ (cntI (.lst m) h0) 0 (h0 ++ [.lst []])) Q E :=
  wp_lcA (fun i h s => nxt_lst (s.lst hm)) (by rw [cnt_lst hm, List.length_map]; exact Nat.le_refl _) hz hs he
end
theorem wp_dictD {Q : D → AH → Prop} {E : EX} {n : Nat} {kvs : List (Key × D)} {h : AH} (e : h[n]? = some (.dct kvs)) (q : Q (.loc h.length) (h ++ [.dct kvs])) : wp (dictD [.loc n] h) Q E := by
  unfold dictD
  simp only [dctAt, e]
  exact q
/-! ### instances -/
section
variable {E : EX} {cls : List (Nat × List Str)} {f : Str} {n c : Nat} {fs : List (Str × D)} {h : AH} {δ : Sl} {N B C : Sl → AH → Prop} {T : D → AH → Prop} {X : SX}
theorem wp_FldI {Q : D → AH → Prop} {m : ED} (p : wp (m δ h) (fun d h => wp (fldI cls f d h) Q E) E) : wp (eFldI cls f m δ h) Q E := wp_bind p
theorem wp_fldL {Q : D → AH → Prop} {v : D} (e : h[n]? = some (.ins c fs)) (hl : lookC cls c f = true) (ev : fs.lookup f = some v) (q : Q v h) : wp (fldI cls f (.loc n) h) Q E := by
  unfold fldI
  simp only [e, hl, ev, if_true]
  exact q
theorem ws_FldI {mo mv : ED} (p : wp (mv δ h) (fun v h1 => wp (mo δ h1) (fun d h2 => ∃ h3, setFI cls f v d h2 = some h3 ∧ N δ h3) fun c fs h => X c fs δ h) fun c fs h => X c fs δ h) : ws (sFldI cls f mo mv δ h) N T B C X := by
  refine ws_thn (wp_imp p fun v h1 p => ws_thn (wp_imp p fun d h2 ⟨h3, e, q⟩ => ?_))
  rw [e]; exact q
theorem setFI_i {v : D} (e : h[n]? = some (.ins c fs)) (hl : lookC cls c f = true) (hz : fs.length < 1000) : setFI cls f v (.loc n) h = some (h.set n (.ins c (putFD f v fs))) := by
  unfold setFI
  simp only [e, hl, hz, and_self, if_true]
theorem ws_AugI {g : D → D → AH → R D} {mo mv : ED} (p : wp (mo δ h) (fun d h1 => ∃ n c fs x, d = .loc n ∧ h1[n]? = some (.ins c fs) ∧ lookC cls c f = true ∧ fs.lookup f = some x ∧
    wp (mv δ h1) (fun y h2 => wp (g x y h2) (fun z h3 => ∃ fs', h3[n]? = some (.ins c fs') ∧ fs'.length < 1000 ∧ N δ (h3.set n (.ins c (putFD f z fs')))) fun c fs h => X c fs δ h) fun c fs h => X c fs δ h) fun c fs h => X c fs δ h) : ws (sAugI cls f g mo mv δ h) N T B C X := by
  refine ws_thn (wp_imp p fun d h1 ⟨n, c, fs, x, ed, e, hl, ev, p⟩ => ?_)
  subst ed
  simp only [e, hl, ev, if_true]
  refine ws_thn (wp_imp p fun y h2 p => ws_thn (wp_imp p fun z h3 ⟨fs', e3, hz, q⟩ => ?_))
  simp only [e3, hz, and_self, if_true]
  exact q
theorem wp_Mth {Q : D → AH → Prop} {mth : Mth} {fn : Fn} {m : Str} {mo : ED} {ma : AD} (p : wp (mo δ h) (fun d h1 => ∃ n c fs i np, d = .loc n ∧ h1[n]? = some (.ins c fs) ∧ mth.lookup (c, m) = some (i, np) ∧ fs.lookup m = none ∧ wp (ma δ h1) (fun ds h2 => wp (callD np (fn i) (.loc n :: ds) h2) Q E) E) E) : wp (eMth mth fn m mo ma δ h) Q E := by
  refine wp_bind (wp_imp p fun d h1 ⟨n, c, fs, i, np, ed, e, el, ef, p⟩ => ?_)
  subst ed
  unfold mthD
  simp only [e, el, ef, Option.isNone_none, if_true]
  exact wp_bind p
theorem ws_Flds {ts : List (Str × Nat)} {m : ED} (p : wp (m δ h) (fun d h1 => ∃ ds h2, d = .tup ds ∧ putFs cls ts ds δ h1 = some h2 ∧ N δ h2) fun c fs h => X c fs δ h) : ws (sFlds cls ts m δ h) N T B C X := by
  refine ws_thn (wp_imp p fun d h1 ⟨ds, h2, ed, e, q⟩ => ?_)
  subst ed
  simp only [e]
  exact q
theorem wp_Mk {Q : D → AH → Prop} {i np : Nat} {fn : Fn} {ma : AD} (p : wp (ma δ h) (fun ds h1 => wp (callD np (fn i) (.loc h1.length :: ds) (h1 ++ [.ins c []])) (fun r h2 => r = .non ∧ Q (.loc h1.length) h2) E) E) : wp (eMk c i np fn ma δ h) Q E := by
  refine wp_bind (wp_imp p fun ds h1 p => wp_bind (wp_imp p fun r h2 ⟨er, q⟩ => ?_))
  subst er
  exact q
end
end Cod

/-! # programs of the small language as Lean data -/
namespace Cod
open PySem L2
/-- all but the dice at l and the world at w stays -/
structure St2 (l w : Nat) (h h' : AH) : Prop where
  keep : ∀ m o, m ≠ l → m ≠ w → h[m]? = some o → h'[m]? = some o
theorem St2.refl (l w : Nat) (h : AH) : St2 l w h h := ⟨fun _ _ _ _ e => e⟩
theorem St2.trans {l w : Nat} {h h1 h2 : AH} (a : St2 l w h h1) (b : St2 l w h1 h2) : St2 l w h h2 := ⟨fun m o h1 h2 e => b.keep m o h1 h2 (a.keep m o h1 h2 e)⟩
theorem St1.two {l w : Nat} {h h' : AH} (s : St1 l h h') : St2 l w h h' := ⟨fun m o h1 _ e => s.keep m o h1 e⟩
theorem Stay.two {l w : Nat} {h h' : AH} (s : Stay h h') : St2 l w h h' := ⟨fun m o _ _ e => s m o e⟩
theorem St2.len {l w : Nat} {h h' : AH} (s : St2 l w h h') (d : Dice h' l) (hw : w < h'.length) : h.length ≤ h'.length := by
  have hd : l < h'.length := by obtain ⟨_, _, _, e⟩ := d; exact (List.getElem?_eq_some_iff.mp e).1
  by_cases h0 : h.length = 0
  · omega
  · by_cases h1 : h.length - 1 = l
    · omega
    · by_cases h2 : h.length - 1 = w
      · omega
      · have := (List.getElem?_eq_some_iff.mp (s.keep _ _ h1 h2 (List.getElem?_eq_getElem (by omega)))).1
        omega
theorem St2.set (l w : Nat) (h : AH) (o : O) : St2 l w h (h.set w o) := ⟨fun m o' _ h2 e => by rw [List.getElem?_set_ne (Ne.symm h2)]; exact e⟩
theorem St2.set2 {l w M : Nat} {h0 h : AH} {o : O} (s : St2 l w h0 h) (hM : h0.length ≤ M) : St2 l w h0 (h.set M o) := ⟨fun m o' h1 h2 e => by
  have : m < h0.length := (List.getElem?_eq_some_iff.mp e).1
  rw [List.getElem?_set_ne (by omega)]
  exact s.keep m o' h1 h2 e⟩
inductive Ex where
  | num (w : Int)
  | get (x : Str)
  | ask
  | un (o : Str) (e : Ex)
  | item (r : Str) (e : Ex)
  | op (o : Str) (a b : Ex)
  | call (f : Str) (as : List Ex)
inductive Sm where
  | leT (x : Str) (e : Ex)
  | seT (x : Str) (e : Ex)
  | put (r : Str) (i v : Ex)
  | tell (e : Ex)
  | give (e : Ex)
  | doC (f : Str) (as : List Ex)
  | ifS (t : Ex) (a b : List Sm)
  | loop (x : Str) (c : Ex) (b : List Sm)
structure Fu where
  name : Str
  ps : List Str
  body : List Sm
structure Pg where
  rows : List (Str × Int)
  funs : List Fu
mutual
noncomputable def exD : Ex → D
  | .num w => .tup [.str "num", .int w]
  | .get x => .tup [.str "get", .str x]
  | .ask => .tup [.str "ask"]
  | .un o e => .tup [.str o, exD e]
  | .item r e => .tup [.str "item", .str r, exD e]
  | .op o a b => .tup [.str "op", .str o, exD a, exD b]
  | .call f as => .tup [.str "call", .str f, .tup (exDs as)]
noncomputable def exDs : List Ex → List D
  | [] => []
  | e :: r => exD e :: exDs r
end
mutual
noncomputable def smD : Sm → D
  | .leT x e => .tup [.str "let", .str x, exD e]
  | .seT x e => .tup [.str "set", .str x, exD e]
  | .put r i v => .tup [.str "put", .str r, exD i, exD v]
  | .tell e => .tup [.str "tell", exD e]
  | .give e => .tup [.str "give", exD e]
  | .doC f as => .tup [.str "do", .str f, .tup (exDs as)]
  | .ifS t a b => .tup [.str "if", exD t, .tup (smDs a), .tup (smDs b)]
  | .loop x c b => .tup [.str "loop", .str x, exD c, .tup (smDs b)]
noncomputable def smDs : List Sm → List D
  | [] => []
  | s :: r => smD s :: smDs r
end
theorem exDs_map : ∀ l : List Ex, exDs l = l.map exD
  | [] => rfl
  | e :: r => by rw [exDs, exDs_map r]; rfl
theorem smDs_map : ∀ l : List Sm, smDs l = l.map smD
  | [] => rfl
  | e :: r => by rw [smDs, smDs_map r]; rfl
noncomputable def fuD (f : Fu) : D := .tup [.str f.name, .tup (f.ps.map D.str), .tup (f.body.map smD)]
noncomputable def prwD (p : Str × Int) : D := .tup [.str p.1, .int p.2]
noncomputable def pgD (p : Pg) : D := .tup [.tup (p.rows.map prwD), .tup (p.funs.map fuD)]
/-! ### the form -/
noncomputable def kwS : List Str := ["row", "def", "let", "set", "put", "tell", "if", "else", "loop", "give", "do", "ask", "not", "neg", "rem", "pass", "main"]
noncomputable def opsS : List Str := ["add", "sub", "mul", "less", "same", "and", "or", "xor", "div", "rem"]
noncomputable def lowB (c : Nat) : Bool := decide (97 ≤ c) && decide (c ≤ 122)
noncomputable def nameB (x : Str) : Bool := decide (1 ≤ x.length) && decide (x.length ≤ 8) && !(decide (x ∈ kwS)) && x.cps.toList.all lowB
noncomputable def isWI (w : Int) : Bool := decide (-2147483648 ≤ w) && decide (w ≤ 2147483647)
noncomputable def unB (o : Str) : Bool := decide (o = "not") || decide (o = "neg")
mutual
noncomputable def exF : Nat → Ex → Bool
  | 0, _ => false
  | _ + 1, .num w => isWI w
  | _ + 1, .get x => nameB x
  | _ + 1, .ask => true
  | n + 1, .un o e => unB o && exF n e
  | n + 1, .item r e => nameB r && exF n e
  | n + 1, .op o a b => decide (o ∈ opsS) && exF n a && exF n b
  | n + 1, .call f as => nameB f && decide (as.length ≤ 4) && exFs n as
noncomputable def exFs : Nat → List Ex → Bool
  | _, [] => true
  | n, e :: r => exF n e && exFs n r
end
mutual
/-- n: one more than the depth -/
noncomputable def smF : Nat → Sm → Bool
  | _, .leT x e => nameB x && exF 9 e
  | _, .seT x e => nameB x && exF 9 e
  | _, .put r i v => nameB r && exF 9 i && exF 9 v
  | _, .tell e => exF 9 e
  | _, .give e => exF 9 e
  | _, .doC f as => exF 9 (.call f as)
  | n, .ifS t a b => exF 9 t && (decide (2 ≤ n) && decide (a.length ≤ 40) && smFs (n - 1) a) && (decide (2 ≤ n) && decide (b.length ≤ 40) && smFs (n - 1) b)
  | n, .loop x c b => nameB x && exF 9 c && (decide (2 ≤ n) && decide (b.length ≤ 40) && smFs (n - 1) b)
noncomputable def smFs : Nat → List Sm → Bool
  | _, [] => true
  | n, s :: r => smF n s && smFs n r
end
theorem exFs_all (n : Nat) : ∀ l : List Ex, exFs n l = l.all (exF n)
  | [] => rfl
  | e :: r => by rw [exFs, exFs_all n r]; rfl
theorem smFs_all (n : Nat) : ∀ l : List Sm, smFs n l = l.all (smF n)
  | [] => rfl
  | e :: r => by rw [smFs, smFs_all n r]; rfl
noncomputable def bdF (n : Nat) (b : List Sm) : Bool := decide (1 ≤ n) && decide (b.length ≤ 40) && smFs n b
noncomputable def fuF (f : Fu) : Bool := decide (f.ps.length ≤ 4) && (decide (f.name = "main") || nameB f.name) && f.ps.all nameB && bdF 9 f.body
noncomputable def pgF (p : Pg) : Bool := decide (p.rows.length ≤ 4) && decide (1 ≤ p.funs.length) && decide (p.funs.length ≤ 8) && p.rows.all (fun r => nameB r.1 && decide (1 ≤ r.2) && decide (r.2 ≤ 16)) && p.funs.all fuF
/-! ### the names -/
/-- what a statement adds to the names -/
noncomputable def addN (kn : List (Str × Bool)) : Sm → List (Str × Bool)
  | .leT x _ => kn ++ [(x, true)]
  | _ => kn
section
variable (rows : List Str) (ars : List (Str × Nat))
mutual
noncomputable def exS (ns : List Str) : Ex → Bool
  | .num _ => true
  | .get x => decide (x ∈ ns)
  | .ask => true
  | .un _ e => exS ns e
  | .item r e => decide (r ∈ rows) && exS ns e
  | .op _ a b => exS ns a && exS ns b
  | .call f as => decide (ars.lookup f = some as.length) && exSs ns as
noncomputable def exSs (ns : List Str) : List Ex → Bool
  | [] => true
  | e :: r => exS ns e && exSs ns r
end
noncomputable def newB (kn : List (Str × Bool)) (x : Str) : Bool := decide (x ∉ kn.map (·.1)) && decide (x ∉ rows) && decide (x ∉ ars.map (·.1))
mutual
noncomputable def smS (kn : List (Str × Bool)) : Sm → Bool
  | .leT x e => exS rows ars (kn.map (·.1)) e && newB rows ars kn x
  | .seT x e => decide (kn.lookup x = some true) && exS rows ars (kn.map (·.1)) e
  | .put r i v => decide (r ∈ rows) && exS rows ars (kn.map (·.1)) i && exS rows ars (kn.map (·.1)) v
  | .tell e => exS rows ars (kn.map (·.1)) e
  | .give e => exS rows ars (kn.map (·.1)) e
  | .doC f as => decide (ars.lookup f = some as.length) && exSs rows ars (kn.map (·.1)) as
  | .ifS t a b => exS rows ars (kn.map (·.1)) t && bdS kn a && bdS kn b
  | .loop x c b => exS rows ars (kn.map (·.1)) c && newB rows ars kn x && bdS (kn ++ [(x, false)]) b
noncomputable def bdS (kn : List (Str × Bool)) : List Sm → Bool
  | [] => true
  | s :: r => smS kn s && bdS (addN kn s) r
end
end
theorem exSs_all (rows : List Str) (ars : List (Str × Nat)) (ns : List Str) : ∀ l : List Ex, exSs rows ars ns l = l.all (exS rows ars ns)
  | [] => rfl
  | e :: r => by rw [exSs, exSs_all rows ars ns r]; rfl
theorem bdS_cons {rows : List Str} {ars : List (Str × Nat)} {kn : List (Str × Bool)} {s : Sm} {r : List Sm} : bdS rows ars kn (s :: r) = (smS rows ars kn s && bdS rows ars (addN kn s) r) := by
  rw [bdS]
/-- the names behind a body's statements -/
noncomputable def addNs (kn : List (Str × Bool)) (b : List Sm) : List (Str × Bool) := b.foldl addN kn
theorem bdS_snoc {rows : List Str} {ars : List (Str × Nat)} {s : Sm} : ∀ {b : List Sm} {kn : List (Str × Bool)}, bdS rows ars kn b = true → smS rows ars (addNs kn b) s = true → bdS rows ars kn (b ++ [s]) = true
  | [], kn, _, h => by
    rw [List.nil_append, bdS_cons]
    simp only [addNs, List.foldl_nil] at h
    rw [h, bdS]; rfl
  | t :: b, kn, h1, h2 => by
    rw [bdS_cons, Bool.and_eq_true] at h1
    rw [List.cons_append, bdS_cons, h1.1, bdS_snoc h1.2 h2]; rfl
theorem addNs_snoc (kn : List (Str × Bool)) (b : List Sm) (s : Sm) : addNs kn (b ++ [s]) = addN (addNs kn b) s := by
  unfold addNs; rw [List.foldl_append]; rfl
/-- each function knows those ahead of it -/
noncomputable def fusS (rows : List Str) : List (Str × Nat) → List Fu → Bool
  | _, [] => true
  | ars, f :: r => decide (f.name ∉ rows) && decide (f.name ∉ ars.map (·.1)) && decide f.ps.Nodup && f.ps.all (fun x => decide (x ∉ rows) && decide (x ∉ ars.map (·.1))) && bdS rows ars (f.ps.map fun x => (x, true)) f.body && fusS rows (ars ++ [(f.name, f.ps.length)]) r
noncomputable def pgS (p : Pg) : Bool := decide (p.rows.map (·.1)).Nodup && fusS (p.rows.map (·.1)) [] p.funs
structure Pg.ok (p : Pg) : Prop where
  form : pgF p = true
  scope : pgS p = true
  main : ∃ r b, p.funs = r ++ [⟨"main", [], b⟩]
/-! ### how the law's programs are drawn -/
noncomputable def exC : Nat → Ex → Bool
  | 0, _ => false
  | _ + 1, .num w => isWI w
  | _ + 1, .get x => nameB x
  | _ + 1, .ask => true
  | n + 1, .un o e => unB o && exC n e
  | n + 1, .item r e => nameB r && exC n e
  | n + 1, .op o a b => decide (o ∈ opsS) && exC n a && exC n b
  | _ + 1, .call _ _ => false
/-- a call of a function: up to three arguments -/
noncomputable def caC (f : Str) (as : List Ex) : Bool := nameB f && decide (as.length ≤ 3) && as.all (exC 2)
noncomputable def vaC : Ex → Bool
  | .call f as => caC f as
  | e => exC 3 e
/-- the names that the drawing makes: three letters -/
noncomputable def nmB (x : Str) : Bool := nameB x && decide (x.length = 3)
theorem nmB_name {x : Str} (h : nmB x = true) : nameB x = true := by unfold nmB at h; rw [Bool.and_eq_true] at h; exact h.1
theorem nmB_len {x : Str} (h : nmB x = true) : x.length = 3 := by unfold nmB at h; rw [Bool.and_eq_true, decide_eq_true_eq] at h; exact h.2
mutual
/-- dp: how deep bodies may still stand, lp: how many loops -/
noncomputable def drS : Nat → Nat → Sm → Bool
  | _, _, .leT x e => nmB x && vaC e
  | _, _, .seT x e => nameB x && exC 3 e
  | _, _, .put r i v => nameB r && exC 2 i && exC 3 v
  | _, _, .tell e => exC 3 e
  | _, _, .give e => exC 3 e
  | _, _, .doC f as => caC f as
  | dp, lp, .ifS t a b => decide (1 ≤ dp) && exC 3 t && decide (a.length ≤ 2) && drSs (dp - 1) lp a && decide (b.length ≤ 2) && drSs (dp - 1) lp b
  | dp, lp, .loop x c b => decide (1 ≤ dp) && decide (1 ≤ lp) && nmB x && exC 1 c && decide (b.length ≤ 3) && drSs (dp - 1) (lp - 1) b
noncomputable def drSs : Nat → Nat → List Sm → Bool
  | _, _, [] => true
  | dp, lp, s :: r => drS dp lp s && drSs dp lp r
end
theorem drSs_all (dp lp : Nat) : ∀ l : List Sm, drSs dp lp l = l.all (drS dp lp)
  | [] => rfl
  | e :: r => by rw [drSs, drSs_all dp lp r]; rfl
theorem exC_F : ∀ {n m : Nat} {e : Ex}, exC n e = true → n ≤ m → exF m e = true
  | 0, _, _, h, _ => by cases h
  | n + 1, 0, _, _, hm => by omega
  | n + 1, m + 1, e, h, hm => by
    have ih := fun e (h : exC n e = true) => exC_F (m := m) h (by omega)
    cases e with
    | num w => rw [exC] at h; rw [exF]; exact h
    | get x => rw [exC] at h; rw [exF]; exact h
    | ask => rw [exF]
    | un o e => rw [exC, Bool.and_eq_true] at h; rw [exF, h.1, ih e h.2]; rfl
    | item r e => rw [exC, Bool.and_eq_true] at h; rw [exF, h.1, ih e h.2]; rfl
    | op o a b => rw [exC, Bool.and_eq_true, Bool.and_eq_true] at h; rw [exF, h.1.1, ih a h.1.2, ih b h.2]; rfl
    | call f as => rw [exC] at h; cases h
theorem caC_F {f : Str} {as : List Ex} {m : Nat} (h : caC f as = true) (hm : 3 ≤ m) : exF m (.call f as) = true := by
  obtain ⟨m, rfl⟩ : ∃ j, m = j + 1 := ⟨m - 1, by omega⟩
  unfold caC at h
  rw [Bool.and_eq_true, Bool.and_eq_true, decide_eq_true_eq, List.all_eq_true] at h
  rw [exF, h.1.1, exFs_all, decide_eq_true (by omega)]
  simp only [Bool.true_and, List.all_eq_true]
  exact fun e he => exC_F (h.2 e he) (by omega)
theorem vaC_F {e : Ex} {m : Nat} (h : vaC e = true) (hm : 3 ≤ m) : exF m e = true := by
  cases e with
  | call f as => exact caC_F h hm
  | _ => exact exC_F (n := 3) h hm
mutual
theorem drS_F : ∀ (s : Sm) (dp lp n : Nat), dp + 1 ≤ n → drS dp lp s = true → smF n s = true
  | .leT x e, dp, lp, n, hn, h => by rw [drS, Bool.and_eq_true] at h; rw [smF, nmB_name h.1, vaC_F h.2 (by omega)]; rfl
  | .seT x e, dp, lp, n, hn, h => by rw [drS, Bool.and_eq_true] at h; rw [smF, h.1, exC_F h.2 (by omega)]; rfl
  | .put r i v, dp, lp, n, hn, h => by rw [drS, Bool.and_eq_true, Bool.and_eq_true] at h; rw [smF, h.1.1, exC_F h.1.2 (by omega), exC_F h.2 (by omega)]; rfl
  | .tell e, dp, lp, n, hn, h => by rw [drS] at h; rw [smF, exC_F h (by omega)]
  | .give e, dp, lp, n, hn, h => by rw [drS] at h; rw [smF, exC_F h (by omega)]
  | .doC f as, dp, lp, n, hn, h => by rw [drS] at h; rw [smF, caC_F h (by omega)]
  | .ifS t a b, dp, lp, n, hn, h => by
    rw [drS] at h
    simp only [Bool.and_eq_true, decide_eq_true_eq] at h
    obtain ⟨⟨⟨⟨⟨h1, h2⟩, h3⟩, h4⟩, h5⟩, h6⟩ := h
    rw [smF, exC_F h2 (by omega), drSs_F a (dp - 1) lp (n - 1) (by omega) h4, drSs_F b (dp - 1) lp (n - 1) (by omega) h6, decide_eq_true (by omega), decide_eq_true (by omega), decide_eq_true (by omega)]; rfl
  | .loop x c b, dp, lp, n, hn, h => by
    rw [drS] at h
    simp only [Bool.and_eq_true, decide_eq_true_eq] at h
    obtain ⟨⟨⟨⟨⟨h1, h2⟩, h3⟩, h4⟩, h5⟩, h6⟩ := h
    rw [smF, nmB_name h3, exC_F h4 (by omega), drSs_F b (dp - 1) (lp - 1) (n - 1) (by omega) h6, decide_eq_true (by omega), decide_eq_true (by omega)]; rfl
theorem drSs_F : ∀ (l : List Sm) (dp lp n : Nat), dp + 1 ≤ n → drSs dp lp l = true → smFs n l = true
  | [], _, _, _, _, _ => by rw [smFs]
  | s :: r, dp, lp, n, hn, h => by
    rw [drSs, Bool.and_eq_true] at h
    rw [smFs, drS_F s dp lp n hn h.1, drSs_F r dp lp n hn h.2]; rfl
end
end Cod

/-! # rules: exceptions marked and let on, comprehensions that raise, dict comprehensions, tuples of generators -/
namespace Cod
open PySem L2
section
variable {N B C : Sl → AH → Prop} {T : D → AH → Prop} {X : SX} {E : EX}
theorem ws_tryA {tab : List ((Nat × Nat) × Bool)} {xf : List (Nat × List Str)} {xm : List ((Nat × Str) × MkI)} {c i : Nat} {mt : Str} {mb : SD} {ma : AD} {δ : Sl} {h : AH}
    (p : ws (mb δ h) N T B C fun c' fs δ' h' => ∃ z mk, tab.lookup (c', c) = some true ∧ xf.lookup c' = some z ∧ xm.lookup (c', mt) = some mk ∧ fs.lookup mt = none ∧ i < δ'.length ∧ fs.length + mk.asg.length ≤ 900 ∧
      wp (ma (δ'.set i (some (.loc h'.length))) (h' ++ [.exn c' fs])) (fun ds _ => ds.length = mk.n ∧ ∃ gs, markD mk ds fs = some gs ∧ X c' gs (δ'.set i none) (h' ++ [.ded])) noE) : ws (sTryA tab xf xm c i mt mb ma δ h) N T B C X := by
  unfold sTryA
  cases e : mb δ h with
  | nx δ1 h1 => rw [e] at p; exact p
  | rt d1 h1 => rw [e] at p; exact p
  | bk δ1 h1 => rw [e] at p; exact p
  | ct δ1 h1 => rw [e] at p; exact p
  | no => rw [e] at p; exact p
  | ex c' fs δ1 h1 =>
    rw [e] at p
    obtain ⟨z, mk, e1, e2, e3, e4, e5, e6, q⟩ := p
    obtain ⟨ds, h2, e7, e8, gs, e9, q⟩ := wp_get q
    simp only [e1, e2, e3, e7, e8, e4, e5, e6, e9, Option.isNone_none, decide_true, Bool.and_true, if_true]
    exact q
theorem wp_LcX {Q : D → AH → Prop} {mi : ID} {tg : Tg} {test : BD} {elt : ED} {vs : List Nat} {δ : Sl} {h : AH} (p : wp (mi δ h) (fun it h => wp (lcX elt test tg it h.length (dwipe δ vs) (cntI it h) 0 (h ++ [.lst []])) Q E) E) : wp (eLcX mi tg test elt vs δ h) Q E := wp_bind p
theorem wp_lcXG {Q : D → AH → Prop} {elt : ED} {test : BD} {tg : Tg} {it : Itg} {M : Nat} {δ : Sl} {xs : List D} (P : Nat → List D → AH → Prop) (hn : ∀ i acc h, i ≤ xs.length → P i acc h → nxtI it i h = some xs[i]?) (hz : xs.length ≤ lim)
    (hs : ∀ i x acc h, xs[i]? = some x → P i acc h → h[M]? = some (.lst acc) → acc.length = i → ∃ δ1, asgT tg x δ = some δ1 ∧ test δ1 h = .ok true h ∧ wp (elt δ1 h) (fun y h => h[M]? = some (.lst acc) ∧ P (i + 1) (acc ++ [y]) (h.set M (.lst (acc ++ [y])))) E)
    (he : ∀ acc h, P xs.length acc h → h[M]? = some (.lst acc) → acc.length = xs.length → Q (.loc M) h) :
    ∀ f i acc h, i ≤ xs.length → xs.length ≤ i + f → P i acc h → h[M]? = some (.lst acc) → acc.length = i → wp (lcX elt test tg it M δ f i h) Q E
  | 0, i, acc, h, h1, h2, p, hM, ha => by
    have e : i = xs.length := by omega
    subst e
    unfold lcX
    rw [hn _ acc h (Nat.le_refl _) p, List.getElem?_eq_none (Nat.le_refl _)]
    exact he _ _ p hM ha
  | f + 1, i, acc, h, h1, h2, p, hM, ha => by
    unfold lcX
    rw [hn i acc h h1 p]
    cases e : xs[i]? with
    | none =>
      have hi : xs.length ≤ i := List.getElem?_eq_none_iff.mp e
      have e' : i = xs.length := by omega
      rw [e'] at p ha
      exact he _ _ p hM ha
    | some x =>
      have hi : i < xs.length := (List.getElem?_eq_some_iff.mp e).1
      obtain ⟨δ1, ht, hb, hw⟩ := hs i x acc h e p hM ha
      simp only [ht, hb]
      cases ee : elt δ1 h with
      | no => rw [ee] at hw; exact hw
      | ex c fs h2 => rw [ee] at hw; exact hw
      | ok y h2 =>
        rw [ee] at hw
        obtain ⟨hM', p'⟩ := hw
        have hl : acc.length < lim := by omega
        simp only [hM', if_pos hl]
        exact wp_lcXG P hn hz hs he f (i + 1) _ _ (by omega) (by omega) p' (List.getElem?_set_self (List.getElem?_eq_some_iff.mp hM').1) (by simp; omega)
theorem wp_Dc {Q : D → AH → Prop} {mi : ID} {tg : Tg} {test : BD} {ek ev : ED} {vs : List Nat} {δ : Sl} {h : AH} (p : wp (mi δ h) (fun it h => wp (dcG ek ev test tg it h.length (dwipe δ vs) (cntI it h) 0 (h ++ [.dct []])) Q E) E) : wp (eDc mi tg test ek ev vs δ h) Q E := wp_bind p
theorem putD_len (kvs : List (Key × D)) (k : Key) (v : D) : (putD kvs k v).length ≤ kvs.length + 1 := by
  unfold putD
  split
  · rw [List.length_map]; omega
  · simp
/-- over the items of a tuple, without a test -/
theorem wp_dcI {Q : D → AH → Prop} {tg : Tg} {test : BD} {ek ev : ED} {M : Nat} {δ : Sl} {xs : List D} (P : Nat → List (Key × D) → AH → Prop) (hz : xs.length ≤ lim)
    (hs : ∀ i x acc h, xs[i]? = some x → P i acc h → h[M]? = some (.dct acc) → acc.length ≤ i → ∃ δ1, asgT tg x δ = some δ1 ∧ test δ1 h = .ok true h ∧ wp (ek δ1 h) (fun y h => wp (ev δ1 h) (fun z h => ∃ k, keyOf y = some k ∧ h[M]? = some (.dct acc) ∧ P (i + 1) (putD acc k z) (h.set M (.dct (putD acc k z)))) noE) noE)
    (he : ∀ acc h, P xs.length acc h → h[M]? = some (.dct acc) → Q (.loc M) h) :
    ∀ f i acc h, i ≤ xs.length → xs.length ≤ i + f → P i acc h → h[M]? = some (.dct acc) → acc.length ≤ i → wp (dcG ek ev test tg (.items xs) M δ f i h) Q E
  | 0, i, acc, h, h1, h2, p, hM, ha => by
    have e : i = xs.length := by omega
    subst e
    unfold dcG
    simp only [nxtI, List.getElem?_eq_none (Nat.le_refl _)]
    exact he _ _ p hM
  | f + 1, i, acc, h, h1, h2, p, hM, ha => by
    unfold dcG
    simp only [nxtI]
    cases e : xs[i]? with
    | none =>
      have hi : xs.length ≤ i := List.getElem?_eq_none_iff.mp e
      have e' : i = xs.length := by omega
      rw [e'] at p
      exact he _ _ p hM
    | some x =>
      have hi : i < xs.length := (List.getElem?_eq_some_iff.mp e).1
      obtain ⟨δ1, ht, hb, hw⟩ := hs i x acc h e p hM ha
      obtain ⟨y, h2, e2, hw⟩ := wp_get hw
      obtain ⟨z, h3, e3, k, ek', hM', p'⟩ := wp_get hw
      have hl : acc.length < lim := by omega
      simp only [ht, hb, e2, e3, ek', hM', if_pos hl]
      refine wp_dcI P hz hs he f (i + 1) _ _ (by omega) (by omega) p' (List.getElem?_set_self (List.getElem?_eq_some_iff.mp hM').1) ?_
      have : (putD acc k z).length ≤ acc.length + 1 := putD_len acc k z
      omega
theorem wp_Gt {Q : D → AH → Prop} {mi : ID} {tg : Tg} {elt : ED} {vs : List Nat} {δ : Sl} {h : AH} (p : wp (mi δ h) (fun it h => wp (gtG elt tg it (dwipe δ vs) (cntI it h) 0 [] h) Q E) E) : wp (eGt mi tg elt vs δ h) Q E := wp_bind p
theorem wp_gtI {Q : D → AH → Prop} {tg : Tg} {elt : ED} {δ : Sl} {xs : List D} (P : Nat → List D → AH → Prop) (hz : xs.length ≤ lim)
    (hs : ∀ i x acc h, xs[i]? = some x → P i acc h → ∃ δ1, asgT tg x δ = some δ1 ∧ wp (elt δ1 h) (fun y h => P (i + 1) (acc ++ [y]) h) noE)
    (he : ∀ acc h, P xs.length acc h → Q (.tup acc) h) :
    ∀ f i acc h, i ≤ xs.length → xs.length ≤ i + f → P i acc h → acc.length = i → wp (gtG elt tg (.items xs) δ f i acc h) Q E
  | 0, i, acc, h, h1, h2, p, ha => by
    have e : i = xs.length := by omega
    subst e
    unfold gtG
    simp only [nxtI, List.getElem?_eq_none (Nat.le_refl _)]
    exact he _ _ p
  | f + 1, i, acc, h, h1, h2, p, ha => by
    unfold gtG
    simp only [nxtI]
    cases e : xs[i]? with
    | none =>
      have hi : xs.length ≤ i := List.getElem?_eq_none_iff.mp e
      have e' : i = xs.length := by omega
      rw [e'] at p
      exact he _ _ p
    | some x =>
      have hi : i < xs.length := (List.getElem?_eq_some_iff.mp e).1
      obtain ⟨δ1, ht, hw⟩ := hs i x acc h e p
      obtain ⟨y, h2, e2, p'⟩ := wp_get hw
      have hl : acc.length < lim := by omega
      simp only [ht, e2, if_pos hl]
      exact wp_gtI P hz hs he f (i + 1) _ _ (by omega) (by omega) p' (by simp; omega)
theorem wp_lockE {mk : ED} {m : ED} {n : Nat} {kvs : List (Key × D)} {δ : Sl} {h : AH} {Q : D → AH → Prop} (e1 : mk δ h = .ok (.loc n) h) (e0 : h[n]? = some (.dct kvs))
    (p : wp (m δ (h.set n (.lck kvs))) (fun d h' => h'[n]? = some (.lck kvs) ∧ Q d (h'.set n (.dct kvs))) noE) : wp (lockE mk m δ h) Q E := by
  have e2 : lckN mk δ h = some (n, kvs) := by unfold lckN; rw [e1]; simp only [e0]
  obtain ⟨d, h', e3, e4, q⟩ := wp_get p
  unfold lockE
  rw [e2]
  simp only [e3, unlkE, unlk, e4]
  exact q
theorem wp_listK {Q : D → AH → Prop} {n : Nat} {kvs : List (Key × D)} {h : AH} (e : h[n]? = some (.dct kvs)) (q : Q (.loc h.length) (h ++ [.lst (kvs.map fun p => keyD p.1)])) : wp (listD [.loc n] h) Q E := by
  unfold listD
  have e1 : seqD h (.loc n) = none := by unfold seqD; simp only [e]
  simp only [e1, keysAt, e]
  exact q
end
end Cod

namespace K08
open PySem L2 Cod
noncomputable def topS (i : Nat) : Stmt := PySem.Challenge.pw_codeline_k08_tokens_laid_and_cut.main.body.getD i (.Pass ⟨0, 0, 0, 0⟩)
noncomputable def metS (i j : Nat) : Stmt := match topS i with | .ClassDef _ _ _ b _ _ _ _ _ _ _ => b.getD j (.Pass ⟨0, 0, 0, 0⟩) | s => s
noncomputable def xtab : List ((Nat × Nat) × Bool) := []
noncomputable def xflds : List (Nat × List Str) := []
noncomputable abbrev c_LineError : Nat := 0
noncomputable abbrev c_BadText : Nat := 1
noncomputable def i_run_of : Nat := 0
noncomputable def i_number_end : Nat := 1
noncomputable def i_symbol_at : Nat := 2
noncomputable def i_must_be_literal : Nat := 3
noncomputable def i_tokens_of : Nat := 4
noncomputable def i__law_dice : Nat := 5
noncomputable def i__law_roll : Nat := 6
noncomputable def i__law_rounds : Nat := 7
noncomputable def i__law_word : Nat := 8
noncomputable def i__law_token : Nat := 9
noncomputable def i__law_needs_blank : Nat := 10
noncomputable def i_law : Nat := 11
noncomputable def v_LEAST : D := (.int (-2147483648))
noncomputable def v_MOST : D := (.int 2147483647)
noncomputable def v_LETTERS : D := (.str "abcdefghijklmnopqrstuvwxyz")
noncomputable def v_FIGURES : D := (.str "0123456789")
noncomputable def v_SYMBOLS : D := (.tup [(.str "=="), (.str "+"), (.str "-"), (.str "*"), (.str "/"), (.str "<"), (.str "&"), (.str "^"), (.str "|"), (.str ","), (.str "("), (.str ")"), (.str "["), (.str "]"), (.str ":"), (.str "=")])
noncomputable def xm : List ((Nat × Str) × MkI) := []
noncomputable def mth : Mth := []
noncomputable def cls : List (Nat × List Str) := []
noncomputable def b_run_of_0 (fn : Fn) : SD :=
(sAug 1 iaddD (eC (.int 1)))
noncomputable def m_run_of (fn : Fn) : SD :=
(sSeq (whG (bAnd (bOf (e2 (cmpI fun i j => decide (i < j)) (eVar 1) (eA lenD (aCons (eVar 0) aNil)))) (bOf (e2 (inD false) (e2 ixD (eVar 0) (eVar 1)) (eVar 2)))) (b_run_of_0 fn) fuel0)
(sRet (eVar 1)))
noncomputable def f_run_of : FInfo := ⟨"run_of", topS 9, ["text", "at", "signs"], ["text", "at", "signs"], m_run_of, false, [], "run_of"⟩
noncomputable def m_number_end (fn : Fn) : SD :=
(sSeq (sAsg (eIf (bOf (e2 eqD (e2 ixD (eVar 0) (eVar 1)) (eC (.str "-")))) (e2 addD (eVar 1) (eC (.int 1))) (eVar 1)) (.nm 2))
(sSeq (sAsg (eA (callD 3 (fn i_run_of)) (aCons (eVar 0) (aCons (eVar 2) (aCons (eC v_FIGURES) aNil)))) (.nm 3))
(sRet (eIf (bOf (e2 eqD (eVar 3) (eVar 2))) (eVar 1) (eVar 3)))))
noncomputable def f_number_end : FInfo := ⟨"number_end", topS 10, ["text", "at", "start", "end"], ["text", "at"], m_number_end, false, [], "number_end"⟩
noncomputable def b_symbol_at_0 (fn : Fn) : SD :=
(sIf (bOf (e2 eqD (eSl (eVar 0) (oSome (eVar 1)) (oSome (e2 addD (eVar 1) (eA lenD (aCons (eVar 2) aNil))))) (eVar 2)))
(sRet (eVar 2))
sNext)
noncomputable def m_symbol_at (fn : Fn) : SD :=
(sSeq (sFor (iSeq (eC v_SYMBOLS)) (.nm 2) (b_symbol_at_0 fn))
(sRet (eC (.str ""))))
noncomputable def f_symbol_at : FInfo := ⟨"symbol_at", topS 11, ["text", "at", "symbol"], ["text", "at"], m_symbol_at, false, [], "symbol_at"⟩
noncomputable def m_must_be_literal (fn : Fn) : SD :=
(sSeq (sAsg (eIf (bOf (e2 eqD (e2 ixD (eVar 0) (eC (.int 0))) (eC (.str "-")))) (eSl (eVar 0) (oSome (eC (.int 1))) oNone) (eVar 0)) (.nm 2))
(sSeq (sIf (bOr (bOf (e2 (cmpI fun i j => decide (j < i)) (eA lenD (aCons (eVar 2) aNil)) (eC (.int 10)))) (bAnd (bOf (e2 eqD (e2 ixD (eVar 2) (eC (.int 0))) (eC (.str "0")))) (bOf (e2 neD (eVar 0) (eC (.str "0"))))))
(sRaise 1 2 [("row", .par 0)] (aCons (eVar 1) (aCons (eC (.str "bad number")) aNil)))
sNext)
(sIf (bNot (bOf (eCh (cmpI fun i j => decide (i ≤ j)) (cmpI fun i j => decide (i ≤ j)) (eC v_LEAST) (eA intD (aCons (eVar 0) aNil)) (eC v_MOST))))
(sRaise 1 2 [("row", .par 0)] (aCons (eVar 1) (aCons (eC (.str "number too large")) aNil)))
sNext)))
noncomputable def f_must_be_literal : FInfo := ⟨"must_be_literal", topS 12, ["token", "row", "bare"], ["token", "row"], m_must_be_literal, false, [], "must_be_literal"⟩
noncomputable def b_tokens_of_0 (fn : Fn) : SD :=
(sSeq (sIf (bOf (e2 eqD (e2 ixD (eVar 0) (eVar 3)) (eC (.str " "))))
(sSeq (sIf (bOr (bOf (e2 eqD (e2 addD (eVar 3) (eC (.int 1))) (eA lenD (aCons (eVar 0) aNil)))) (bOr (bOf (e2 eqD (e2 ixD (eVar 0) (e2 addD (eVar 3) (eC (.int 1)))) (eC (.str " ")))) (bOf (e2 eqD (eVar 3) (eC (.int 0))))))
(sRaise 1 2 [("row", .par 0)] (aCons (eVar 1) (aCons (eC (.str "bad blank")) aNil)))
sNext)
(sAug 3 iaddD (eC (.int 1))))
sNext)
(sSeq (sAsg (eA (callD 3 (fn i_run_of)) (aCons (eVar 0) (aCons (eVar 3) (aCons (eC v_LETTERS) aNil)))) (.nm 4))
(sSeq (sIf (bOf (e2 eqD (eVar 4) (eVar 3)))
(sSeq (sAsg (eA (callD 2 (fn i_number_end)) (aCons (eVar 0) (aCons (eVar 3) aNil))) (.nm 4))
(sIf (bOf (e2 (cmpI fun i j => decide (j < i)) (eVar 4) (eVar 3)))
(sExpr (eA (callD 2 (fn i_must_be_literal)) (aCons (eSl (eVar 0) (oSome (eVar 3)) (oSome (eVar 4))) (aCons (eVar 1) aNil))))
sNext))
sNext)
(sSeq (sIf (bOf (e2 eqD (eVar 4) (eVar 3)))
(sAsg (e2 addD (eVar 3) (eA lenD (aCons (eA (callD 2 (fn i_symbol_at)) (aCons (eVar 0) (aCons (eVar 3) aNil))) aNil))) (.nm 4))
sNext)
(sSeq (sIf (bOf (e2 eqD (eVar 4) (eVar 3)))
(sRaise 1 2 [("row", .par 0)] (aCons (eVar 1) (aCons (eC (.str "bad sign")) aNil)))
sNext)
(sSeq (sExpr (eMt "list" appD (eVar 2) (aCons (eSl (eVar 0) (oSome (eVar 3)) (oSome (eVar 4))) aNil)))
(sAsg (eVar 4) (.nm 3))))))))
noncomputable def m_tokens_of (fn : Fn) : SD :=
(sSeq (sPar [.nm 2, .nm 3] (aCons (eA mkLst aNil) (aCons (eC (.int 0)) aNil)))
(sSeq (whG (bOf (e2 (cmpI fun i j => decide (i < j)) (eVar 3) (eA lenD (aCons (eVar 0) aNil)))) (b_tokens_of_0 fn) fuel0)
(sRet (eVar 2))))
noncomputable def f_tokens_of : FInfo := ⟨"tokens_of", topS 13, ["text", "row", "found", "at", "end"], ["text", "row"], m_tokens_of, false, [], "tokens_of"⟩
noncomputable def m__law_dice (fn : Fn) : SD :=
(sSeq (sIf (bOf (eCh (cmpI fun i j => decide (i < j)) (cmpI fun i j => decide (i < j)) (e2 subD (eC (.int 0)) (eC (.int 10))) (eVar 0) (eC (.int 10))))
(sRet (eA mkLst (aCons (eA absD (aCons (eVar 0) aNil)) (aCons (eC (.int 0)) (aCons (eC (.int 2)) aNil)))))
sNext)
(sRet (eA mkLst (aCons (eVar 0) (aCons (e2 addD (eC (.int 1)) (e2 modD (eA intD (aCons (eVar 0) aNil)) (eC (.int 1009)))) (aCons (eA intD (aCons (e2 (cmpI fun i j => decide (j ≤ i)) (eVar 0) (e2 powD (eC (.int 10)) (eC (.int 18)))) aNil)) aNil))))))
noncomputable def f__law_dice : FInfo := ⟨"_law_dice", topS 15, ["cell"], ["cell"], m__law_dice, false, [], "_law_dice"⟩
noncomputable def m__law_roll (fn : Fn) : SD :=
(sSeq (sIf (bOr (bOf (e2 eqD (e2 ixD (eVar 0) (eC (.int 2))) (eC (.int 2)))) (bAnd (bOf (e2 eqD (e2 ixD (eVar 0) (eC (.int 2))) (eC (.int 1)))) (bOf (e2 (cmpI fun i j => decide (j < i)) (e2 ixD (eVar 0) (eC (.int 0))) (eC (.int 0))))))
(sSeq (sAsg (e2 modD (eA intD (aCons (e2 ixD (eVar 0) (eC (.int 0))) aNil)) (eVar 1)) (.nm 2))
(sSeq (sSub setL (eVar 0) (eC (.int 0)) (e2 fdivD (e2 ixD (eVar 0) (eC (.int 0))) (eVar 1)))
(sRet (eVar 2))))
sNext)
(sSeq (sSub setL (eVar 0) (eC (.int 2)) (eC (.int 0)))
(sSeq (sSub setL (eVar 0) (eC (.int 0)) (e2 modD (eA intD (aCons (e2 addD (e2 addD (e2 mulD (e2 ixD (eVar 0) (eC (.int 0))) (eC (.int 48271))) (e2 mulD (e2 ixD (eVar 0) (eC (.int 1))) (eC (.int 69621)))) (eC (.int 11))) aNil)) (eC (.int 2147483647))))
(sSeq (sSub setL (eVar 0) (eC (.int 1)) (e2 addD (e2 ixD (eVar 0) (eC (.int 1))) (eC (.int 1))))
(sRet (e2 modD (eA intD (aCons (e2 addD (e2 fdivD (e2 ixD (eVar 0) (eC (.int 0))) (eC (.int 7))) (e2 ixD (eVar 0) (eC (.int 0)))) aNil)) (eVar 1)))))))
noncomputable def f__law_roll : FInfo := ⟨"_law_roll", topS 16, ["dice", "many", "found"], ["dice", "many"], m__law_roll, false, [], "_law_roll"⟩
noncomputable def m__law_rounds (fn : Fn) : SD :=
(sSeq (sAsg (eSl (eVar 0) oNone (oSome (eVar 1))) (.nm 2))
(sSeq (sIf (bOf (e2 eqD (eVar 2) (eA mkLst aNil)))
(sAsg (eA mkLst (aCons (eC (.int 0)) aNil)) (.nm 2))
sNext)
(sRet (eLc (iSeq (eVar 2)) (.nm 3) (fun _ h => .ok true h) (eA (callD 1 (fn i__law_dice)) (aCons (eVar 3) aNil)) [3]))))
noncomputable def f__law_rounds : FInfo := ⟨"_law_rounds", topS 17, ["script", "most", "cells", "cell"], ["script", "most"], m__law_rounds, false, [], "_law_rounds"⟩
noncomputable def m__law_word (fn : Fn) : SD :=
(sSeq (sAsg (eA (callD 2 (fn i__law_roll)) (aCons (eVar 0) (aCons (eC (.int 6)) aNil))) (.nm 1))
(sSeq (sIf (bOf (e2 (cmpI fun i j => decide (i < j)) (eVar 1) (eC (.int 3))))
(sRet (e2 subD (eA (callD 2 (fn i__law_roll)) (aCons (eVar 0) (aCons (eC (.int 9)) aNil))) (eC (.int 2))))
sNext)
(sSeq (sIf (bOf (e2 eqD (eVar 1) (eC (.int 3))))
(sRet (e2 ixD (eA mkLst (aCons (eC (.int 2147483647)) (aCons (e2 subD (eC (.int 0)) (eC (.int 2147483648))) (aCons (eC (.int 2147483646)) (aCons (eC (.int 65536)) (aCons (e2 subD (eC (.int 0)) (eC (.int 65536))) (aCons (eC (.int 1000000007)) aNil))))))) (eA (callD 2 (fn i__law_roll)) (aCons (eVar 0) (aCons (eC (.int 6)) aNil)))))
sNext)
(sRet (e2 subD (e2 addD (e2 mulD (eA (callD 2 (fn i__law_roll)) (aCons (eVar 0) (aCons (eC (.int 65536)) aNil))) (eC (.int 65536))) (eA (callD 2 (fn i__law_roll)) (aCons (eVar 0) (aCons (eC (.int 65536)) aNil)))) (eC (.int 2147483648)))))))
noncomputable def f__law_word : FInfo := ⟨"_law_word", topS 18, ["dice", "kind"], ["dice"], m__law_word, false, [], "_law_word"⟩
noncomputable def m__law_token (fn : Fn) : SD :=
(sSeq (sAsg (eA (callD 2 (fn i__law_roll)) (aCons (eVar 0) (aCons (eC (.int 4)) aNil))) (.nm 1))
(sSeq (sIf (bOf (e2 eqD (eVar 1) (eC (.int 0))))
(sRet (eA strD (aCons (eA (callD 1 (fn i__law_word)) (aCons (eVar 0) aNil)) aNil)))
sNext)
(sSeq (sIf (bOf (e2 eqD (eVar 1) (eC (.int 1))))
(sSeq (sAsg (e2 addD (eC (.int 1)) (eA (callD 2 (fn i__law_roll)) (aCons (eVar 0) (aCons (eC (.int 9)) aNil)))) (.nm 3))
(sRet (eMt "str" joinD (eC (.str "")) (aCons (eLc (iArg iRng1D (aCons (eVar 3) aNil)) (.nm 4) (fun _ h => .ok true h) (e2 ixD (eC (.str "abcdefghijklmnopqrstuvwxyz")) (eA (callD 2 (fn i__law_roll)) (aCons (eVar 0) (aCons (eC (.int 26)) aNil)))) [4]) aNil))))
sNext)
(sSeq (sAsg (eA mkLst (aCons (eC (.str "==")) (aCons (eC (.str "+")) (aCons (eC (.str "-")) (aCons (eC (.str "*")) (aCons (eC (.str "/")) (aCons (eC (.str "<")) (aCons (eC (.str "&")) (aCons (eC (.str "^")) (aCons (eC (.str "|")) (aCons (eC (.str ",")) (aCons (eC (.str "(")) (aCons (eC (.str ")")) (aCons (eC (.str "[")) (aCons (eC (.str "]")) (aCons (eC (.str ":")) (aCons (eC (.str "=")) aNil))))))))))))))))) (.nm 2))
(sRet (e2 ixD (eVar 2) (eA (callD 2 (fn i__law_roll)) (aCons (eVar 0) (aCons (eC (.int 16)) aNil)))))))))
noncomputable def f__law_token : FInfo := ⟨"_law_token", topS 19, ["dice", "kind", "symbols", "size", "k"], ["dice"], m__law_token, false, [], "_law_token"⟩
noncomputable def m__law_needs_blank (fn : Fn) : SD :=
(sSeq (sIf (bAnd (bOf (e2 (inD false) (e2 ixD (eVar 0) (e1 negD (eC (.int 1)))) (eC (.str "abcdefghijklmnopqrstuvwxyz")))) (bOf (e2 (inD false) (e2 ixD (eVar 1) (eC (.int 0))) (eC (.str "abcdefghijklmnopqrstuvwxyz")))))
(sRet (eC (.bl true)))
sNext)
(sSeq (sIf (bAnd (bOf (e2 (inD false) (e2 ixD (eVar 0) (e1 negD (eC (.int 1)))) (eC (.str "0123456789-")))) (bOf (e2 (inD false) (e2 ixD (eVar 1) (eC (.int 0))) (eC (.str "0123456789")))))
(sRet (eC (.bl true)))
sNext)
(sRet (eAnd (e2 eqD (e2 ixD (eVar 0) (e1 negD (eC (.int 1)))) (eC (.str "="))) (e2 eqD (e2 ixD (eVar 1) (eC (.int 0))) (eC (.str "=")))))))
noncomputable def f__law_needs_blank : FInfo := ⟨"_law_needs_blank", topS 20, ["one", "other"], ["one", "other"], m__law_needs_blank, false, [], "_law_needs_blank"⟩
noncomputable def b_law_1 (fn : Fn) : SD :=
(sSeq (sIf (bOr (bTru (eA (callD 2 (fn i__law_needs_blank)) (aCons (e2 ixD (eVar 2) (e2 subD (eVar 4) (eC (.int 1)))) (aCons (e2 ixD (eVar 2) (eVar 4)) aNil)))) (bOf (e2 eqD (eA (callD 2 (fn i__law_roll)) (aCons (eVar 1) (aCons (eC (.int 2)) aNil))) (eC (.int 0)))))
(sAsg (e2 addD (eVar 3) (eC (.str " "))) (.nm 3))
sNext)
(sAsg (e2 addD (eVar 3) (e2 ixD (eVar 2) (eVar 4))) (.nm 3)))
noncomputable def b_law_0 (fn : Fn) : SD :=
(sSeq (sAsg (eLc (iArg iRng1D (aCons (e2 addD (eC (.int 1)) (eA (callD 2 (fn i__law_roll)) (aCons (eVar 1) (aCons (eC (.int 9)) aNil)))) aNil)) (.nm 4) (fun _ h => .ok true h) (eA (callD 1 (fn i__law_token)) (aCons (eVar 1) aNil)) [4]) (.nm 2))
(sSeq (sAsg (e2 ixD (eVar 2) (eC (.int 0))) (.nm 3))
(sSeq (sFor (iArg iRng2D (aCons (eC (.int 1)) (aCons (eA lenD (aCons (eVar 2) aNil)) aNil))) (.nm 4) (b_law_1 fn))
(sIf (bOr (bOf (e2 neD (eA (callD 2 (fn i_tokens_of)) (aCons (eVar 3) (aCons (eC (.int 1)) aNil))) (eVar 2))) (bOf (e2 neD (eA (callD 2 (fn i_tokens_of)) (aCons (eMt "str" joinD (eC (.str " ")) (aCons (eVar 2) aNil)) (aCons (eC (.int 9)) aNil))) (eVar 2))))
(sRet (eC (.bl false)))
sNext))))
noncomputable def m_law (fn : Fn) : SD :=
(sSeq (sFor (iSeq (eA (callD 2 (fn i__law_rounds)) (aCons (eVar 0) (aCons (eC (.int 12)) aNil)))) (.nm 1) (b_law_0 fn))
(sRet (eC (.bl true))))
noncomputable def f_law : FInfo := ⟨"law", topS 21, ["script", "dice", "row", "text", "k"], ["script"], m_law, false, ["table"], "law"⟩
noncomputable def fs : List FInfo := [f_run_of, f_number_end, f_symbol_at, f_must_be_literal, f_tokens_of, f__law_dice, f__law_roll, f__law_rounds, f__law_word, f__law_token, f__law_needs_blank, f_law]
theorem run_run_of (k : Nat) : runOf fs (k + 1) i_run_of = fnD 3 (m_run_of (runOf fs k)) := rfl
theorem run_number_end (k : Nat) : runOf fs (k + 1) i_number_end = fnD 4 (m_number_end (runOf fs k)) := rfl
theorem run_symbol_at (k : Nat) : runOf fs (k + 1) i_symbol_at = fnD 3 (m_symbol_at (runOf fs k)) := rfl
theorem run_must_be_literal (k : Nat) : runOf fs (k + 1) i_must_be_literal = fnD 3 (m_must_be_literal (runOf fs k)) := rfl
theorem run_tokens_of (k : Nat) : runOf fs (k + 1) i_tokens_of = fnD 5 (m_tokens_of (runOf fs k)) := rfl
theorem run__law_dice (k : Nat) : runOf fs (k + 1) i__law_dice = fnD 1 (m__law_dice (runOf fs k)) := rfl
theorem run__law_roll (k : Nat) : runOf fs (k + 1) i__law_roll = fnD 3 (m__law_roll (runOf fs k)) := rfl
theorem run__law_rounds (k : Nat) : runOf fs (k + 1) i__law_rounds = fnD 4 (m__law_rounds (runOf fs k)) := rfl
theorem run__law_word (k : Nat) : runOf fs (k + 1) i__law_word = fnD 2 (m__law_word (runOf fs k)) := rfl
theorem run__law_token (k : Nat) : runOf fs (k + 1) i__law_token = fnD 5 (m__law_token (runOf fs k)) := rfl
theorem run__law_needs_blank (k : Nat) : runOf fs (k + 1) i__law_needs_blank = fnD 2 (m__law_needs_blank (runOf fs k)) := rfl
theorem run_law (k : Nat) : runOf fs (k + 1) i_law = fnD 5 (m_law (runOf fs k)) := rfl
theorem go_run_of (k : Nat) {a0 a1 a2 : D} {h : AH} {Q : D → AH → Prop} {E : EX} (p : ws (m_run_of (runOf fs k) [some a0, some a1, some a2] h) (fun _ h => Q .non h) Q noB noB fun c fs _ h => E c fs h) : wp (runOf fs (k + 1) i_run_of [a0, a1, a2] h) Q E := by
  rw [run_run_of]
  have ed : startD 3 [a0, a1, a2] = [some a0, some a1, some a2] := rfl
  with_reducible exact wp_fn2 ed p
theorem go_number_end (k : Nat) {a0 a1 : D} {h : AH} {Q : D → AH → Prop} {E : EX} (p : ws (m_number_end (runOf fs k) [some a0, some a1, none, none] h) (fun _ h => Q .non h) Q noB noB fun c fs _ h => E c fs h) : wp (runOf fs (k + 1) i_number_end [a0, a1] h) Q E := by
  rw [run_number_end]
  have ed : startD 4 [a0, a1] = [some a0, some a1, none, none] := rfl
  with_reducible exact wp_fn2 ed p
theorem go_symbol_at (k : Nat) {a0 a1 : D} {h : AH} {Q : D → AH → Prop} {E : EX} (p : ws (m_symbol_at (runOf fs k) [some a0, some a1, none] h) (fun _ h => Q .non h) Q noB noB fun c fs _ h => E c fs h) : wp (runOf fs (k + 1) i_symbol_at [a0, a1] h) Q E := by
  rw [run_symbol_at]
  have ed : startD 3 [a0, a1] = [some a0, some a1, none] := rfl
  with_reducible exact wp_fn2 ed p
theorem go_must_be_literal (k : Nat) {a0 a1 : D} {h : AH} {Q : D → AH → Prop} {E : EX} (p : ws (m_must_be_literal (runOf fs k) [some a0, some a1, none] h) (fun _ h => Q .non h) Q noB noB fun c fs _ h => E c fs h) : wp (runOf fs (k + 1) i_must_be_literal [a0, a1] h) Q E := by
  rw [run_must_be_literal]
  have ed : startD 3 [a0, a1] = [some a0, some a1, none] := rfl
  with_reducible exact wp_fn2 ed p
theorem go_tokens_of (k : Nat) {a0 a1 : D} {h : AH} {Q : D → AH → Prop} {E : EX} (p : ws (m_tokens_of (runOf fs k) [some a0, some a1, none, none, none] h) (fun _ h => Q .non h) Q noB noB fun c fs _ h => E c fs h) : wp (runOf fs (k + 1) i_tokens_of [a0, a1] h) Q E := by
  rw [run_tokens_of]
  have ed : startD 5 [a0, a1] = [some a0, some a1, none, none, none] := rfl
  with_reducible exact wp_fn2 ed p
theorem go__law_dice (k : Nat) {a0 : D} {h : AH} {Q : D → AH → Prop} {E : EX} (p : ws (m__law_dice (runOf fs k) [some a0] h) (fun _ h => Q .non h) Q noB noB fun c fs _ h => E c fs h) : wp (runOf fs (k + 1) i__law_dice [a0] h) Q E := by
  rw [run__law_dice]
  have ed : startD 1 [a0] = [some a0] := rfl
  with_reducible exact wp_fn2 ed p
theorem go__law_roll (k : Nat) {a0 a1 : D} {h : AH} {Q : D → AH → Prop} {E : EX} (p : ws (m__law_roll (runOf fs k) [some a0, some a1, none] h) (fun _ h => Q .non h) Q noB noB fun c fs _ h => E c fs h) : wp (runOf fs (k + 1) i__law_roll [a0, a1] h) Q E := by
  rw [run__law_roll]
  have ed : startD 3 [a0, a1] = [some a0, some a1, none] := rfl
  with_reducible exact wp_fn2 ed p
theorem go__law_rounds (k : Nat) {a0 a1 : D} {h : AH} {Q : D → AH → Prop} {E : EX} (p : ws (m__law_rounds (runOf fs k) [some a0, some a1, none, none] h) (fun _ h => Q .non h) Q noB noB fun c fs _ h => E c fs h) : wp (runOf fs (k + 1) i__law_rounds [a0, a1] h) Q E := by
  rw [run__law_rounds]
  have ed : startD 4 [a0, a1] = [some a0, some a1, none, none] := rfl
  with_reducible exact wp_fn2 ed p
theorem go__law_word (k : Nat) {a0 : D} {h : AH} {Q : D → AH → Prop} {E : EX} (p : ws (m__law_word (runOf fs k) [some a0, none] h) (fun _ h => Q .non h) Q noB noB fun c fs _ h => E c fs h) : wp (runOf fs (k + 1) i__law_word [a0] h) Q E := by
  rw [run__law_word]
  have ed : startD 2 [a0] = [some a0, none] := rfl
  with_reducible exact wp_fn2 ed p
theorem go__law_token (k : Nat) {a0 : D} {h : AH} {Q : D → AH → Prop} {E : EX} (p : ws (m__law_token (runOf fs k) [some a0, none, none, none, none] h) (fun _ h => Q .non h) Q noB noB fun c fs _ h => E c fs h) : wp (runOf fs (k + 1) i__law_token [a0] h) Q E := by
  rw [run__law_token]
  have ed : startD 5 [a0] = [some a0, none, none, none, none] := rfl
  with_reducible exact wp_fn2 ed p
theorem go__law_needs_blank (k : Nat) {a0 a1 : D} {h : AH} {Q : D → AH → Prop} {E : EX} (p : ws (m__law_needs_blank (runOf fs k) [some a0, some a1] h) (fun _ h => Q .non h) Q noB noB fun c fs _ h => E c fs h) : wp (runOf fs (k + 1) i__law_needs_blank [a0, a1] h) Q E := by
  rw [run__law_needs_blank]
  have ed : startD 2 [a0, a1] = [some a0, some a1] := rfl
  with_reducible exact wp_fn2 ed p
theorem go_law (k : Nat) {a0 : D} {h : AH} {Q : D → AH → Prop} {E : EX} (p : ws (m_law (runOf fs k) [some a0, none, none, none, none] h) (fun _ h => Q .non h) Q noB noB fun c fs _ h => E c fs h) : wp (runOf fs (k + 1) i_law [a0] h) Q E := by
  rw [run_law]
  have ed : startD 5 [a0] = [some a0, none, none, none, none] := rfl
  with_reducible exact wp_fn2 ed p
-- end of the mirror
noncomputable def glb : List (Str × Gi) := [(("run_of" : Str), Gi.fn 0 3), (("number_end" : Str), Gi.fn 1 2), (("symbol_at" : Str), Gi.fn 2 2), (("must_be_literal" : Str), Gi.fn 3 2), (("tokens_of" : Str), Gi.fn 4 2), (("_law_dice" : Str), Gi.fn 5 1), (("_law_roll" : Str), Gi.fn 6 2), (("_law_rounds" : Str), Gi.fn 7 2), (("_law_word" : Str), Gi.fn 8 1), (("_law_token" : Str), Gi.fn 9 1), (("_law_needs_blank" : Str), Gi.fn 10 2), (("law" : Str), Gi.fn 11 1), (("LEAST" : Str), Gi.val v_LEAST), (("MOST" : Str), Gi.val v_MOST), (("LETTERS" : Str), Gi.val v_LETTERS), (("FIGURES" : Str), Gi.val v_FIGURES), (("SYMBOLS" : Str), Gi.val v_SYMBOLS), (("BadText" : Str), Gi.exc 1 2 (some [("row", .par 0)]))]
noncomputable def blt : List Str := ["abs", "int", "len", "range", "str", "super"]
theorem st_run_of : FStat glb blt xtab xflds mth cls xm f_run_of := ⟨⟨rfl, rfl, rfl, by decide +kernel, rfl, by decide +kernel, by decide +kernel⟩, fun fn => by kernel_rfl⟩
theorem st_number_end : FStat glb blt xtab xflds mth cls xm f_number_end := ⟨⟨rfl, rfl, rfl, by decide +kernel, rfl, by decide +kernel, by decide +kernel⟩, fun fn => by kernel_rfl⟩
theorem st_symbol_at : FStat glb blt xtab xflds mth cls xm f_symbol_at := ⟨⟨rfl, rfl, rfl, by decide +kernel, rfl, by decide +kernel, by decide +kernel⟩, fun fn => by kernel_rfl⟩
theorem st_must_be_literal : FStat glb blt xtab xflds mth cls xm f_must_be_literal := ⟨⟨rfl, rfl, rfl, by decide +kernel, rfl, by decide +kernel, by decide +kernel⟩, fun fn => by kernel_rfl⟩
theorem st_tokens_of : FStat glb blt xtab xflds mth cls xm f_tokens_of := ⟨⟨rfl, rfl, rfl, by decide +kernel, rfl, by decide +kernel, by decide +kernel⟩, fun fn => by kernel_rfl⟩
theorem st__law_dice : FStat glb blt xtab xflds mth cls xm f__law_dice := ⟨⟨rfl, rfl, rfl, by decide +kernel, rfl, by decide +kernel, by decide +kernel⟩, fun fn => by kernel_rfl⟩
theorem st__law_roll : FStat glb blt xtab xflds mth cls xm f__law_roll := ⟨⟨rfl, rfl, rfl, by decide +kernel, rfl, by decide +kernel, by decide +kernel⟩, fun fn => by kernel_rfl⟩
theorem st__law_rounds : FStat glb blt xtab xflds mth cls xm f__law_rounds := ⟨⟨rfl, rfl, rfl, by decide +kernel, rfl, by decide +kernel, by decide +kernel⟩, fun fn => by kernel_rfl⟩
theorem st__law_word : FStat glb blt xtab xflds mth cls xm f__law_word := ⟨⟨rfl, rfl, rfl, by decide +kernel, rfl, by decide +kernel, by decide +kernel⟩, fun fn => by kernel_rfl⟩
theorem st__law_token : FStat glb blt xtab xflds mth cls xm f__law_token := ⟨⟨rfl, rfl, rfl, by decide +kernel, rfl, by decide +kernel, by decide +kernel⟩, fun fn => by kernel_rfl⟩
theorem st__law_needs_blank : FStat glb blt xtab xflds mth cls xm f__law_needs_blank := ⟨⟨rfl, rfl, rfl, by decide +kernel, rfl, by decide +kernel, by decide +kernel⟩, fun fn => by kernel_rfl⟩
theorem st_law : FStat glb blt xtab xflds mth cls xm f_law := ⟨⟨rfl, rfl, rfl, by decide +kernel, rfl, by decide +kernel, by decide +kernel⟩, fun fn => by kernel_rfl⟩
theorem sts : ∀ (i : Nat) (f : FInfo), fs[i]? = some f → FStat glb blt xtab xflds mth cls xm f := by
  intro i f e
  rcases i with _ | i
  · cases e; exact st_run_of
  rcases i with _ | i
  · cases e; exact st_number_end
  rcases i with _ | i
  · cases e; exact st_symbol_at
  rcases i with _ | i
  · cases e; exact st_must_be_literal
  rcases i with _ | i
  · cases e; exact st_tokens_of
  rcases i with _ | i
  · cases e; exact st__law_dice
  rcases i with _ | i
  · cases e; exact st__law_roll
  rcases i with _ | i
  · cases e; exact st__law_rounds
  rcases i with _ | i
  · cases e; exact st__law_word
  rcases i with _ | i
  · cases e; exact st__law_token
  rcases i with _ | i
  · cases e; exact st__law_needs_blank
  rcases i with _ | i
  · cases e; exact st_law
  · cases e
noncomputable def valsL : List (Str × D) := [("LEAST", v_LEAST), ("MOST", v_MOST), ("LETTERS", v_LETTERS), ("FIGURES", v_FIGURES), ("SYMBOLS", v_SYMBOLS)]
theorem lk_mem {α : Type} : ∀ {l : List (Str × α)} {x : Str} {a : α}, l.lookup x = some a → (x, a) ∈ l := fun h => PySem.mem_of_lookup h
theorem glb_val (x : Str) (d : D) (e : glb.lookup x = some (.val d)) : (x, d) ∈ valsL := by
  have h := lk_mem e
  simp only [glb, List.mem_cons, List.not_mem_nil, or_false, Prod.mk.injEq, Gi.val.injEq, reduceCtorEq, and_false, false_or] at h
  simp only [valsL, List.mem_cons, List.not_mem_nil, or_false, Prod.mk.injEq]
  exact h
/-! ### what the top has written -/
theorem all_mk {l : PySem.W.OpenLaw} {w : World} {q : Program} {K : PySem.W.Frag} {h : Heap} {mg : Str → Option Value} {fa : Addr} (X : K.In h) (G : h.Ns mainGlobals mg) (hfa : mg "law" = some (.ref fa)) (T : Tabs q K mg h) {ts : List Addr} (T2 : ∀ P ∈ ts, h.get? P = some { cls := .none, data := .fields #[] })
    {f0 : Addr} {od0 an0 : Option Addr} {sl0 : Array (Option Value)} {oc0 kV0 dc0 pm0 cd0 ct0 : Value}
    {f1 : Addr} {od1 an1 : Option Addr} {sl1 : Array (Option Value)} {oc1 kV1 dc1 pm1 cd1 ct1 : Value}
    {f2 : Addr} {od2 an2 : Option Addr} {sl2 : Array (Option Value)} {oc2 kV2 dc2 pm2 cd2 ct2 : Value}
    {f3 : Addr} {od3 an3 : Option Addr} {sl3 : Array (Option Value)} {oc3 kV3 dc3 pm3 cd3 ct3 : Value}
    {f4 : Addr} {od4 an4 : Option Addr} {sl4 : Array (Option Value)} {oc4 kV4 dc4 pm4 cd4 ct4 : Value}
    {f5 : Addr} {od5 an5 : Option Addr} {sl5 : Array (Option Value)} {oc5 kV5 dc5 pm5 cd5 ct5 : Value}
    {f6 : Addr} {od6 an6 : Option Addr} {sl6 : Array (Option Value)} {oc6 kV6 dc6 pm6 cd6 ct6 : Value}
    {f7 : Addr} {od7 an7 : Option Addr} {sl7 : Array (Option Value)} {oc7 kV7 dc7 pm7 cd7 ct7 : Value}
    {f8 : Addr} {od8 an8 : Option Addr} {sl8 : Array (Option Value)} {oc8 kV8 dc8 pm8 cd8 ct8 : Value}
    {f9 : Addr} {od9 an9 : Option Addr} {sl9 : Array (Option Value)} {oc9 kV9 dc9 pm9 cd9 ct9 : Value}
    {f10 : Addr} {od10 an10 : Option Addr} {sl10 : Array (Option Value)} {oc10 kV10 dc10 pm10 cd10 ct10 : Value}
    {f11 : Addr} {od11 an11 : Option Addr} {sl11 : Array (Option Value)} {oc11 kV11 dc11 pm11 cd11 ct11 : Value}
    {t0_0 : Tok}
    {t1_0 : Tok}
    {t2_0 : Tok}
    {t3_0 : Tok}
    {t4_1 : Tok}
    {t4_2 : Tok}
    {t4_3 : Tok}
    {t4_4 : Tok}
    {t4_5 : Tok}
    {t4_6 : Tok}
    {t4_7 : Tok}
    {t4_8 : Tok}
    {t4_9 : Tok}
    {t4_10 : Tok}
    {t4_11 : Tok}
    {t4_12 : Tok}
    {t4_13 : Tok}
    {t4_14 : Tok}
    {t4_15 : Tok}
    {t4_16 : Tok}
    {p4_0 : Addr} {pn4_0 : Nat} {ps4_0 : Array (Option Value)}
    {XB_nm XB_q : Str} {CB XB_N : Addr} {XB_bs XB_sub : List Value} {XB_sn : List Str} {XB_h XB_ab : Bool} {XB_col : Option Bool} {XB_dd : Option Addr} {XB_0 XB_1 XB_2 XB_3 XB_5 : Option Value}
    {C1 : Addr}
    {Xnm1 Xqn1 : Str} {XN1 : Addr} {Xbs1 Xsub1 : List Value} {Xsn1 : List Str} {Xab1 : Bool} {Xcol1 : Option Bool} {Xdd1 : Option Addr} {Xm01 Xm11 Xm21 Xm31 Xm51 : Option Value} {XfI1 Xcda1 Xcc1 : Addr} {XkV1 Xdoc1 Xpm1 Xct1 Xoc1 : Value} {Xan1 Xod1 : Option Addr} {Xosl1 : Array (Option Value)} {Xcoc1 : Value} {Xcod1 : Option Addr} {Xvs1 : Array Value} {Xcsl1 : Array (Option Value)} {Xfile1 : Str} {Xtf1 : Tok} {Xclc1 : Value} {Xcld1 : Option Addr} {Xcls1 : Array (Option Value)}
    (a0 : PySem.W.nsIn K mainGlobals "run_of" = some (some (.ref f0)))
    (l0 : K.lookup f0 = some ⟨oc0, od0, .func (PySem.W.fnOf "run_of" "run_of" (defArgs (topS 9)) (defBody (topS 9)) (defScope (topS 9)) .none kV0 dc0 pm0 an0 cd0 ct0), sl0⟩)
    (c0 : PySem.W.codeIn K cd0 "run_of" = true)
    (k0 : PySem.W.keepIn K (.ref f0) = true)
    (a1 : PySem.W.nsIn K mainGlobals "number_end" = some (some (.ref f1)))
    (l1 : K.lookup f1 = some ⟨oc1, od1, .func (PySem.W.fnOf "number_end" "number_end" (defArgs (topS 10)) (defBody (topS 10)) (defScope (topS 10)) .none kV1 dc1 pm1 an1 cd1 ct1), sl1⟩)
    (c1 : PySem.W.codeIn K cd1 "number_end" = true)
    (k1 : PySem.W.keepIn K (.ref f1) = true)
    (a2 : PySem.W.nsIn K mainGlobals "symbol_at" = some (some (.ref f2)))
    (l2 : K.lookup f2 = some ⟨oc2, od2, .func (PySem.W.fnOf "symbol_at" "symbol_at" (defArgs (topS 11)) (defBody (topS 11)) (defScope (topS 11)) .none kV2 dc2 pm2 an2 cd2 ct2), sl2⟩)
    (c2 : PySem.W.codeIn K cd2 "symbol_at" = true)
    (k2 : PySem.W.keepIn K (.ref f2) = true)
    (a3 : PySem.W.nsIn K mainGlobals "must_be_literal" = some (some (.ref f3)))
    (l3 : K.lookup f3 = some ⟨oc3, od3, .func (PySem.W.fnOf "must_be_literal" "must_be_literal" (defArgs (topS 12)) (defBody (topS 12)) (defScope (topS 12)) .none kV3 dc3 pm3 an3 cd3 ct3), sl3⟩)
    (c3 : PySem.W.codeIn K cd3 "must_be_literal" = true)
    (k3 : PySem.W.keepIn K (.ref f3) = true)
    (a4 : PySem.W.nsIn K mainGlobals "tokens_of" = some (some (.ref f4)))
    (l4 : K.lookup f4 = some ⟨oc4, od4, .func (PySem.W.fnOf "tokens_of" "tokens_of" (defArgs (topS 13)) (defBody (topS 13)) (defScope (topS 13)) .none kV4 dc4 pm4 an4 cd4 ct4), sl4⟩)
    (c4 : PySem.W.codeIn K cd4 "tokens_of" = true)
    (k4 : PySem.W.keepIn K (.ref f4) = true)
    (a5 : PySem.W.nsIn K mainGlobals "_law_dice" = some (some (.ref f5)))
    (l5 : K.lookup f5 = some ⟨oc5, od5, .func (PySem.W.fnOf "_law_dice" "_law_dice" (defArgs (topS 15)) (defBody (topS 15)) (defScope (topS 15)) .none kV5 dc5 pm5 an5 cd5 ct5), sl5⟩)
    (c5 : PySem.W.codeIn K cd5 "_law_dice" = true)
    (k5 : PySem.W.keepIn K (.ref f5) = true)
    (a6 : PySem.W.nsIn K mainGlobals "_law_roll" = some (some (.ref f6)))
    (l6 : K.lookup f6 = some ⟨oc6, od6, .func (PySem.W.fnOf "_law_roll" "_law_roll" (defArgs (topS 16)) (defBody (topS 16)) (defScope (topS 16)) .none kV6 dc6 pm6 an6 cd6 ct6), sl6⟩)
    (c6 : PySem.W.codeIn K cd6 "_law_roll" = true)
    (k6 : PySem.W.keepIn K (.ref f6) = true)
    (a7 : PySem.W.nsIn K mainGlobals "_law_rounds" = some (some (.ref f7)))
    (l7 : K.lookup f7 = some ⟨oc7, od7, .func (PySem.W.fnOf "_law_rounds" "_law_rounds" (defArgs (topS 17)) (defBody (topS 17)) (defScope (topS 17)) .none kV7 dc7 pm7 an7 cd7 ct7), sl7⟩)
    (c7 : PySem.W.codeIn K cd7 "_law_rounds" = true)
    (k7 : PySem.W.keepIn K (.ref f7) = true)
    (a8 : PySem.W.nsIn K mainGlobals "_law_word" = some (some (.ref f8)))
    (l8 : K.lookup f8 = some ⟨oc8, od8, .func (PySem.W.fnOf "_law_word" "_law_word" (defArgs (topS 18)) (defBody (topS 18)) (defScope (topS 18)) .none kV8 dc8 pm8 an8 cd8 ct8), sl8⟩)
    (c8 : PySem.W.codeIn K cd8 "_law_word" = true)
    (k8 : PySem.W.keepIn K (.ref f8) = true)
    (a9 : PySem.W.nsIn K mainGlobals "_law_token" = some (some (.ref f9)))
    (l9 : K.lookup f9 = some ⟨oc9, od9, .func (PySem.W.fnOf "_law_token" "_law_token" (defArgs (topS 19)) (defBody (topS 19)) (defScope (topS 19)) .none kV9 dc9 pm9 an9 cd9 ct9), sl9⟩)
    (c9 : PySem.W.codeIn K cd9 "_law_token" = true)
    (k9 : PySem.W.keepIn K (.ref f9) = true)
    (a10 : PySem.W.nsIn K mainGlobals "_law_needs_blank" = some (some (.ref f10)))
    (l10 : K.lookup f10 = some ⟨oc10, od10, .func (PySem.W.fnOf "_law_needs_blank" "_law_needs_blank" (defArgs (topS 20)) (defBody (topS 20)) (defScope (topS 20)) .none kV10 dc10 pm10 an10 cd10 ct10), sl10⟩)
    (c10 : PySem.W.codeIn K cd10 "_law_needs_blank" = true)
    (k10 : PySem.W.keepIn K (.ref f10) = true)
    (a11 : PySem.W.nsIn K mainGlobals "law" = some (some (.ref f11)))
    (l11 : K.lookup f11 = some ⟨oc11, od11, .func (PySem.W.fnOf "law" "law" (defArgs (topS 21)) (defBody (topS 21)) (defScope (topS 21)) .none kV11 dc11 pm11 an11 cd11 ct11), sl11⟩)
    (c11 : PySem.W.codeIn K cd11 "law" = true)
    (k11 : PySem.W.keepIn K (.ref f11) = true)
    (v0 : PySem.W.nsIn K mainGlobals "LEAST" = some (some (.int (-2147483648) t0_0)))
    (v1 : PySem.W.nsIn K mainGlobals "MOST" = some (some (.int 2147483647 t1_0)))
    (v2 : PySem.W.nsIn K mainGlobals "LETTERS" = some (some (.str "abcdefghijklmnopqrstuvwxyz" t2_0)))
    (v3 : PySem.W.nsIn K mainGlobals "FIGURES" = some (some (.str "0123456789" t3_0)))
    (v4 : PySem.W.nsIn K mainGlobals "SYMBOLS" = some (some (.ref p4_0)))
    (q4_0 : K.lookup p4_0 = some ⟨.type "tuple", none, .seq #[.str "==" t4_1, .str "+" t4_2, .str "-" t4_3, .str "*" t4_4, .str "/" t4_5, .str "<" t4_6, .str "&" t4_7, .str "^" t4_8, .str "|" t4_9, .str "," t4_10, .str "(" t4_11, .str ")" t4_12, .str "[" t4_13, .str "]" t4_14, .str ":" t4_15, .str "=" t4_16] pn4_0, ps4_0⟩)
    (z0 : PySem.W.nsIn K mainGlobals "abs" = some none)
    (z1 : PySem.W.nsIn K mainGlobals "int" = some none)
    (z2 : PySem.W.nsIn K mainGlobals "len" = some none)
    (z3 : PySem.W.nsIn K mainGlobals "range" = some none)
    (z4 : PySem.W.nsIn K mainGlobals "str" = some none)
    (z5 : PySem.W.nsIn K mainGlobals "super" = some none)
    (XBv : PySem.W.nsIn K mainGlobals "LineError" = some (some (.ref CB)))
    (XBl : K.lookup CB = some (excClassObj XB_nm XB_q CB XB_N XB_bs [.type "ValueError", .type "Exception", .type "BaseException", .type "object"] XB_h XB_sn XB_sub XB_ab XB_col XB_dd XB_0 XB_1 XB_2 XB_3 XB_5 "ValueError.__new__"))
    (XBf : PySem.W.findIn K (.ref CB) "__init__" = some (some (.builtin "ValueError.__init__")))
    (Xv1 : PySem.W.nsIn K mainGlobals "BadText" = some (some (.ref C1)))
    (Xk1 : PySem.W.keepIn K (.ref C1) = true)
    (Xe1 : PySem.W.subIn K (.ref C1) (.type "BaseException") = some true)
    (Xt1 : PySem.W.typeIn K (.ref C1) = some (.type "type"))
    (Xw1 : PySem.W.subIn K (.ref C1) (.type "ValueError") = some true)
    (XL1 : K.lookup C1 = some (excClassObj Xnm1 Xqn1 C1 XN1 Xbs1 (.ref CB :: [.type "ValueError", .type "Exception", .type "BaseException", .type "object"]) true Xsn1 Xsub1 Xab1 Xcol1 Xdd1 Xm01 Xm11 Xm21 Xm31 Xm51 "ValueError.__new__"))
    (Xs1 : PySem.W.findIn K (.ref C1) "__setattr__" = some (some (.builtin "object.__setattr__")))
    (Xi1 : PySem.W.findIn K (.ref C1) "__init__" = some (some (.ref XfI1)))
    (Xf1 : PySem.W.typeIn K (.ref XfI1) = some (.type "function"))
    (Xl1 : K.lookup XfI1 = some ⟨Xoc1, Xod1, .func (PySem.W.ksFn "__init__" "BadText.__init__" (defArgs (metS 2 0)) (defBody (metS 2 0)) (defScope (metS 2 0)) .none XkV1 Xdoc1 Xpm1 Xan1 (.ref Xcda1) Xct1 Xcc1), Xosl1⟩)
    (Xc1 : PySem.W.codeIn K (.ref Xcda1) "BadText.__init__" = true)
    (Xd1 : K.lookup Xcda1 = some ⟨Xcoc1, Xcod1, .fields Xvs1, Xcsl1⟩)
    (Xh1 : Xvs1[2]? = some (.str Xfile1 Xtf1))
    (Xg1 : ((l.prog.main.file : Str) == Xfile1) = true)
    (Xp1 : K.lookup Xcc1 = some ⟨Xclc1, Xcld1, .cell (some (.ref C1)), Xcls1⟩)
    (Xm1 : PySem.W.mroIn K C1 (.ref C1) = some true)
    (Xn1_0 : PySem.W.findIn K (.ref C1) "row" = some none)
    (Xo : PySem.W.nsIn K cStatics "thirdparty.any" = some none)
    (Xy : (l.prog.main.scope.names.lookup ("super" : Str)).isSome = false)
    : ∃ (fd : FuncData) (cs : List (Addr × Addr)), (∀ p ∈ cs, PySem.W.CodeHd h p.1 p.2 ∧ h.get? p.2 = some { cls := .none, data := .fields #[] }) ∧ (∀ p ∈ cs, K.lookup p.2 = none) ∧ (∀ (s : Shared) (v : Value), BindsTo s fd ⟨[v], []⟩ [("script", v)]) ∧ ∃ fA cA : Nat → Addr, ∀ base : Heap, K.In base → base.Ns mainGlobals mg → (∀ p ∈ cs, GxR.TabB base mg p.1 p.2) → FnOk l.prog w K mg base (L2.CX l.prog w) (3 * 70) fa fd ["script"] (spOf ⟨K, fA, cA, cs.map (·.2), w, none⟩ 1 (runOf fs 70 11)) := by
  have e := hfa.symm.trans (PySem.W.mg_of X G a11)
  cases e
  have F0 := fun_mk (st := topS 9) l0 c0 k0
  have b0 := F0.binds (ps := ["text", "at", "signs"]) fun _ _ _ _ _ _ us hl => match us, hl with | [_, _, _], _ => rfl
  have F1 := fun_mk (st := topS 10) l1 c1 k1
  have b1 := F1.binds (ps := ["text", "at"]) fun _ _ _ _ _ _ us hl => match us, hl with | [_, _], _ => rfl
  have F2 := fun_mk (st := topS 11) l2 c2 k2
  have b2 := F2.binds (ps := ["text", "at"]) fun _ _ _ _ _ _ us hl => match us, hl with | [_, _], _ => rfl
  have F3 := fun_mk (st := topS 12) l3 c3 k3
  have b3 := F3.binds (ps := ["token", "row"]) fun _ _ _ _ _ _ us hl => match us, hl with | [_, _], _ => rfl
  have F4 := fun_mk (st := topS 13) l4 c4 k4
  have b4 := F4.binds (ps := ["text", "row"]) fun _ _ _ _ _ _ us hl => match us, hl with | [_, _], _ => rfl
  have F5 := fun_mk (st := topS 15) l5 c5 k5
  have b5 := F5.binds (ps := ["cell"]) fun _ _ _ _ _ _ us hl => match us, hl with | [_], _ => rfl
  have F6 := fun_mk (st := topS 16) l6 c6 k6
  have b6 := F6.binds (ps := ["dice", "many"]) fun _ _ _ _ _ _ us hl => match us, hl with | [_, _], _ => rfl
  have F7 := fun_mk (st := topS 17) l7 c7 k7
  have b7 := F7.binds (ps := ["script", "most"]) fun _ _ _ _ _ _ us hl => match us, hl with | [_, _], _ => rfl
  have F8 := fun_mk (st := topS 18) l8 c8 k8
  have b8 := F8.binds (ps := ["dice"]) fun _ _ _ _ _ _ us hl => match us, hl with | [_], _ => rfl
  have F9 := fun_mk (st := topS 19) l9 c9 k9
  have b9 := F9.binds (ps := ["dice"]) fun _ _ _ _ _ _ us hl => match us, hl with | [_], _ => rfl
  have F10 := fun_mk (st := topS 20) l10 c10 k10
  have b10 := F10.binds (ps := ["one", "other"]) fun _ _ _ _ _ _ us hl => match us, hl with | [_, _], _ => rfl
  have F11 := fun_mk (st := topS 21) l11 c11 k11
  have b11 := F11.binds (ps := ["script"]) fun _ _ _ _ _ _ us hl => match us, hl with | [_], _ => rfl
  refine ⟨PySem.W.fnOf "law" "law" (defArgs (topS 21)) (defBody (topS 21)) (defScope (topS 21)) .none kV11 dc11 pm11 an11 cd11 ct11, [], ?tb, ?nt, fun s v => .of_eq rfl, fun i => [f0, f1, f2, f3, f4, f5, f6, f7, f8, f9, f10, fa].getD i 0, fun i => ([0, C1] : List Addr).getD i 0, fun base hKb hGb TB => ?_⟩
  case tb =>
    intro p hp
    exact absurd hp List.not_mem_nil
  case nt =>
    intro p hp
    exact absurd hp List.not_mem_nil
  refine prog_ok (L := ⟨K, fun i => [f0, f1, f2, f3, f4, f5, f6, f7, f8, f9, f10, fa].getD i 0, fun i => ([0, C1] : List Addr).getD i 0, ([] : List (Addr × Addr)).map (·.2), w, none⟩) (fs := fs) (fds := fun i => match i with | 0 => PySem.W.fnOf "run_of" "run_of" (defArgs (topS 9)) (defBody (topS 9)) (defScope (topS 9)) .none kV0 dc0 pm0 an0 cd0 ct0 | 1 => PySem.W.fnOf "number_end" "number_end" (defArgs (topS 10)) (defBody (topS 10)) (defScope (topS 10)) .none kV1 dc1 pm1 an1 cd1 ct1 | 2 => PySem.W.fnOf "symbol_at" "symbol_at" (defArgs (topS 11)) (defBody (topS 11)) (defScope (topS 11)) .none kV2 dc2 pm2 an2 cd2 ct2 | 3 => PySem.W.fnOf "must_be_literal" "must_be_literal" (defArgs (topS 12)) (defBody (topS 12)) (defScope (topS 12)) .none kV3 dc3 pm3 an3 cd3 ct3 | 4 => PySem.W.fnOf "tokens_of" "tokens_of" (defArgs (topS 13)) (defBody (topS 13)) (defScope (topS 13)) .none kV4 dc4 pm4 an4 cd4 ct4 | 5 => PySem.W.fnOf "_law_dice" "_law_dice" (defArgs (topS 15)) (defBody (topS 15)) (defScope (topS 15)) .none kV5 dc5 pm5 an5 cd5 ct5 | 6 => PySem.W.fnOf "_law_roll" "_law_roll" (defArgs (topS 16)) (defBody (topS 16)) (defScope (topS 16)) .none kV6 dc6 pm6 an6 cd6 ct6 | 7 => PySem.W.fnOf "_law_rounds" "_law_rounds" (defArgs (topS 17)) (defBody (topS 17)) (defScope (topS 17)) .none kV7 dc7 pm7 an7 cd7 ct7 | 8 => PySem.W.fnOf "_law_word" "_law_word" (defArgs (topS 18)) (defBody (topS 18)) (defScope (topS 18)) .none kV8 dc8 pm8 an8 cd8 ct8 | 9 => PySem.W.fnOf "_law_token" "_law_token" (defArgs (topS 19)) (defBody (topS 19)) (defScope (topS 19)) .none kV9 dc9 pm9 an9 cd9 ct9 | 10 => PySem.W.fnOf "_law_needs_blank" "_law_needs_blank" (defArgs (topS 20)) (defBody (topS 20)) (defScope (topS 20)) .none kV10 dc10 pm10 an10 cd10 ct10 | _ => PySem.W.fnOf "law" "law" (defArgs (topS 21)) (defBody (topS 21)) (defScope (topS 21)) .none kV11 dc11 pm11 an11 cd11 ct11) rfl sts ?ft ?gl ?gx ?xt rfl ?gt ?gxm ?gc ?gm ?gk 70 11 f_law rfl
  case ft =>
    intro i f e
    rcases i with _ | i
    · cases e; exact ⟨F0, b0, fun hg => absurd hg (by decide)⟩
    rcases i with _ | i
    · cases e; exact ⟨F1, b1, fun hg => absurd hg (by decide)⟩
    rcases i with _ | i
    · cases e; exact ⟨F2, b2, fun hg => absurd hg (by decide)⟩
    rcases i with _ | i
    · cases e; exact ⟨F3, b3, fun hg => absurd hg (by decide)⟩
    rcases i with _ | i
    · cases e; exact ⟨F4, b4, fun hg => absurd hg (by decide)⟩
    rcases i with _ | i
    · cases e; exact ⟨F5, b5, fun hg => absurd hg (by decide)⟩
    rcases i with _ | i
    · cases e; exact ⟨F6, b6, fun hg => absurd hg (by decide)⟩
    rcases i with _ | i
    · cases e; exact ⟨F7, b7, fun hg => absurd hg (by decide)⟩
    rcases i with _ | i
    · cases e; exact ⟨F8, b8, fun hg => absurd hg (by decide)⟩
    rcases i with _ | i
    · cases e; exact ⟨F9, b9, fun hg => absurd hg (by decide)⟩
    rcases i with _ | i
    · cases e; exact ⟨F10, b10, fun hg => absurd hg (by decide)⟩
    rcases i with _ | i
    · cases e; exact ⟨F11, b11, fun hg => absurd hg (by decide)⟩
    · cases e
  case gl =>
    refine ⟨fun x i n e => ?_, fun x d e => ?_, fun x hx => ?_⟩
    · have h := lk_mem e
      simp only [glb, List.mem_cons, List.not_mem_nil, or_false, Prod.mk.injEq, Gi.fn.injEq, reduceCtorEq, and_false] at h
      rcases h with ⟨rfl, rfl, rfl⟩ | ⟨rfl, rfl, rfl⟩ | ⟨rfl, rfl, rfl⟩ | ⟨rfl, rfl, rfl⟩ | ⟨rfl, rfl, rfl⟩ | ⟨rfl, rfl, rfl⟩ | ⟨rfl, rfl, rfl⟩ | ⟨rfl, rfl, rfl⟩ | ⟨rfl, rfl, rfl⟩ | ⟨rfl, rfl, rfl⟩ | ⟨rfl, rfl, rfl⟩ | ⟨rfl, rfl, rfl⟩
      · exact ⟨PySem.W.mg_of X G a0, f_run_of, rfl, rfl⟩
      · exact ⟨PySem.W.mg_of X G a1, f_number_end, rfl, rfl⟩
      · exact ⟨PySem.W.mg_of X G a2, f_symbol_at, rfl, rfl⟩
      · exact ⟨PySem.W.mg_of X G a3, f_must_be_literal, rfl, rfl⟩
      · exact ⟨PySem.W.mg_of X G a4, f_tokens_of, rfl, rfl⟩
      · exact ⟨PySem.W.mg_of X G a5, f__law_dice, rfl, rfl⟩
      · exact ⟨PySem.W.mg_of X G a6, f__law_roll, rfl, rfl⟩
      · exact ⟨PySem.W.mg_of X G a7, f__law_rounds, rfl, rfl⟩
      · exact ⟨PySem.W.mg_of X G a8, f__law_word, rfl, rfl⟩
      · exact ⟨PySem.W.mg_of X G a9, f__law_token, rfl, rfl⟩
      · exact ⟨PySem.W.mg_of X G a10, f__law_needs_blank, rfl, rfl⟩
      · exact ⟨PySem.W.mg_of X G a11, f_law, rfl, rfl⟩
    · have := glb_val x d e
      simp only [valsL, List.mem_cons, List.not_mem_nil, or_false, Prod.mk.injEq] at this
      rcases this with ⟨rfl, rfl⟩ | ⟨rfl, rfl⟩ | ⟨rfl, rfl⟩ | ⟨rfl, rfl⟩ | ⟨rfl, rfl⟩
      · exact ⟨.int (-2147483648), _, PySem.W.mg_of X G v0, ⟨_, rfl⟩, fun _ _ => .int _⟩
      · exact ⟨.int 2147483647, _, PySem.W.mg_of X G v1, ⟨_, rfl⟩, fun _ _ => .int _⟩
      · exact ⟨.str "abcdefghijklmnopqrstuvwxyz", _, PySem.W.mg_of X G v2, ⟨_, rfl⟩, fun _ _ => .str _⟩
      · exact ⟨.str "0123456789", _, PySem.W.mg_of X G v3, ⟨_, rfl⟩, fun _ _ => .str _⟩
      · exact ⟨.ref p4_0, _, PySem.W.mg_of X G v4, rfl, fun _ _ => tupK (vs := [.str "==", .str "+", .str "-", .str "*", .str "/", .str "<", .str "&", .str "^", .str "|", .str ",", .str "(", .str ")", .str "[", .str "]", .str ":", .str "="]) q4_0 (by rw [sizeLine_eq]; exact Nat.le_of_ble_eq_true rfl) (.cons (⟨_, rfl⟩) (.cons (⟨_, rfl⟩) (.cons (⟨_, rfl⟩) (.cons (⟨_, rfl⟩) (.cons (⟨_, rfl⟩) (.cons (⟨_, rfl⟩) (.cons (⟨_, rfl⟩) (.cons (⟨_, rfl⟩) (.cons (⟨_, rfl⟩) (.cons (⟨_, rfl⟩) (.cons (⟨_, rfl⟩) (.cons (⟨_, rfl⟩) (.cons (⟨_, rfl⟩) (.cons (⟨_, rfl⟩) (.cons (⟨_, rfl⟩) (.cons (⟨_, rfl⟩) .nil)))))))))))))))) (fun _ _ => (.cons (.str _) (.cons (.str _) (.cons (.str _) (.cons (.str _) (.cons (.str _) (.cons (.str _) (.cons (.str _) (.cons (.str _) (.cons (.str _) (.cons (.str _) (.cons (.str _) (.cons (.str _) (.cons (.str _) (.cons (.str _) (.cons (.str _) (.cons (.str _) .nil))))))))))))))))) _ _⟩
    · simp only [blt, List.mem_cons, List.not_mem_nil, or_false] at hx
      rcases hx with rfl | rfl | rfl | rfl | rfl | rfl
      · exact PySem.W.mg_none_of X G z0
      · exact PySem.W.mg_none_of X G z1
      · exact PySem.W.mg_none_of X G z2
      · exact PySem.W.mg_none_of X G z3
      · exact PySem.W.mg_none_of X G z4
      · exact PySem.W.mg_none_of X G z5
  case gt =>
    intro x xs e
    have h := glb_val x _ e
    simp only [valsL, List.mem_cons, List.not_mem_nil, or_false, Prod.mk.injEq] at h
    rcases h with ⟨rfl, h⟩ | ⟨rfl, h⟩ | ⟨rfl, h⟩ | ⟨rfl, h⟩ | ⟨rfl, h⟩
    · cases h
    · cases h
    · cases h
    · cases h
    · cases h; exact ⟨_, _, PySem.W.mg_of X G v4, fun _ _ => tupK (vs := [.str "==", .str "+", .str "-", .str "*", .str "/", .str "<", .str "&", .str "^", .str "|", .str ",", .str "(", .str ")", .str "[", .str "]", .str ":", .str "="]) q4_0 (by rw [sizeLine_eq]; exact Nat.le_of_ble_eq_true rfl) (.cons (⟨_, rfl⟩) (.cons (⟨_, rfl⟩) (.cons (⟨_, rfl⟩) (.cons (⟨_, rfl⟩) (.cons (⟨_, rfl⟩) (.cons (⟨_, rfl⟩) (.cons (⟨_, rfl⟩) (.cons (⟨_, rfl⟩) (.cons (⟨_, rfl⟩) (.cons (⟨_, rfl⟩) (.cons (⟨_, rfl⟩) (.cons (⟨_, rfl⟩) (.cons (⟨_, rfl⟩) (.cons (⟨_, rfl⟩) (.cons (⟨_, rfl⟩) (.cons (⟨_, rfl⟩) .nil)))))))))))))))) (fun _ _ => (.cons (.str _) (.cons (.str _) (.cons (.str _) (.cons (.str _) (.cons (.str _) (.cons (.str _) (.cons (.str _) (.cons (.str _) (.cons (.str _) (.cons (.str _) (.cons (.str _) (.cons (.str _) (.cons (.str _) (.cons (.str _) (.cons (.str _) (.cons (.str _) .nil))))))))))))))))) _ _, q4_0, rfl, rfl⟩
  case gxm =>
    intro c m i e
    have h := lk_any e
    simp only [xm, List.mem_cons, List.not_mem_nil, or_false, Prod.mk.injEq] at h
  case gc =>
    intro c f e
    obtain ⟨l, h, hf⟩ := lookC_mem e
    simp only [cls, List.mem_cons, List.not_mem_nil, or_false, Prod.mk.injEq] at h
  case gm =>
    intro c m i np e
    have h := lkM_mem e
    simp only [mth, List.mem_cons, List.not_mem_nil, or_false, Prod.mk.injEq] at h
  case gk =>
    intro x c i n e
    have h := lk_mem e
    simp only [glb, List.mem_cons, List.not_mem_nil, or_false, Prod.mk.injEq, Gi.cls.injEq, reduceCtorEq, and_false, false_or] at h
  case gx =>
    intro x c n g e
    have h := lk_mem e
    simp only [glb, List.mem_cons, List.not_mem_nil, or_false, Prod.mk.injEq, Gi.exc.injEq, reduceCtorEq, and_false, false_or] at h
    rcases h with ⟨rfl, rfl, rfl, rfl⟩
    · exact xok_init (m := metS 2 0) (sf := "self") (ps := ["self", "row", "words"]) (n := 2) XL1 rfl (PySem.W.mg_of X G Xv1) (PySem.W.mg_none_of X G z5) Xs1 Xe1 Xt1 Xk1 Xi1 Xf1 Xl1 Xc1 Xd1 Xh1 Xg1 Xy Xp1 (sup_of XL1 XBl XBf) Xm1 Xo Xw1 rfl ⟨rfl, rfl, rfl, by decide +kernel, rfl, by decide +kernel, by decide +kernel, by decide +kernel⟩ ⟨rfl, rfl⟩ rfl rfl rfl (by decide) (by decide +kernel) rfl (fun ws h => by (match ws, h with | [_, _], _ => rfl)) rfl (by decide) (by intro p hp; simp only [List.mem_cons, List.not_mem_nil, or_false] at hp; rcases hp with rfl <;> assumption) (fun us hl => match us, hl with | [_, _, _], _ => rfl) (fun _ => rfl)
  case xt =>
    refine ⟨fun c c2 b e => ?_, fun c f e => ?_⟩
    · have h := lkP e
      simp only [xtab, List.mem_cons, List.not_mem_nil, or_false, Prod.mk.injEq] at h
    · have h := lkN e
      simp only [xflds, List.mem_cons, List.not_mem_nil, or_false, Prod.mk.injEq] at h
local macro_rules | `(tactic| walk_at "ev") => `(tactic| simp only [sSeq, sAsg, sIf, sRet, sRetN, sNext, sExpr, sSub, setL, sAug, sPar, asgTs, R.thn, RT.thn, R.bind, e2, e1, eVar, eC, eA, aCons, aNil, bOr, bNot, bTru, bOf, bAnd, asB, truD, eCh, cmpI, callD, asgT, Cod.addD, Cod.subD, modD, Cod.mulD, fdivD, powD, Cod.intD, absD, isiD, neD, eqD, negD, Cod.notD, eIf, eAnd, eOr, ixD, okO, isD, Cod.isNon, mkLst, mkTup, iaddD, tyN, eqB_int, eqB_bl, eqB_int_non, eqB_non_int, eqB_non,
  List.getElem?_cons_zero, List.getElem?_cons_succ, List.set_cons_zero, List.set_cons_succ, List.length_cons, List.length_nil])
theorem roll_ok (fn : Fn) {n : Nat} {m : Int} {h : AH} (hm : 0 < m) (hs : small m = true) (d : Dice h n) : ∃ r h', fnD 3 (m__law_roll fn) [.loc n, .int m] h = .ok (.int r) h' ∧ 0 ≤ r ∧ r < m ∧ St1 n h h' ∧ Dice h' n := by
  obtain ⟨a, b, c, e⟩ := id d
  have hn : n < h.length := (List.getElem?_eq_some_iff.mp e).1
  have x2 : L2.atI [D.int a, D.int b, D.int c] 2 = some (.int c) := rfl
  have x0 : L2.atI [D.int a, D.int b, D.int c] 0 = some (.int a) := rfl
  by_cases hc : c = 2 ∨ (c = 1 ∧ 0 < a)
  · refine ⟨a % m, h.set n (.lst [.int (a / m), .int b, .int c]), ?_, Int.emod_nonneg _ (by omega), Int.emod_lt_of_pos _ hm, St1.set _ _ _, d.set _ _ _⟩
    have e1 : ((c == 2) = true ∨ ((c == 2) = false ∧ (c == 1) = true ∧ decide (0 < a) = true)) := by
      rcases hc with hc | ⟨hc, ha⟩
      · exact .inl (by simp [hc])
      · exact .inr ⟨by simp [hc], by simp [hc], by simp [ha]⟩
    unfold fnD m__law_roll startD
    simp only [List.map_cons, List.map_nil, List.length_cons, List.length_nil, List.replicate, List.cons_append, List.nil_append]
    walk_at "ev"
    rcases e1 with e1 | ⟨e1, e2, e3⟩
    · simp [eqB_int, e, x2, x0, e1, hm, hs, ixN, List.set]
    · simp [eqB_int, e, x2, x0, e1, e2, e3, hm, hs, ixN, List.set]
  · have e1 : (c == 2) = false := by simp; exact fun z => hc (.inl z)
    have e2 : (c == 1) = true → decide (0 < a) = false := fun z => by simp at z; simp; exact Int.not_lt.mp fun w => hc (.inr ⟨z, w⟩)
    refine ⟨((a * 48271 + b * 69621 + 11) % 2147483647 / 7 + (a * 48271 + b * 69621 + 11) % 2147483647) % m, h.set n (.lst [.int ((a * 48271 + b * 69621 + 11) % 2147483647), .int (b + 1), .int 0]), ?_, Int.emod_nonneg _ (by omega), Int.emod_lt_of_pos _ hm, St1.set _ _ _, d.set _ _ _⟩
    have hset : ∀ o : O, (h.set n o)[n]? = some o := fun o => List.getElem?_set_self hn
    have y0 : ∀ v : D, L2.atI [D.int a, D.int b, v] 0 = some (.int a) := fun _ => rfl
    have y1 : ∀ u v : D, L2.atI [u, D.int b, v] 1 = some (.int b) := fun _ _ => rfl
    have y2 : ∀ u v w : D, L2.atI [u, v, w] 0 = some u := fun _ _ _ => rfl
    unfold fnD m__law_roll startD
    simp only [List.map_cons, List.map_nil, List.length_cons, List.length_nil, List.replicate, List.cons_append, List.nil_append]
    walk_at "ev"
    cases e3 : (c == 1) with
    | false => simp [eqB_int, e, x2, x0, y0, y1, y2, e1, e3, hm, hs, ixN, List.set, hset, small]
    | true => simp [eqB_int, e, x2, x0, y0, y1, y2, e1, e3, e2 e3, hm, hs, ixN, List.set, hset, small]
theorem dice_ok (fn : Fn) (c : Int) (h : AH) : ∃ a b e : Int, fnD 1 (m__law_dice fn) [.int c] h = .ok (.loc h.length) (h ++ [.lst [.int a, .int b, .int e]]) := by
  unfold fnD m__law_dice startD
  simp only [List.map_cons, List.map_nil, List.length_cons, List.length_nil, List.replicate, List.cons_append, List.nil_append]
  by_cases h1 : -10 < c
  · by_cases h2 : c < 10
    · refine ⟨if c < 0 then -c else c, 0, 2, ?_⟩
      walk_at "ev"
      simp [h1, h2, lim]
    · refine ⟨c, 1 + c % 1009, if decide (1000000000000000000 ≤ c) = true then 1 else 0, ?_⟩
      walk_at "ev"
      simp [h1, h2, lim, small]
  · refine ⟨c, 1 + c % 1009, if decide (1000000000000000000 ≤ c) = true then 1 else 0, ?_⟩
    walk_at "ev"
    simp [h1, lim, small]
theorem rounds_ok {fn : Fn} (F : ∀ (c : Int) (h : AH), ∃ a b e : Int, fn i__law_dice [.int c] h = .ok (.loc h.length) (h ++ [.lst [.int a, .int b, .int e]])) {h : AH} {s : Nat} {ns : List Int} {m : Int} (hs : lstAt h s = some (ns.map D.int)) (hl : ns.length ≤ 63) :
    ∃ N h' ls, fnD 4 (m__law_rounds fn) [.loc s, .int m] h = .ok (.loc N) h' ∧ Rounds h' N ls ∧ Stay h h' ∧ ∀ l ∈ ls, h.length ≤ l := by
  -- the comprehension over some list of ints at n
  have comp : ∀ (δ : Sl) (h0 : AH) (n : Nat) (xs : List Int) (d0 d1 d3 : Option D), δ = [d0, d1, some (.loc n), d3] → h0[n]? = some (.lst (xs.map D.int)) → xs.length ≤ 63 → Stay h h0 →
      ∃ N h' ls, eLc (iSeq (eVar 2)) (.nm 3) (fun _ h => .ok true h) (eA (callD 1 (fn i__law_dice)) (aCons (eVar 3) aNil)) [3] δ h0 = .ok (.loc N) h' ∧ Rounds h' N ls ∧ Stay h h' ∧ ∀ l ∈ ls, h.length ≤ l := by
    intro δ h0 n xs d0 d1 d3 eδ en hx st
    subst eδ
    have hn0 : n < h0.length := (List.getElem?_eq_some_iff.mp en).1
    obtain ⟨h', e, hst, ls, r⟩ := lc_lst (m := eVar 2) (tg := .nm 3) (test := fun _ h => .ok true h) (elt := eA (callD 1 (fn i__law_dice)) (aCons (eVar 3) aNil)) (vs := [3]) (δ := [d0, d1, some (.loc n), d3]) (h := h0) (h0 := h0) (n := n) (xs := xs.map D.int)
      (fun i g => Stay h0 g ∧ ∃ ls : List Nat, ls.length ≤ i ∧ Rounds g h0.length ls ∧ ∀ l ∈ ls, h0.length < l) rfl (lstAt_lst en)
      ⟨Stay.app _ _, [], Nat.le_refl _, ⟨by simp, fun l hl => by cases hl⟩, fun l hl => by cases hl⟩ (fun i g p => lstAt_lst (p.1 _ _ en)) (fun i x g hx' p => by
        obtain ⟨st', ls, hlen, rr, hgt⟩ := p
        rw [List.getElem?_map, Option.map_eq_some_iff] at hx'
        obtain ⟨c, hc, rfl⟩ := hx'
        have hi : i < xs.length := (List.getElem?_eq_some_iff.mp hc).1
        obtain ⟨a, b, e, ed⟩ := F c g
        have hN : h0.length < g.length := (List.getElem?_eq_some_iff.mp rr.at_).1
        refine ⟨[d0, d1, some (.loc n), some (.int c)], rfl, .inr ⟨g, .loc g.length, g ++ [.lst [.int a, .int b, .int e]], ls.map D.loc, rfl, ?_, getO_app rr.at_, ?_, ?_⟩⟩
        · walk_at "ev"
          simp [ed]
        · rw [List.length_map]; unfold lim; omega
        · refine ⟨(st'.trans (Stay.app _ _)).put (Nat.le_refl _), ls ++ [g.length], by simp; omega, ⟨?_, ?_⟩, ?_⟩
          · rw [List.getElem?_set_self (by rw [List.length_append]; omega)]
            simp
          · intro l hl
            rw [List.mem_append] at hl
            rcases hl with hl | hl
            · obtain ⟨x1, x2, x3, z⟩ := rr.dice l hl
              refine ⟨x1, x2, x3, ?_⟩
              rw [List.getElem?_set_ne (by have := hgt l hl; omega)]
              exact getO_app z
            · have hl : l = g.length := by simpa using hl
              subst hl
              refine ⟨a, b, e, ?_⟩
              rw [List.getElem?_set_ne (by omega)]
              simp
          · intro l hl
            rw [List.mem_append] at hl
            rcases hl with hl | hl
            · exact hgt l hl
            · have hl : l = g.length := by simpa using hl
              omega)
    exact ⟨h0.length, h', ls, e, r.2.1, st.trans hst, fun l hl => Nat.le_trans st.len (Nat.le_of_lt (r.2.2 l hl))⟩
  -- cells = script[:most]
  have e1 : (sAsg (eSl (eVar 0) oNone (oSome (eVar 1))) (.nm 2)) [some (.loc s), some (.int m), none, none] h = .nx [some (.loc s), some (.int m), some (.loc h.length), none] (h ++ [.lst ((cutD ns none (some m)).map D.int)]) := by
    have ec : cutD (ns.map D.int) none (some m) = (cutD ns none (some m)).map D.int := by
      unfold cutD
      rw [List.length_map, List.map_take, List.map_drop]
    unfold lstAt at hs
    simp only [sAsg, eSl, eVar, oNone, oSome, R.bind, R.thn, slD, asgT, List.getElem?_cons_zero, List.getElem?_cons_succ, List.set_cons_zero, List.set_cons_succ]
    split at hs
    · rename_i e0
      cases hs
      simp only [e0, ec]
    · rename_i e0
      cases hs
      simp only [e0, ec]
    · cases hs
  have hcl : (cutD ns none (some m)).length ≤ 63 := by
    unfold cutD
    rw [List.length_take, List.length_drop]
    omega
  have e2 : eqB ((h ++ [.lst ((cutD ns none (some m)).map D.int)]) ++ [.lst []]) (.loc h.length) (.loc (h ++ [O.lst ((cutD ns none (some m)).map D.int)]).length) = some (decide (cutD ns none (some m) = [])) :=
    eqB_ints (ys := []) (lstAt_lst (by simp)) (lstAt_lst (by simp))
  have e3 := b_eq (a := eVar 2) (b := eA mkLst aNil) (δ := [some (.loc s), some (.int m), some (.loc h.length), none]) (h := h ++ [.lst ((cutD ns none (some m)).map D.int)]) rfl rfl e2
  by_cases hz : cutD ns none (some m) = []
  · rw [decide_eq_true hz] at e3
    obtain ⟨N, h', ls, e, r, st⟩ := comp [some (.loc s), some (.int m), some (.loc ((h ++ [O.lst ((cutD ns none (some m)).map D.int)]) ++ [O.lst []]).length), none] (((h ++ [.lst ((cutD ns none (some m)).map D.int)]) ++ [.lst []]) ++ [.lst [.int 0]]) _ [0] _ _ _ rfl (by simp) (by decide) (((Stay.app _ _).trans (Stay.app _ _)).trans (Stay.app _ _))
    refine ⟨N, h', ls, fn_rt (d := .loc N) ?_, r, st⟩
    unfold m__law_rounds
    refine (seq_nx e1).trans ((seq_nx ((if_t e3).trans (asg_nm rfl))).trans ?_)
    exact ret_ok e
  · rw [decide_eq_false hz] at e3
    obtain ⟨N, h', ls, e, r, st⟩ := comp [some (.loc s), some (.int m), some (.loc h.length), none] (h ++ [.lst ((cutD ns none (some m)).map D.int)] ++ [.lst []]) h.length (cutD ns none (some m)) _ _ _ rfl (by simp) hcl ((Stay.app _ _).trans (Stay.app _ _))
    refine ⟨N, h', ls, fn_rt (d := .loc N) ?_, r, st⟩
    unfold m__law_rounds
    refine (seq_nx e1).trans ((seq_nx ((if_f e3).trans (show sNext _ _ = .nx _ _ from rfl))).trans ?_)
    exact ret_ok e
local macro_rules | `(tactic| walk_at "w1") => `(tactic| with_reducible refine wp_iaddI ?_)
local macro_rules | `(tactic| walk_at "w1") => `(tactic| with_reducible refine wp_LcX ?_)
local macro_rules | `(tactic| walk_at "w1") => `(tactic| with_reducible refine wp_Dc ?_)
local macro_rules | `(tactic| walk_at "w1") => `(tactic| with_reducible refine wp_Gt ?_)
local macro_rules | `(tactic| walk_at "w1") => `(tactic| with_reducible refine ws_tryA ?_)
local macro_rules | `(tactic| walk_at "w1") => `(tactic| with_reducible refine wp_FldI ?_)
local macro_rules | `(tactic| walk_at "w1") => `(tactic| with_reducible refine ws_FldI ?_)
local macro_rules | `(tactic| walk_at "w1") => `(tactic| ((with_reducible refine wp_inT ?_ ?_); · exact ⟨rfl, rfl⟩))
local macro_rules | `(tactic| walk_at "w1") => `(tactic| with_reducible refine wp_Gs ?_)
local macro_rules | `(tactic| walk_at "w1") => `(tactic| with_reducible refine wp_Gx ?_)
local macro_rules | `(tactic| walk_at "w1") => `(tactic| with_reducible refine wp_iEnumT ?_)
local macro_rules | `(tactic| walk_at "w1") => `(tactic| with_reducible refine wp_iRevT ?_)
local macro_rules | `(tactic| walk_at "w1") => `(tactic| with_reducible refine wp_iRev ?_)
local macro_rules | `(tactic| walk_at "w1") => `(tactic| with_reducible refine wp_dict0 ?_)
local macro_rules | `(tactic| walk_at "w1") => `(tactic| with_reducible refine wp_prs0 ?_)
local macro_rules | `(tactic| walk_at "w1") => `(tactic| with_reducible refine wp_prs ?_)
local macro_rules | `(tactic| walk_at "w1") => `(tactic| with_reducible refine wp_disp ?_)
local macro_rules | `(tactic| walk_at "w1") => `(tactic| with_reducible refine wp_ixT0 ?_)
local macro_rules | `(tactic| walk_at "w1") => `(tactic| ((with_reducible refine wp_tup ?_ ?_); · exact Nat.le_of_ble_eq_true rfl))
local macro_rules | `(tactic| walk_at "w1") => `(tactic| ((with_reducible refine wp_lst ?_ ?_); · exact Nat.le_of_ble_eq_true rfl))
local macro_rules | `(tactic| walk_at "w1") => `(tactic| ((with_reducible refine wp_powI ?_ ?_); · decide))
local macro_rules | `(tactic| walk_at "w1") => `(tactic| ((with_reducible refine wp_mulI (.inl ?_) ?_); · decide))
local macro_rules | `(tactic| walk_at "w1") => `(tactic| ((with_reducible refine wp_mulI (.inr ?_) ?_); · decide))
local macro_rules | `(tactic| walk_at "w1") => `(tactic| ((with_reducible refine wp_fdivI ?_ ?_ ?_); (· decide); (· decide)))
local macro_rules | `(tactic| walk_at "w1") => `(tactic| ((with_reducible refine wp_modI ?_ ?_); · decide))
local macro_rules | `(tactic| walk_at "w1") => `(tactic| ((with_reducible refine wp_ixT (d := ?d) ?e ?_); case e => rfl))
local macro_rules | `(tactic| walk_at "w1") => `(tactic| ((with_reducible refine ws_aug (x := ?x) ?e ?_); case e => rfl))
local macro_rules | `(tactic| walk_at "w1") => `(tactic| ((with_reducible refine wif_ff ?_ ?_); · rfl))
local macro_rules | `(tactic| walk_at "w1") => `(tactic| ((with_reducible refine wif_tt ?_ ?_); · rfl))
local macro_rules | `(tactic| walk_at "w1") => `(tactic| with_reducible refine wp_ne (eqB_str _ _ _) ?_)
local macro_rules | `(tactic| walk_at "w1") => `(tactic| with_reducible refine wp_eq (eqB_str _ _ _) ?_)
local macro_rules | `(tactic| walk_at "w1") => `(tactic| with_reducible refine wp_ne (eqB_non _) ?_)
local macro_rules | `(tactic| walk_at "w1") => `(tactic| with_reducible refine wp_eq (eqB_non _) ?_)
local macro_rules | `(tactic| walk_at "w1") => `(tactic| with_reducible refine wp_ne (eqB_non_int _ _) ?_)
local macro_rules | `(tactic| walk_at "w1") => `(tactic| with_reducible refine wp_eq (eqB_non_int _ _) ?_)
local macro_rules | `(tactic| walk_at "w1") => `(tactic| with_reducible refine wp_ne (eqB_int_non _ _) ?_)
local macro_rules | `(tactic| walk_at "w1") => `(tactic| with_reducible refine wp_eq (eqB_int_non _ _) ?_)
local macro_rules | `(tactic| walk_at "w1") => `(tactic| with_reducible refine wp_ne (eqB_bl _ _ _) ?_)
local macro_rules | `(tactic| walk_at "w1") => `(tactic| with_reducible refine wp_eq (eqB_bl _ _ _) ?_)
local macro_rules | `(tactic| walk_at "w1") => `(tactic| with_reducible refine wp_ne (eqB_int _ _ _) ?_)
local macro_rules | `(tactic| walk_at "w1") => `(tactic| with_reducible refine wp_eq (eqB_int _ _ _) ?_)
local macro_rules | `(tactic| walk_at "w1") => `(tactic| with_reducible refine wp_tt ?_)
local macro_rules | `(tactic| walk_at "w1") => `(tactic| with_reducible refine wp_Lc ?_)
local macro_rules | `(tactic| walk_at "w1") => `(tactic| with_reducible refine wp_iArg ?_)
local macro_rules | `(tactic| walk_at "w1") => `(tactic| with_reducible refine wp_iT ?_)
local macro_rules | `(tactic| walk_at "w1") => `(tactic| with_reducible refine wp_iSeq ?_)
local macro_rules | `(tactic| walk_at "w1") => `(tactic| with_reducible refine ws_for ?_)
local macro_rules | `(tactic| walk_at "w1") => `(tactic| with_reducible refine wp_slT ?_)
local macro_rules | `(tactic| walk_at "w1") => `(tactic| with_reducible refine wp_tupT ?_)
local macro_rules | `(tactic| walk_at "w1") => `(tactic| with_reducible refine wp_listT ?_)
local macro_rules | `(tactic| walk_at "w1") => `(tactic| with_reducible refine wp_lenT ?_)
local macro_rules | `(tactic| walk_at "w1") => `(tactic| with_reducible refine wp_truT ?_)
local macro_rules | `(tactic| walk_at "w1") => `(tactic| with_reducible refine wp_truN ?_)
local macro_rules | `(tactic| walk_at "w1") => `(tactic| with_reducible refine wp_truI ?_)
local macro_rules | `(tactic| walk_at "w1") => `(tactic| with_reducible refine wp_truB ?_)
local macro_rules | `(tactic| walk_at "w1") => `(tactic| with_reducible refine wp_min ?_)
local macro_rules | `(tactic| walk_at "w1") => `(tactic| with_reducible refine wp_max ?_)
local macro_rules | `(tactic| walk_at "w1") => `(tactic| with_reducible refine wp_abs ?_)
local macro_rules | `(tactic| walk_at "w1") => `(tactic| with_reducible refine wp_intB ?_)
local macro_rules | `(tactic| walk_at "w1") => `(tactic| with_reducible refine wp_intI ?_)
local macro_rules | `(tactic| walk_at "w1") => `(tactic| with_reducible refine wp_isB ?_)
local macro_rules | `(tactic| walk_at "w1") => `(tactic| with_reducible refine wp_isN ?_)
local macro_rules | `(tactic| walk_at "w1") => `(tactic| with_reducible refine wp_cmp ?_)
local macro_rules | `(tactic| walk_at "w1") => `(tactic| with_reducible refine wp_negI ?_)
local macro_rules | `(tactic| walk_at "w1") => `(tactic| with_reducible refine wp_subI ?_)
local macro_rules | `(tactic| walk_at "w1") => `(tactic| with_reducible refine wp_addI ?_)
local macro_rules | `(tactic| walk_at "w1") => `(tactic| with_reducible refine wp_Mt ?_)
local macro_rules | `(tactic| walk_at "w1") => `(tactic| with_reducible refine wp_oS ?_)
local macro_rules | `(tactic| walk_at "w1") => `(tactic| with_reducible refine wp_oN ?_)
local macro_rules | `(tactic| walk_at "w1") => `(tactic| with_reducible refine wp_Sl ?_)
local macro_rules | `(tactic| walk_at "w1") => `(tactic| with_reducible refine ex_int ?_)
local macro_rules | `(tactic| walk_at "w1") => `(tactic| with_reducible refine ex_bl ?_)
local macro_rules | `(tactic| walk_at "w1") => `(tactic| with_reducible refine wp_Ch3 ?_)
local macro_rules | `(tactic| walk_at "w1") => `(tactic| with_reducible refine wp_Ch ?_)
local macro_rules | `(tactic| walk_at "w1") => `(tactic| with_reducible refine wp_not ?_)
local macro_rules | `(tactic| walk_at "w1") => `(tactic| with_reducible refine wp_Or ?_)
local macro_rules | `(tactic| walk_at "w1") => `(tactic| with_reducible refine wp_And ?_)
local macro_rules | `(tactic| walk_at "w1") => `(tactic| with_reducible refine wp_If ?_)
local macro_rules | `(tactic| walk_at "w1") => `(tactic| with_reducible refine wp_bTru ?_)
local macro_rules | `(tactic| walk_at "w1") => `(tactic| with_reducible refine wp_bOr ?_)
local macro_rules | `(tactic| walk_at "w1") => `(tactic| with_reducible refine wp_bAnd ?_)
local macro_rules | `(tactic| walk_at "w1") => `(tactic| with_reducible refine wp_bNot ?_)
local macro_rules | `(tactic| walk_at "w1") => `(tactic| with_reducible refine wp_asB ?_)
local macro_rules | `(tactic| walk_at "w1") => `(tactic| with_reducible refine wp_bOf ?_)
local macro_rules | `(tactic| walk_at "w1") => `(tactic| with_reducible refine wp_nil ?_)
local macro_rules | `(tactic| walk_at "w1") => `(tactic| with_reducible refine wp_cons ?_)
local macro_rules | `(tactic| walk_at "w1") => `(tactic| with_reducible refine wp_A ?_)
local macro_rules | `(tactic| walk_at "w1") => `(tactic| with_reducible refine wp_1 ?_)
local macro_rules | `(tactic| walk_at "w1") => `(tactic| with_reducible refine wp_2 ?_)
local macro_rules | `(tactic| walk_at "w1") => `(tactic| ((with_reducible refine wp_call ?_ ?_); · rfl))
local macro_rules | `(tactic| walk_at "w1") => `(tactic| ((with_reducible refine wp_var (d := ?d) ?e ?_); case e => rfl))
local macro_rules | `(tactic| walk_at "w1") => `(tactic| with_reducible refine wp_C ?_)
local macro_rules | `(tactic| walk_at "w1") => `(tactic| with_reducible refine wp_GI ?_)
local macro_rules | `(tactic| walk_at "w1") => `(tactic| with_reducible refine ws_try ?_)
local macro_rules | `(tactic| walk_at "w1") => `(tactic| with_reducible refine ws_tryM ?_)
local macro_rules | `(tactic| walk_at "w1") => `(tactic| with_reducible refine ws_raise0 ?_)
local macro_rules | `(tactic| walk_at "w1") => `(tactic| with_reducible refine ws_raise ?_)
local macro_rules | `(tactic| walk_at "w1") => `(tactic| with_reducible refine ws_asg ?_)
local macro_rules | `(tactic| walk_at "w1") => `(tactic| with_reducible refine ws_par ?_)
local macro_rules | `(tactic| walk_at "w1") => `(tactic| with_reducible refine ws_sub ?_)
local macro_rules | `(tactic| walk_at "w1") => `(tactic| with_reducible refine ws_retN ?_)
local macro_rules | `(tactic| walk_at "w1") => `(tactic| with_reducible refine ws_bk ?_)
local macro_rules | `(tactic| walk_at "w1") => `(tactic| with_reducible refine ws_ct ?_)
local macro_rules | `(tactic| walk_at "w1") => `(tactic| with_reducible refine ws_expr ?_)
local macro_rules | `(tactic| walk_at "w1") => `(tactic| with_reducible refine ws_nx ?_)
local macro_rules | `(tactic| walk_at "w1") => `(tactic| with_reducible refine ws_ret ?_)
local macro_rules | `(tactic| walk_at "w1") => `(tactic| with_reducible refine ws_if ?_)
local macro_rules | `(tactic| walk_at "w1") => `(tactic| with_reducible refine ws_asgN ?_)
local macro_rules | `(tactic| walk_at "w1") => `(tactic| with_reducible refine ws_seq ?_)
noncomputable def RollC (fn : Fn) : Prop := ∀ {n : Nat} {m : Int} {h : AH} {Q : D → AH → Prop} {E : EX}, 0 < m → small m = true → Dice h n → (∀ r h', 0 ≤ r → r < m → St1 n h h' → Dice h' n → Q (.int r) h') → wp (fn i__law_roll [.loc n, .int m] h) Q E
noncomputable def WordC (fn : Fn) : Prop := ∀ {n : Nat} {h : AH} {Q : D → AH → Prop} {E : EX}, Dice h n → (∀ w h', -2147483648 ≤ w → w ≤ 2147483647 → St1 n h h' → Dice h' n → Q (.int w) h') → wp (fn i__law_word [.loc n] h) Q E
theorem roll_c {fn : Fn} : ∀ {n : Nat} {m : Int} {h : AH} {Q : D → AH → Prop} {E : EX}, 0 < m → small m = true → Dice h n → (∀ r h', 0 ≤ r → r < m → St1 n h h' → Dice h' n → Q (.int r) h') → wp (fnD 3 (m__law_roll fn) [.loc n, .int m] h) Q E := fun hm hs d k => by
  obtain ⟨r, h', e, r0, r1, s, d'⟩ := roll_ok fn hm hs d
  exact wp_of e (k r h' r0 r1 s d')
theorem word_ok {fn : Fn} (RC : RollC fn) {n : Nat} {h : AH} {Q : D → AH → Prop} {E : EX} (d : Dice h n) (k : ∀ w h', -2147483648 ≤ w → w ≤ 2147483647 → St1 n h h' → Dice h' n → Q (.int w) h') : wp (fnD 2 (m__law_word fn) [.loc n] h) Q E := by
  refine wp_fn ?_
  rw [show startD 2 [.loc n] = [some (.loc n), none] from rfl]
  unfold m__law_word
  (repeat walk_at "w1")
  refine RC (by decide) (by decide) d fun r h1 r0 r1 s1 d1 => ?_
  dsimp only [List.set]
  (repeat walk_at "w1")
  (refine wif (fun hb => ?_) (fun hb => ?_) <;> (try simp only [decide_eq_true_eq, decide_eq_false_iff_not, beq_iff_eq, bne_iff_ne, beq_eq_false_iff_ne, bne_eq_false_iff_eq, Bool.not_eq_true', Bool.not_eq_false', Bool.not_eq_true, Bool.not_eq_false, reduceCtorEq, Bool.true_eq_false, Bool.false_eq_true, ne_eq, not_true, not_false_eq_true] at hb))
  · (repeat walk_at "w1")
    refine RC (by decide) (by decide) d1 fun q h2 q0 q1 s2 d2 => ?_
    (repeat walk_at "w1")
    exact k _ _ (by omega) (by omega) (s1.trans s2) d2
  · (repeat walk_at "w1")
    (refine wif (fun hb => ?_) (fun hb => ?_) <;> (try simp only [decide_eq_true_eq, decide_eq_false_iff_not, beq_iff_eq, bne_iff_ne, beq_eq_false_iff_ne, bne_eq_false_iff_eq, Bool.not_eq_true', Bool.not_eq_false', Bool.not_eq_true, Bool.not_eq_false, reduceCtorEq, Bool.true_eq_false, Bool.false_eq_true, ne_eq, not_true, not_false_eq_true] at hb))
    · (repeat walk_at "w1")
      refine RC (by decide) (by decide) (d1.app _) fun q h2 q0 q1 s2 d2 => ?_
      have g2 := s2.keep h1.length (.lst [.int 2147483647, .int (0 - 2147483648), .int 2147483646, .int 65536, .int (0 - 65536), .int 1000000007]) (by
        obtain ⟨_, _, _, z⟩ := d1
        have := (List.getElem?_eq_some_iff.mp z).1
        omega) (by simp)
      have key : ∃ w, L2.atI [D.int 2147483647, .int (0 - 2147483648), .int 2147483646, .int 65536, .int (0 - 65536), .int 1000000007] q = some (.int w) ∧ -2147483648 ≤ w ∧ w ≤ 2147483647 := by
        have : q = 0 ∨ q = 1 ∨ q = 2 ∨ q = 3 ∨ q = 4 ∨ q = 5 := by omega
        rcases this with rfl | rfl | rfl | rfl | rfl | rfl <;> exact ⟨_, rfl, by decide, by decide⟩
      obtain ⟨w, ew, w0, w1⟩ := key
      exact wp_ixL (lstAt_lst g2) ew (k _ _ w0 w1 ((s1.trans (St1.app _ _ _)).trans s2) d2)
    · (repeat walk_at "w1")
      refine RC (by decide) (by decide) d1 fun q h2 q0 q1 s2 d2 => ?_
      (repeat walk_at "w1")
      refine RC (by decide) (by decide) d2 fun p h3 p0 p1 s3 d3 => ?_
      (repeat walk_at "w1")
      exact k _ _ (by omega) (by omega) ((s1.trans s2).trans s3) d3
theorem dice_w (k : Nat) (c : Int) (h : AH) : ∃ a b e : Int, runOf fs (k + 1) i__law_dice [.int c] h = .ok (.loc h.length) (h ++ [.lst [.int a, .int b, .int e]]) := by
  rw [run__law_dice]
  exact dice_ok (runOf fs k) c h
theorem roll_w (k : Nat) : RollC (runOf fs (k + 1)) := by
  unfold RollC
  rw [run__law_roll]
  exact roll_c (fn := runOf fs k)
theorem word_w (k : Nat) : WordC (runOf fs (k + 2)) := by
  unfold WordC
  rw [run__law_word]
  exact word_ok (roll_w k)
theorem rounds_w (k : Nat) {h : AH} {s : Nat} {ns : List Int} {m : Int} {Q : D → AH → Prop} {E : EX} (hs : lstAt h s = some (ns.map D.int)) (hl : ns.length ≤ 63) (q : ∀ N h' ls, Rounds h' N ls → Stay h h' → (∀ l ∈ ls, h.length ≤ l) → Q (.loc N) h') : wp (runOf fs (k + 2) i__law_rounds [.loc s, .int m] h) Q E := by
  obtain ⟨N, h', ls, e, r, st, fr⟩ := rounds_ok (fn := runOf fs (k + 1)) (dice_w k) (m := m) hs hl
  rw [run__law_rounds]
  exact wp_of e (q N h' ls r st fr)
/-! ## texts as lists of code points -/
noncomputable def sS (l : List Nat) : Str := ⟨l.toArray⟩
theorem sS_tl (l : List Nat) : (sS l).cps.toList = l := rfl
theorem tl_sS (l : List Nat) : TL.tl (sS l) = l := rfl
theorem sS_of (x : Str) : sS (TL.tl x) = x := TL.mk_tl x
theorem sS_len (l : List Nat) : (sS l).length = l.length := by rw [TL.len_tl, tl_sS]
theorem sS_inj {a b : List Nat} (h : sS a = sS b) : a = b := by
  have := congrArg TL.tl h
  rwa [tl_sS, tl_sS] at this
theorem sS_beq (a b : List Nat) : (sS a == sS b) = decide (a = b) := by
  by_cases z : a = b
  · subst z; simp
  · rw [decide_eq_false z]
    exact beq_eq_false_iff_ne.mpr fun e => z (sS_inj e)
theorem sS_app (a b : List Nat) : sS a ++ sS b = sS (a ++ b) := by
  refine TL.ext_tl ?_
  rw [TL.tl_append, tl_sS, tl_sS, tl_sS]
theorem cutS_pq {l : List Nat} {p q : Nat} (h1 : p ≤ q) (h2 : q ≤ l.length) : cutS (sS l) (some (p : Int)) (some (q : Int)) = sS ((l.drop p).take (q - p)) := by
  unfold cutS
  have e1 : HT.sIx (sS l).length 0 (some ((p : Nat) : Int)) = p := by rw [HT.sIx_nat, sS_len]; omega
  have e2 : HT.sIx (sS l).length (sS l).length (some ((q : Nat) : Int)) = q := by rw [HT.sIx_nat, sS_len]; omega
  rw [e1, e2]
  rfl
theorem cutS_any {l : List Nat} {p q : Nat} (h1 : p ≤ q) (h2 : p ≤ l.length) : cutS (sS l) (some (p : Int)) (some (q : Int)) = sS ((l.drop p).take (q - p)) := by
  by_cases h : q ≤ l.length
  · exact cutS_pq h1 h
  · unfold cutS
    have e1 : HT.sIx (sS l).length 0 (some ((p : Nat) : Int)) = p := by rw [HT.sIx_nat, sS_len]; omega
    have e2 : HT.sIx (sS l).length (sS l).length (some ((q : Nat) : Int)) = l.length := by rw [HT.sIx_nat, sS_len]; omega
    rw [e1, e2]
    rw [sS_tl, List.take_of_length_le (l := l.drop p) (i := q - p) (by rw [List.length_drop]; omega), List.take_of_length_le (by rw [List.length_drop]; omega)]
    rfl
theorem cutS_from {l : List Nat} {p : Nat} (h : p ≤ l.length) : cutS (sS l) (some (p : Int)) none = sS (l.drop p) := by
  unfold cutS
  have e1 : HT.sIx (sS l).length 0 (some ((p : Nat) : Int)) = p := by rw [HT.sIx_nat, sS_len]; omega
  have e2 : HT.sIx (sS l).length (sS l).length none = l.length := by rw [HT.sIx_none, sS_len]
  rw [e1, e2, sS_tl, List.take_of_length_le (by rw [List.length_drop]; omega)]
  rfl
theorem wp_ixs {Q : D → AH → Prop} {E : EX} {l : List Nat} {i : Nat} {c : Nat} {h : AH} (hl : l.length ≤ lim) (e : l[i]? = some c) (q : Q (.str (sS [c])) h) : wp (ixD (.str (sS l)) (.int (i : Nat)) h) Q E := by
  have e1 : L2.atI (sS l).cps.toList ((i : Nat) : Int) = some c := by
    rw [sS_tl, atI_pos (by omega) (by have := (List.getElem?_eq_some_iff.mp e).1; omega), Int.toNat_natCast]
    exact e
  refine wp_ixS (c := 'a') (by rw [sS_len]; exact hl) (fun r hr => ?_) (by rw [e1]; rfl)
  rw [e1] at hr
  cases hr
  exact q
/-- the last one -/
theorem wp_ixl {Q : D → AH → Prop} {E : EX} {l : List Nat} {c : Nat} {h : AH} (hl : l.length ≤ lim) (e : l.getLast? = some c) (q : Q (.str (sS [c])) h) : wp (ixD (.str (sS l)) (.int (-1)) h) Q E := by
  have hne : l ≠ [] := by rintro rfl; simp at e
  have hpos : 0 < l.length := List.length_pos_iff.mpr hne
  have e1 : L2.atI (sS l).cps.toList (-1) = some c := by
    rw [sS_tl]
    rw [List.getLast?_eq_getElem?] at e
    unfold L2.atI
    have e2 : ixN l.length (-1) = some (l.length - 1) := by
      unfold ixN
      rw [if_neg (by omega), if_pos (by omega)]
      congr 1
      omega
    rw [e2]
    exact e
  refine wp_ixS (c := 'a') (by rw [sS_len]; exact hl) (fun r hr => ?_) (by rw [e1]; rfl)
  rw [e1] at hr
  cases hr
  exact q
theorem wp_ins {Q : D → AH → Prop} {E : EX} {neg : Bool} {c : Nat} {z : Str} {h : AH} (q : Q (.bl (xor neg (decide (c ∈ TL.tl z)))) h) : wp (inD neg (.str (sS [c])) (.str z) h) Q E := wp_inS q
theorem wp_eqs {Q : D → AH → Prop} {E : EX} {a b : List Nat} {h : AH} (q : Q (.bl (decide (a = b))) h) : wp (eqD (.str (sS a)) (.str (sS b)) h) Q E := by
  refine wp_eq (eqB_str _ _ _) ?_
  rw [sS_beq]; exact q
theorem wp_nes {Q : D → AH → Prop} {E : EX} {a b : List Nat} {h : AH} (q : Q (.bl (!decide (a = b))) h) : wp (neD (.str (sS a)) (.str (sS b)) h) Q E := by
  refine wp_ne (eqB_str _ _ _) ?_
  rw [sS_beq]; exact q
/-! ### kinds of signs -/
noncomputable def isLet (c : Nat) : Bool := decide (97 ≤ c) && decide (c ≤ 122)
noncomputable def isDig (c : Nat) : Bool := decide (48 ≤ c) && decide (c ≤ 57)
theorem isLet_iff {c : Nat} : isLet c = true ↔ 97 ≤ c ∧ c ≤ 122 := by unfold isLet; rw [Bool.and_eq_true, decide_eq_true_eq, decide_eq_true_eq]
theorem isDig_iff {c : Nat} : isDig c = true ↔ 48 ≤ c ∧ c ≤ 57 := by unfold isDig; rw [Bool.and_eq_true, decide_eq_true_eq, decide_eq_true_eq]
theorem let_mem {c : Nat} : decide (c ∈ TL.tl (Str.ofString "abcdefghijklmnopqrstuvwxyz")) = isLet c := by
  have e : TL.tl (Str.ofString "abcdefghijklmnopqrstuvwxyz") = [97, 98, 99, 100, 101, 102, 103, 104, 105, 106, 107, 108, 109, 110, 111, 112, 113, 114, 115, 116, 117, 118, 119, 120, 121, 122] := by decide +kernel
  rw [e, Bool.eq_iff_iff, decide_eq_true_eq, isLet_iff]
  simp only [List.mem_cons, List.not_mem_nil, or_false]
  omega
theorem dig_mem {c : Nat} : decide (c ∈ TL.tl (Str.ofString "0123456789")) = isDig c := by
  have e : TL.tl (Str.ofString "0123456789") = [48, 49, 50, 51, 52, 53, 54, 55, 56, 57] := by decide +kernel
  rw [e, Bool.eq_iff_iff, decide_eq_true_eq, isDig_iff]
  simp only [List.mem_cons, List.not_mem_nil, or_false]
  omega
theorem digm_mem {c : Nat} : decide (c ∈ TL.tl (Str.ofString "0123456789-")) = (isDig c || decide (c = 45)) := by
  have e : TL.tl (Str.ofString "0123456789-") = [48, 49, 50, 51, 52, 53, 54, 55, 56, 57, 45] := by decide +kernel
  rw [e, Bool.eq_iff_iff, decide_eq_true_eq, Bool.or_eq_true, isDig_iff, decide_eq_true_eq]
  simp only [List.mem_cons, List.not_mem_nil, or_false]
  omega
/-! ### written numbers -/
noncomputable def numT (i : Int) : List Nat := TL.tl (Str.ofString (toString i))
theorem numT_nat (n : Nat) : numT (n : Int) = TL.numL n := TL.tl_num n
theorem numT_neg (n : Nat) : numT (Int.negSucc n) = 45 :: TL.numL (n + 1) := by
  have h : toString (Int.negSucc n) = "-" ++ toString (n + 1) := rfl
  have h2 : toString (((n + 1 : Nat) : Nat) : Int) = toString (n + 1) := rfl
  unfold numT
  rw [h, TL.tl_ofString, String.toList_append, List.map_append, ← TL.tl_num (n + 1), h2, TL.tl_ofString]
  rfl
theorem numL_head : ∀ (n : Nat), 1 ≤ n → ∃ c r, TL.numL n = c :: r ∧ c ≠ 48
  | n, h => by
    by_cases z : n < 10
    · rw [TL.numL_lt z]; exact ⟨_, _, rfl, by omega⟩
    · rw [TL.numL_step (by omega)]
      obtain ⟨c, r, e, hc⟩ := numL_head (n / 10) (by omega)
      rw [e]; exact ⟨c, _, rfl, hc⟩
  termination_by n => n
/-- how a word is written -/
structure NumTx (i : Int) (t : List Nat) : Prop where
  sh : (∃ ds, t = ds ∧ ds ≠ [] ∧ (∀ c ∈ ds, isDig c = true) ∧ ds.length ≤ 10 ∧ (∀ r, ds = 48 :: r → t = [48])) ∨ (∃ ds, t = 45 :: ds ∧ ds ≠ [] ∧ (∀ c ∈ ds, isDig c = true) ∧ ds.length ≤ 10 ∧ (∀ r, ds ≠ 48 :: r))
  int : PySem.intText? (sS t) = some i
theorem numTx {i : Int} (h0 : -2147483648 ≤ i) (h1 : i ≤ 2147483647) : NumTx i (numT i) := by
  have dig : ∀ n : Nat, ∀ c ∈ TL.numL n, isDig c = true := fun n c hc => isDig_iff.mpr (TL.numL_digits n c hc)
  cases i with
  | ofNat n =>
    have hn : n < 10 ^ 10 := by have : ((n : Nat) : Int) ≤ 2147483647 := h1; omega
    have hl := TL.numL_len (k := 10) (by decide) hn
    refine ⟨.inl ⟨_, rfl, ?_, ?_, ?_, ?_⟩, ?_⟩
    · exact (numT_nat n) ▸ TL.numL_ne n
    · exact (numT_nat n) ▸ dig n
    · exact (numT_nat n) ▸ hl
    · intro r e
      have e : TL.numL n = 48 :: r := (numT_nat n) ▸ e
      by_cases z : 1 ≤ n
      · obtain ⟨c, r', e', hc⟩ := numL_head n z
        rw [e'] at e; cases e; exact absurd rfl hc
      · have : n = 0 := by omega
        subst this
        exact (numT_nat 0).trans (TL.numL_lt (by decide))
    · have : sS (numT (Int.ofNat n)) = Str.ofString (toString ((n : Nat) : Int)) := sS_of _
      rw [this]
      exact TL.int_num (by omega)
  | negSucc n =>
    have hn : n + 1 < 10 ^ 10 := by omega
    have hl := TL.numL_len (k := 10) (by decide) hn
    refine ⟨.inr ⟨TL.numL (n + 1), numT_neg n, TL.numL_ne _, dig _, hl, ?_⟩, ?_⟩
    · intro r e
      obtain ⟨c, r', e', hc⟩ := numL_head (n + 1) (by omega)
      rw [e'] at e; cases e; exact hc rfl
    · have e : (sS (numT (Int.negSucc n))).cps.toList = 45 :: TL.numL (n + 1) := by rw [sS_tl, numT_neg]
      rw [PySem.intText_neg e (TL.numL_digits _) (TL.numL_ne _) (by rw [sS_len, numT_neg, List.length_cons]; omega), TL.numL_val]
      rfl
/-! ### tokens -/
noncomputable def symsL : List (List Nat) := [[61, 61], [43], [45], [42], [47], [60], [38], [94], [124], [44], [40], [41], [91], [93], [58], [61]]
noncomputable def TokOk (t : List Nat) : Prop := (t ≠ [] ∧ t.length ≤ 9 ∧ ∀ c ∈ t, isLet c = true) ∨ (∃ i, NumTx i t ∧ -2147483648 ≤ i ∧ i ≤ 2147483647) ∨ t ∈ symsL
theorem TokOk.ne {t : List Nat} (h : TokOk t) : t ≠ [] ∧ t.length ≤ 11 := by
  rcases h with ⟨h1, h2, _⟩ | ⟨i, ⟨h, _⟩, _⟩ | h
  · exact ⟨h1, by omega⟩
  · rcases h with ⟨ds, rfl, h1, _, h2, _⟩ | ⟨ds, rfl, h1, _, h2, _⟩
    · exact ⟨h1, by omega⟩
    · exact ⟨by simp, by simp; omega⟩
  · simp only [symsL, List.mem_cons, List.not_mem_nil, or_false] at h
    rcases h with rfl | rfl | rfl | rfl | rfl | rfl | rfl | rfl | rfl | rfl | rfl | rfl | rfl | rfl | rfl | rfl <;> exact ⟨by simp, by simp⟩
/-- a sign may stand behind one without a blank -/
noncomputable def Sep (a c : Nat) : Prop := (isLet a = true → isLet c = false) ∧ ((isDig a = true ∨ a = 45) → isDig c = false) ∧ (a = 61 → c ≠ 61)
theorem Sep.blank (a : Nat) : Sep a 32 := ⟨fun _ => by decide, fun _ => by decide, fun _ => by decide⟩
/-- what stands behind a token -/
noncomputable def Behind (t R : List Nat) : Prop := ∀ a c R', t.getLast? = some a → R = c :: R' → Sep a c
noncomputable def encT : List (Bool × List Nat) → List Nat
  | [] => []
  | (b, t) :: r => (if b = true then [32] else []) ++ (t ++ encT r)
noncomputable def ChOk : List (Bool × List Nat) → Prop
  | [] => True
  | (_, t) :: r => TokOk t ∧ Behind t (encT r) ∧ ChOk r
/-! ## the cutting of tokens -/
theorem tw_app {f : Nat → Bool} : ∀ {t R : List Nat}, (∀ c ∈ t, f c = true) → (∀ c R', R = c :: R' → f c = false) → (t ++ R).takeWhile f = t
  | [], [], _, _ => rfl
  | [], c :: R, _, h => by rw [List.nil_append, List.takeWhile_cons, h c R rfl]; rfl
  | a :: t, R, ha, h => by rw [List.cons_append, List.takeWhile_cons, ha a List.mem_cons_self, tw_app (fun c hc => ha c (List.mem_cons_of_mem _ hc)) h]; rfl
theorem tw_nil {f : Nat → Bool} {l : List Nat} (h : ∀ c r, l = c :: r → f c = false) : l.takeWhile f = [] := by
  cases l with
  | nil => rfl
  | cons c r => rw [List.takeWhile_cons, h c r rfl]; rfl
theorem drop_at {l : List Nat} {p : Nat} {c : Nat} (h : l[p]? = some c) : l.drop p = c :: l.drop (p + 1) := by
  obtain ⟨hp, e⟩ := List.getElem?_eq_some_iff.mp h
  rw [List.drop_eq_getElem_cons hp, e]
theorem at_drop {l r : List Nat} {p : Nat} {c : Nat} (h : l.drop p = c :: r) : l[p]? = some c ∧ l.drop (p + 1) = r := by
  have e : (l.drop p)[0]? = some c := by rw [h]; rfl
  rw [List.getElem?_drop, Nat.add_zero] at e
  refine ⟨e, ?_⟩
  rw [drop_at e] at h
  exact (List.cons.inj h).2
theorem takeS {α : Type} {l : List α} {i : Nat} {x : α} (h : l[i]? = some x) : l.take (i + 1) = l.take i ++ [x] := by
  obtain ⟨hi, e⟩ := List.getElem?_eq_some_iff.mp h
  rw [List.take_succ_eq_append_getElem hi, e]
theorem wp_intS {Q : D → AH → Prop} {E : EX} {a : Str} {n : Int} {h : AH} (e : PySem.intText? a = some n) (hl : a.length ≤ 640) (q : Q (.int n) h) : wp (intD [.str a] h) Q E := by
  unfold intD
  simp only [e, if_pos hl]
  exact q
theorem run_w (k : Nat) {l : List Nat} {p : Nat} {z : Str} {f : Nat → Bool} (hz : ∀ c, decide (c ∈ TL.tl z) = f c) (hl : l.length ≤ 1000) (hp : p ≤ l.length) {h : AH} {Q : D → AH → Prop} {E : EX} (q : Q (.int ((p + ((l.drop p).takeWhile f).length : Nat) : Int)) h) : wp (runOf fs (k + 1) i_run_of [.str (sS l), .int ((p : Nat) : Int), .str z] h) Q E := by
  have hlim : l.length ≤ lim := by unfold lim; omega
  refine go_run_of k ?_
  unfold m_run_of
  refine ws_join (fun δ g => δ = [some (.str (sS l)), some (.int ((p + ((l.drop p).takeWhile f).length : Nat) : Int)), some (.str z)] ∧ g = h) ?_ ?_
  · refine ws_wh (fun m δ g => g = h ∧ ∃ a : Nat, δ = [some (.str (sS l)), some (.int ((a : Nat) : Int)), some (.str z)] ∧ a ≤ l.length ∧ m = l.length - a ∧ a + ((l.drop a).takeWhile f).length = p + ((l.drop p).takeWhile f).length) ?_ _ (l.length - p) _ _ (by unfold fuel0; omega) ⟨rfl, p, rfl, hp, rfl, rfl⟩
    rintro m δ g ⟨rfl, a, rfl, ha, rfl, he⟩
    (repeat walk_at "w1")
    refine wp_lenS (by rw [sS_len]; exact hlim) ?_
    rw [sS_len]
    (repeat walk_at "w1")
    (refine wif (fun z1 => ?_) (fun z1 => ?_) <;> (try simp only [decide_eq_true_eq, decide_eq_false_iff_not, beq_iff_eq, bne_iff_ne, beq_eq_false_iff_ne, bne_eq_false_iff_eq, Bool.not_eq_true', Bool.not_eq_false', Bool.not_eq_true, Bool.not_eq_false, reduceCtorEq, Bool.true_eq_false, Bool.false_eq_true, ne_eq, not_true, not_false_eq_true] at z1))
    · have hal : a < l.length := by omega
      have e1 : l[a]? = some l[a] := List.getElem?_eq_getElem hal
      generalize l[a] = c at e1
      rw [drop_at e1, List.takeWhile_cons] at he
      (repeat walk_at "w1")
      refine wp_ixs hlim e1 ?_
      (repeat walk_at "w1")
      refine wp_ins ?_
      rw [hz]
      (repeat walk_at "w1")
      cases hf : f c with
      | true =>
        rw [hf] at he
        refine ⟨fun _ => ⟨l.length - (a + 1), by omega, ?_⟩, fun z => (by cases z)⟩
        unfold b_run_of_0
        (repeat walk_at "w1")
        exact ⟨rfl, a + 1, rfl, by omega, rfl, by rw [← he]; simp; omega⟩
      | false =>
        rw [hf] at he
        refine ⟨fun z => (by cases z), fun _ => ⟨?_, rfl⟩⟩
        rw [← he]; simp
    · refine ⟨fun z => (by cases z), fun _ => ⟨?_, rfl⟩⟩
      have : a = l.length := by omega
      subst this
      rw [List.drop_length, List.takeWhile_nil, List.length_nil, Nat.add_zero] at he
      rw [← he]
  · rintro δ g ⟨rfl, rfl⟩
    (repeat walk_at "w1")
    exact q
noncomputable def nE (l : List Nat) (p : Nat) : Nat :=
  let s := if l[p]? = some 45 then p + 1 else p
  let e := s + ((l.drop s).takeWhile isDig).length
  if e = s then p else e
theorem ofS (s : String) (l : List Nat) (h : TL.tl (Str.ofString s) = l) : Str.ofString s = sS l := by rw [← h, sS_of]
theorem nE_w (k : Nat) {l : List Nat} {p : Nat} (hl : l.length ≤ 1000) (hp : p < l.length) {h : AH} {Q : D → AH → Prop} {E : EX} (q : Q (.int ((nE l p : Nat) : Int)) h) : wp (runOf fs (k + 2) i_number_end [.str (sS l), .int ((p : Nat) : Int)] h) Q E := by
  have hlim : l.length ≤ lim := by unfold lim; omega
  refine go_number_end (k + 1) ?_
  unfold m_number_end
  have e1 : l[p]? = some l[p] := List.getElem?_eq_getElem hp
  generalize l[p] = c at e1
  rw [ofS "-" [45] (by decide +kernel), show v_FIGURES = .str "0123456789" from rfl]
  obtain ⟨s, hs, hse⟩ : ∃ s, s ≤ l.length ∧ (if l[p]? = some 45 then p + 1 else p) = s := ⟨_, by split <;> omega, rfl⟩
  refine ws_join (fun δ g => δ = [some (.str (sS l)), some (.int ((p : Nat) : Int)), some (.int ((s : Nat) : Int)), none] ∧ g = h) ?_ ?_
  · (repeat walk_at "w1")
    refine wp_ixs hlim e1 ?_
    (repeat walk_at "w1")
    rw [sS_beq]
    by_cases z : c = 45
    · subst z
      rw [e1, if_pos rfl] at hse
      refine wif_tt (by simp) ?_
      (repeat walk_at "w1")
      subst hse
      exact ⟨rfl, rfl⟩
    · rw [e1, if_neg (by simpa using z)] at hse
      refine wif_ff (by rw [decide_eq_false_iff_not]; simpa using z) ?_
      (repeat walk_at "w1")
      subst hse
      exact ⟨rfl, rfl⟩
  · rintro δ g ⟨rfl, rfl⟩
    (repeat walk_at "w1")
    refine run_w k (f := isDig) (fun c => dig_mem) hl hs ?_
    have hq : nE l p = if s + ((l.drop s).takeWhile isDig).length = s then p else s + ((l.drop s).takeWhile isDig).length := by
      unfold nE
      simp only [hse]
    rw [hq] at q
    generalize s + ((l.drop s).takeWhile isDig).length = e at q
    dsimp only [List.set]
    (repeat walk_at "w1")
    by_cases z : e = s
    · rw [if_pos z] at q
      refine wif_tt (by rw [beq_iff_eq]; omega) ?_
      (repeat walk_at "w1")
      exact q
    · rw [if_neg z] at q
      refine wif_ff (by rw [beq_eq_false_iff_ne]; omega) ?_
      (repeat walk_at "w1")
      exact q
theorem syms_e : v_SYMBOLS = .tup (symsL.map fun s => D.str (sS s)) := by
  unfold v_SYMBOLS
  rw [ofS "==" [61, 61] (by decide +kernel), ofS "+" [43] (by decide +kernel), ofS "-" [45] (by decide +kernel), ofS "*" [42] (by decide +kernel), ofS "/" [47] (by decide +kernel), ofS "<" [60] (by decide +kernel), ofS "&" [38] (by decide +kernel), ofS "^" [94] (by decide +kernel), ofS "|" [124] (by decide +kernel), ofS "," [44] (by decide +kernel), ofS "(" [40] (by decide +kernel), ofS ")" [41] (by decide +kernel), ofS "[" [91] (by decide +kernel), ofS "]" [93] (by decide +kernel), ofS ":" [58] (by decide +kernel), ofS "=" [61] (by decide +kernel)]
  rfl
noncomputable def syF (l : List Nat) (p : Nat) : List Nat := (symsL.find? fun s => decide ((l.drop p).take s.length = s)).getD []
theorem sym_w (k : Nat) {l : List Nat} {p : Nat} (hl : l.length ≤ 1000) (hp : p ≤ l.length) {h : AH} {Q : D → AH → Prop} {E : EX} (q : Q (.str (sS (syF l p))) h) : wp (runOf fs (k + 1) i_symbol_at [.str (sS l), .int ((p : Nat) : Int)] h) Q E := by
  have hlim : l.length ≤ lim := by unfold lim; omega
  refine go_symbol_at k ?_
  unfold m_symbol_at
  rw [syms_e]
  (repeat walk_at "w1")
  refine ws_items (xs := symsL.map fun s => D.str (sS s)) (fun i δ g => g = h ∧ (∃ x2, δ = [some (.str (sS l)), some (.int ((p : Nat) : Int)), x2]) ∧ (symsL.take i).find? (fun s => decide ((l.drop p).take s.length = s)) = none) ⟨rfl, ⟨_, rfl⟩, rfl⟩ ?_ ?_
  · rintro i x δ g hx ⟨rfl, ⟨x2, rfl⟩, hn⟩
    rw [List.getElem?_map, Option.map_eq_some_iff] at hx
    obtain ⟨s, hs, rfl⟩ := hx
    have hsl : s.length ≤ 2 := by
      have := List.mem_of_getElem? hs
      simp only [symsL, List.mem_cons, List.not_mem_nil, or_false] at this
      rcases this with rfl | rfl | rfl | rfl | rfl | rfl | rfl | rfl | rfl | rfl | rfl | rfl | rfl | rfl | rfl | rfl <;> simp
    refine ⟨_, rfl, ?_⟩
    unfold b_symbol_at_0
    dsimp only [List.set]
    (repeat walk_at "w1")
    refine wp_lenS (by rw [sS_len]; unfold lim; omega) ?_
    rw [sS_len]
    (repeat walk_at "w1")
    refine wp_slS (by rw [sS_len]; exact hlim) ?_
    rw [show ((p : Nat) : Int) + ((s.length : Nat) : Int) = ((p + s.length : Nat) : Int) by push_cast; rfl, cutS_any (by omega) hp, Nat.add_sub_cancel_left]
    (repeat walk_at "w1")
    rw [sS_beq]
    by_cases z : (l.drop p).take s.length = s
    · refine wif_tt (by simpa using z) ?_
      (repeat walk_at "w1")
      have : syF l p = s := by
        unfold syF
        have hd : symsL = symsL.take i ++ (s :: symsL.drop (i + 1)) := by
          obtain ⟨hi, e⟩ := List.getElem?_eq_some_iff.mp hs
          have := List.drop_eq_getElem_cons hi
          rw [e] at this
          rw [← this, List.take_append_drop]
        rw [hd, List.find?_append, hn, Option.none_or, List.find?_cons, decide_eq_true z]
        rfl
      rw [this] at q
      exact q
    · refine wif_ff (by simpa using z) ?_
      (repeat walk_at "w1")
      refine ⟨rfl, ⟨_, rfl⟩, ?_⟩
      rw [takeS hs, List.find?_append, hn, Option.none_or, List.find?_cons, decide_eq_false z]
      rfl
  · rintro δ g ⟨rfl, ⟨x2, rfl⟩, hn⟩
    rw [List.length_map, List.take_length] at hn
    (repeat walk_at "w1")
    have : syF l p = [] := by unfold syF; rw [hn]; rfl
    rw [this] at q
    rw [ofS "" [] (by decide +kernel)]
    exact q
theorem lit_w (k : Nat) {i : Int} {t : List Nat} (ht : NumTx i t) (h0 : -2147483648 ≤ i) (h1 : i ≤ 2147483647) {r : D} {h : AH} {Q : D → AH → Prop} {E : EX} (q : Q .non h) : wp (runOf fs (k + 1) i_must_be_literal [.str (sS t), r] h) Q E := by
  refine go_must_be_literal k ?_
  unfold m_must_be_literal
  rw [ofS "-" [45] (by decide +kernel), ofS "0" [48] (by decide +kernel), show v_LEAST = .int (-2147483648) from rfl, show v_MOST = .int 2147483647 from rfl]
  have htl : t.length ≤ 11 := by
    rcases ht.sh with ⟨ds, rfl, _, _, h2, _⟩ | ⟨ds, rfl, _, _, h2, _⟩
    · omega
    · simp; omega
  have hlim : t.length ≤ lim := by unfold lim; omega
  obtain ⟨ds, c, r1, hc, hds, hdl, h48⟩ : ∃ (ds : List Nat) (c : Nat) (r1 : List Nat), t[0]? = some c ∧ (if c = 45 then t.drop 1 else t) = ds ∧ (ds.length ≤ 10 ∧ ds ≠ []) ∧ (∀ r, ds = 48 :: r → t = [48]) := by
    rcases ht.sh with ⟨ds, rfl, h1, hd, h2, h3⟩ | ⟨ds, rfl, h1, hd, h2, h3⟩
    · obtain ⟨c, r, e⟩ := List.exists_cons_of_ne_nil h1
      refine ⟨t, c, r, by rw [e]; rfl, ?_, ⟨h2, h1⟩, h3⟩
      have := isDig_iff.mp (hd c (by rw [e]; exact List.mem_cons_self))
      rw [if_neg (by omega)]
    · exact ⟨ds, 45, [], rfl, by rw [if_pos rfl]; rfl, ⟨h2, h1⟩, fun r e => absurd e (h3 r)⟩
  refine ws_join (fun δ g => δ = [some (.str (sS t)), some r, some (.str (sS ds))] ∧ g = h) ?_ ?_
  · (repeat walk_at "w1")
    refine wp_ixs (i := 0) hlim hc ?_
    (repeat walk_at "w1")
    rw [sS_beq]
    by_cases z : c = 45
    · rw [if_pos z] at hds
      refine wif_tt (by simpa using z) ?_
      (repeat walk_at "w1")
      refine wp_slS (by rw [sS_len]; exact hlim) ?_
      rw [show (1 : Int) = ((1 : Nat) : Int) from rfl, cutS_from (by rcases ht.sh with ⟨ds, rfl, h1, _⟩ | ⟨ds, rfl, h1, _⟩ <;> (try simp); exact List.length_pos_iff.mpr h1), hds]
      exact ⟨rfl, rfl⟩
    · rw [if_neg z] at hds
      refine wif_ff (by simpa using z) ?_
      (repeat walk_at "w1")
      rw [hds]
      exact ⟨rfl, rfl⟩
  · rintro δ g ⟨rfl, rfl⟩
    refine ws_chk ?_ ?_
    · (repeat walk_at "w1")
      refine wp_lenS (by rw [sS_len]; unfold lim; omega) ?_
      rw [sS_len]
      (repeat walk_at "w1")
      refine wif_ff (by rw [decide_eq_false_iff_not]; omega) ?_
      (repeat walk_at "w1")
      cases hd0 : ds with
      | nil => exact absurd hd0 hdl.2
      | cons c2 r2 =>
        refine wp_ixs (i := 0) (by rw [← hd0]; unfold lim; omega) rfl ?_
        (repeat walk_at "w1")
        rw [sS_beq]
        by_cases z : c2 = 48
        · refine wif_tt (by simpa using z) ?_
          (repeat walk_at "w1")
          rw [sS_beq, h48 r2 (by rw [hd0, z])]
          exact ⟨rfl, rfl⟩
        · refine wif_ff (by simpa using z) ?_
          exact ⟨rfl, rfl⟩
    · refine ws_chk1 ?_ q
      (repeat walk_at "w1")
      refine wp_intS ht.int (by rw [sS_len]; omega) ?_
      (repeat walk_at "w1")
      refine wif_tt (by rw [decide_eq_true_eq]; omega) ?_
      (repeat walk_at "w1")
      exact ⟨by rw [decide_eq_true (by omega)]; rfl, rfl⟩
theorem last_some {t : List Nat} (h : t ≠ []) : ∃ a, t.getLast? = some a ∧ a ∈ t := by
  refine ⟨t.getLast h, List.getLast?_eq_getLast h, List.getLast_mem h⟩
theorem numTx_last {i : Int} {t : List Nat} (h : NumTx i t) : ∃ a, t.getLast? = some a ∧ isDig a = true := by
  rcases h.sh with ⟨ds, rfl, h1, hd, _⟩ | ⟨ds, rfl, h1, hd, _⟩
  · obtain ⟨a, e, ha⟩ := last_some h1
    exact ⟨a, e, hd a ha⟩
  · obtain ⟨a, e, ha⟩ := last_some h1
    refine ⟨a, ?_, hd a ha⟩
    cases ds with
    | nil => exact absurd rfl h1
    | cons b r => rw [List.getLast?_cons_cons]; exact e
theorem nE_num {L R t : List Nat} {p : Nat} {i : Int} (hd : L.drop p = t ++ R) (ht : NumTx i t) (hb : Behind t R) : nE L p = p + t.length ∧ t ≠ [] := by
  obtain ⟨a, ea, hda⟩ := numTx_last ht
  have hR : ∀ c R', R = c :: R' → isDig c = false := fun c R' e => (hb a c R' ea e).2.1 (.inl hda)
  rcases ht.sh with ⟨ds, e, h1, hdg, _⟩ | ⟨ds, e, h1, hdg, _⟩
  · subst e
    obtain ⟨c, r, e⟩ := List.exists_cons_of_ne_nil h1
    have hc : isDig c = true := hdg c (by rw [e]; exact List.mem_cons_self)
    have h0 : L[p]? = some c := (at_drop (r := r ++ R) (by rw [hd, e]; rfl)).1
    have hne : ¬ (some c = some 45) := by
      have := isDig_iff.mp hc
      simp; omega
    refine ⟨?_, h1⟩
    unfold nE
    rw [h0]
    simp only [if_neg hne]
    rw [hd, tw_app hdg hR]
    have : 0 < t.length := List.length_pos_iff.mpr h1
    rw [if_neg (by omega)]
  · subst e
    have h0 := at_drop (r := ds ++ R) (by rw [hd]; rfl)
    refine ⟨?_, by simp⟩
    unfold nE
    rw [h0.1]
    simp only [if_pos True.intro, reduceIte]
    rw [h0.2, tw_app hdg hR]
    have : 0 < ds.length := List.length_pos_iff.mpr h1
    rw [if_neg (by omega), List.length_cons]
    omega
theorem nE_sym {L R t : List Nat} {p : Nat} (hd : L.drop p = t ++ R) (ht : t ∈ symsL) (hb : Behind t R) : nE L p = p := by
  have hh : ∃ c t', t = c :: t' ∧ isDig c = false ∧ (c = 45 → t' = []) := by
    simp only [symsL, List.mem_cons, List.not_mem_nil, or_false] at ht
    rcases ht with rfl | rfl | rfl | rfl | rfl | rfl | rfl | rfl | rfl | rfl | rfl | rfl | rfl | rfl | rfl | rfl <;> exact ⟨_, _, rfl, by decide, by simp⟩
  obtain ⟨c, t', rfl, hc, h45⟩ := hh
  have h0 := at_drop (r := t' ++ R) (by rw [hd]; rfl)
  unfold nE
  rw [h0.1]
  by_cases z : c = 45
  · subst z
    rw [h45 rfl, List.nil_append] at h0
    simp only [reduceIte]
    rw [h0.2, tw_nil (fun a r e => (hb 45 a r (by rw [h45 rfl]; rfl) e).2.1 (.inr rfl))]
    simp
  · simp only [Option.some.injEq, if_neg z]
    rw [hd, tw_nil (l := (c :: t') ++ R) (f := isDig) (fun a r e => by cases e; exact hc)]
    simp
theorem syF_sym {L R t : List Nat} {p : Nat} (hd : L.drop p = t ++ R) (ht : t ∈ symsL) (hb : Behind t R) : syF L p = t := by
  unfold syF
  rw [hd]
  simp only [symsL, List.mem_cons, List.not_mem_nil, or_false] at ht
  rcases ht with rfl | rfl | rfl | rfl | rfl | rfl | rfl | rfl | rfl | rfl | rfl | rfl | rfl | rfl | rfl | rfl
  case inr.inr.inr.inr.inr.inr.inr.inr.inr.inr.inr.inr.inr.inr.inr =>
    cases R with
    | nil => simp [symsL, List.find?_cons]
    | cons c R =>
      have := (hb 61 c R rfl rfl).2.2 rfl
      simp [symsL, List.find?_cons, this]
  all_goals simp [symsL, List.find?_cons]
theorem tok_head {t : List Nat} (h : TokOk t) : ∃ c t', t = c :: t' ∧ c ≠ 32 := by
  rcases h with ⟨h1, _, hl⟩ | ⟨i, ht, _⟩ | h
  · obtain ⟨c, r, e⟩ := List.exists_cons_of_ne_nil h1
    have := isLet_iff.mp (hl c (by rw [e]; exact List.mem_cons_self))
    exact ⟨c, r, e, by omega⟩
  · rcases ht.sh with ⟨ds, e, h1, hdg, _⟩ | ⟨ds, e, h1, hdg, _⟩
    · subst e
      obtain ⟨c, r, e⟩ := List.exists_cons_of_ne_nil h1
      have := isDig_iff.mp (hdg c (by rw [e]; exact List.mem_cons_self))
      exact ⟨c, r, e, by omega⟩
    · exact ⟨45, ds, e, by decide⟩
  · simp only [symsL, List.mem_cons, List.not_mem_nil, or_false] at h
    rcases h with rfl | rfl | rfl | rfl | rfl | rfl | rfl | rfl | rfl | rfl | rfl | rfl | rfl | rfl | rfl | rfl <;> exact ⟨_, _, rfl, by decide⟩
theorem nolet {L R t : List Nat} {p : Nat} (hd : L.drop p = t ++ R) (ht : (∃ i, NumTx i t) ∨ t ∈ symsL) : ((L.drop p).takeWhile isLet).length = 0 := by
  have hh : ∃ c t', t = c :: t' ∧ isLet c = false := by
    rcases ht with ⟨i, ht⟩ | h
    · rcases ht.sh with ⟨ds, e, h1, hdg, _⟩ | ⟨ds, e, h1, hdg, _⟩
      · subst e
        obtain ⟨c, r, e⟩ := List.exists_cons_of_ne_nil h1
        have := isDig_iff.mp (hdg c (by rw [e]; exact List.mem_cons_self))
        refine ⟨c, r, e, ?_⟩
        cases hl : isLet c with
        | false => rfl
        | true => have := isLet_iff.mp hl; omega
      · exact ⟨45, ds, e, by decide⟩
    · simp only [symsL, List.mem_cons, List.not_mem_nil, or_false] at h
      rcases h with rfl | rfl | rfl | rfl | rfl | rfl | rfl | rfl | rfl | rfl | rfl | rfl | rfl | rfl | rfl | rfl <;> exact ⟨_, _, rfl, by decide⟩
  obtain ⟨c, t', rfl, hc⟩ := hh
  rw [hd, tw_nil (l := (c :: t') ++ R) (f := isLet) (fun a r e => by cases e; exact hc)]
  rfl
/-- the token at a place -/
theorem one_w (k : Nat) {L R t : List Nat} {p : Nat} (hl : L.length ≤ 1000) (hd : L.drop p = t ++ R) (ht : TokOk t) (hb : Behind t R) {row : D} {M : Nat} {acc : List D} {x4 : Option D} {h : AH} (hM : h[M]? = some (.lst acc)) (ha : acc.length ≤ 1000)
    {N : Sl → AH → Prop} {T : D → AH → Prop} {B C : Sl → AH → Prop} {X : SX} (q : ∀ y4, N [some (.str (sS L)), some row, some (.loc M), some (.int ((p + t.length : Nat) : Int)), y4] (h.set M (.lst (acc ++ [.str (sS t)])))) :
    ws (sSeq (sAsg (eA (callD 3 (runOf fs (k + 2) i_run_of)) (aCons (eVar 0) (aCons (eVar 3) (aCons (eC v_LETTERS) aNil)))) (.nm 4))
(sSeq (sIf (bOf (e2 eqD (eVar 4) (eVar 3)))
(sSeq (sAsg (eA (callD 2 (runOf fs (k + 2) i_number_end)) (aCons (eVar 0) (aCons (eVar 3) aNil))) (.nm 4))
(sIf (bOf (e2 (cmpI fun i j => decide (j < i)) (eVar 4) (eVar 3)))
(sExpr (eA (callD 2 (runOf fs (k + 2) i_must_be_literal)) (aCons (eSl (eVar 0) (oSome (eVar 3)) (oSome (eVar 4))) (aCons (eVar 1) aNil))))
sNext))
sNext)
(sSeq (sIf (bOf (e2 eqD (eVar 4) (eVar 3)))
(sAsg (e2 addD (eVar 3) (eA lenD (aCons (eA (callD 2 (runOf fs (k + 2) i_symbol_at)) (aCons (eVar 0) (aCons (eVar 3) aNil))) aNil))) (.nm 4))
sNext)
(sSeq (sIf (bOf (e2 eqD (eVar 4) (eVar 3)))
(sRaise 1 2 [("row", .par 0)] (aCons (eVar 1) (aCons (eC (.str "bad sign")) aNil)))
sNext)
(sSeq (sExpr (eMt "list" appD (eVar 2) (aCons (eSl (eVar 0) (oSome (eVar 3)) (oSome (eVar 4))) aNil)))
(sAsg (eVar 4) (.nm 3)))))) [some (.str (sS L)), some row, some (.loc M), some (.int ((p : Nat) : Int)), x4] h) N T B C X := by
  have hlim : L.length ≤ lim := by unfold lim; omega
  obtain ⟨c0, t', et, _⟩ := tok_head ht
  have htl : 0 < t.length := by rw [et]; simp
  have hpl : p + t.length ≤ L.length := by
    have := congrArg List.length hd
    rw [List.length_drop, List.length_append] at this
    omega
  have hcut : ∀ {e : Nat}, e = p + t.length → cutS (sS L) (some ((p : Nat) : Int)) (some ((e : Nat) : Int)) = sS t := fun {e} he => by
    rw [cutS_pq (by omega) (by omega), hd, show e - p = t.length by omega, List.take_left]
  refine ws_join (fun δ g => ∃ e : Nat, δ = [some (.str (sS L)), some row, some (.loc M), some (.int ((p : Nat) : Int)), some (.int ((e : Nat) : Int))] ∧ g = h ∧ e = p + ((L.drop p).takeWhile isLet).length) ?_ ?_
  · rw [show v_LETTERS = .str "abcdefghijklmnopqrstuvwxyz" from rfl]
    (repeat walk_at "w1")
    refine run_w (k + 1) (f := isLet) (fun c => let_mem) hl (by omega) ?_
    exact ⟨_, rfl, rfl, rfl⟩
  rintro δ g ⟨e, rfl, rfl, he⟩
  refine ws_join (fun δ g' => ∃ e : Nat, δ = [some (.str (sS L)), some row, some (.loc M), some (.int ((p : Nat) : Int)), some (.int ((e : Nat) : Int))] ∧ g' = g ∧ (if t ∈ symsL then e = p else e = p + t.length)) ?_ ?_
  · rcases ht with ⟨h1, h2, h3⟩ | ⟨i, hn, i0, i1⟩ | hs
    · obtain ⟨a, ea, ham⟩ := last_some h1
      have hns : t ∉ symsL := fun hs => by
        have := h3 c0 (by rw [et]; exact List.mem_cons_self)
        have h4 := nolet (L := t) (R := []) (p := 0) (by simp) (.inr hs)
        rw [et] at h4
        simp [List.takeWhile_cons, this] at h4
      rw [hd, tw_app h3 (fun c R' er => (hb a c R' ea er).1 (h3 a ham))] at he
      (repeat walk_at "w1")
      refine wif_ff (by rw [beq_eq_false_iff_ne]; omega) ?_
      (repeat walk_at "w1")
      exact ⟨_, rfl, rfl, by rw [if_neg hns]; exact he⟩
    · have hns : t ∉ symsL := fun hs => by
        obtain ⟨a, ea, hda⟩ := numTx_last hn
        simp only [symsL, List.mem_cons, List.not_mem_nil, or_false] at hs
        rcases hs with rfl | rfl | rfl | rfl | rfl | rfl | rfl | rfl | rfl | rfl | rfl | rfl | rfl | rfl | rfl | rfl <;> (cases ea; revert hda; decide)
      rw [nolet hd (.inl ⟨i, hn⟩), Nat.add_zero] at he
      subst he
      obtain ⟨hne, _⟩ := nE_num hd hn hb
      (repeat walk_at "w1")
      refine wif_tt (by simp) ?_
      (repeat walk_at "w1")
      refine nE_w k hl (by omega) ?_
      rw [hne]
      dsimp only [List.set]
      (repeat walk_at "w1")
      refine wif_tt (by rw [decide_eq_true_eq]; omega) ?_
      (repeat walk_at "w1")
      refine wp_slS (by rw [sS_len]; exact hlim) ?_
      rw [hcut rfl]
      (repeat walk_at "w1")
      refine lit_w (k + 1) hn i0 i1 ?_
      exact ⟨_, rfl, rfl, by rw [if_neg hns]⟩
    · rw [nolet hd (.inr hs), Nat.add_zero] at he
      subst he
      (repeat walk_at "w1")
      refine wif_tt (by simp) ?_
      (repeat walk_at "w1")
      refine nE_w k hl (by omega) ?_
      rw [nE_sym hd hs hb]
      dsimp only [List.set]
      (repeat walk_at "w1")
      refine wif_ff (by rw [decide_eq_false_iff_not]; omega) ?_
      (repeat walk_at "w1")
      exact ⟨_, rfl, rfl, by rw [if_pos hs]⟩
  clear he e
  rintro δ g' ⟨e, rfl, rfl, he⟩
  refine ws_join (fun δ g => ∃ e : Nat, δ = [some (.str (sS L)), some row, some (.loc M), some (.int ((p : Nat) : Int)), some (.int ((e : Nat) : Int))] ∧ g = g' ∧ e = p + t.length) ?_ ?_
  · by_cases hs : t ∈ symsL
    · rw [if_pos hs] at he
      subst he
      (repeat walk_at "w1")
      refine wif_tt (by simp) ?_
      (repeat walk_at "w1")
      refine sym_w (k + 1) hl (by omega) ?_
      rw [syF_sym hd hs hb]
      (repeat walk_at "w1")
      refine wp_lenS (by rw [sS_len]; unfold lim; omega) ?_
      rw [sS_len]
      (repeat walk_at "w1")
      exact ⟨_, rfl, rfl, rfl⟩
    · rw [if_neg hs] at he
      (repeat walk_at "w1")
      refine wif_ff (by rw [beq_eq_false_iff_ne]; omega) ?_
      (repeat walk_at "w1")
      exact ⟨_, rfl, rfl, he⟩
  clear he e
  rintro δ g ⟨e, rfl, rfl, he⟩
  (repeat walk_at "w1")
  refine wif_ff (by rw [beq_eq_false_iff_ne]; omega) ?_
  (repeat walk_at "w1")
  refine ⟨isTy_l hM, ?_⟩
  (repeat walk_at "w1")
  refine wp_slS (by rw [sS_len]; exact hlim) ?_
  rw [hcut he]
  (repeat walk_at "w1")
  refine wp_app hM (by unfold lim; omega) ?_
  (repeat walk_at "w1")
  rw [he]
  exact q _
theorem encT_ne {b : Bool} {t : List Nat} {r : List (Bool × List Nat)} (h : TokOk t) : encT ((b, t) :: r) ≠ [] := by
  obtain ⟨c, t', e, _⟩ := tok_head h
  rw [encT, e]
  cases b <;> simp
theorem tokens_w (k : Nat) {L : List Nat} {t0 : List Nat} {ts0 : List (Bool × List Nat)} (hL : L = encT ((false, t0) :: ts0)) (hc : ChOk ((false, t0) :: ts0)) (hl : L.length ≤ 1000) (hn : ts0.length ≤ 900) {row : D} {h : AH} {Q : D → AH → Prop} {E : EX} (q : ∀ g, g[h.length]? = some (.lst (((false, t0) :: ts0).map fun x => D.str (sS x.2))) → Stay h g → Q (.loc h.length) g) : wp (runOf fs (k + 3) i_tokens_of [.str (sS L), row] h) Q E := by
  have hlim : L.length ≤ lim := by unfold lim; omega
  refine go_tokens_of (k + 2) ?_
  unfold m_tokens_of
  generalize hts : (false, t0) :: ts0 = ts at hL hc q
  have hfirst : ∀ b t r, ts = (b, t) :: r → b = false := by
    intro b t r e
    rw [← hts] at e
    cases e
    rfl
  have hlen : ts.length ≤ 901 := by rw [← hts]; simp; omega
  refine ws_join (fun δ g => δ = [some (.str (sS L)), some row, some (.loc h.length), some (.int 0), none] ∧ g = h ++ [.lst []]) ?_ ?_
  · (repeat walk_at "w1")
    exact ⟨_, rfl, rfl, rfl⟩
  rintro δ g ⟨rfl, rfl⟩
  refine ws_join (fun δ g => (∃ x3 x4, δ = [some (.str (sS L)), some row, some (.loc h.length), x3, x4]) ∧ g[h.length]? = some (.lst (ts.map fun x => D.str (sS x.2))) ∧ Stay h g) ?_ ?_
  · refine ws_wh (fun m δ g => ∃ (dn rs : List (Bool × List Nat)) (p : Nat) (x4 : Option D), ts = dn ++ rs ∧ m = rs.length ∧ δ = [some (.str (sS L)), some row, some (.loc h.length), some (.int ((p : Nat) : Int)), x4] ∧ L.drop p = encT rs ∧ p ≤ L.length ∧ (p = 0 → dn = []) ∧ ChOk rs ∧ g[h.length]? = some (.lst (dn.map fun x => D.str (sS x.2))) ∧ Stay h g) ?_ _ ts.length _ _ (by unfold fuel0; omega) ⟨[], ts, 0, none, rfl, rfl, rfl, hL, Nat.zero_le _, fun _ => rfl, hc, by simp, Stay.app _ _⟩
    rintro m δ g ⟨dn, rs, p, x4, hts2, rfl, rfl, hd, hp, hz, hcr, hM, st⟩
    (repeat walk_at "w1")
    refine wp_lenS (by rw [sS_len]; exact hlim) ?_
    rw [sS_len]
    (repeat walk_at "w1")
    cases rs with
    | nil =>
      rw [encT] at hd
      have : L.length ≤ p := List.drop_eq_nil_iff.mp hd
      refine ⟨fun z => ?_, fun _ => ?_⟩
      · rw [decide_eq_true_eq] at z; omega
      · rw [List.append_nil] at hts2
        subst hts2
        exact ⟨⟨_, _, rfl⟩, hM, st⟩
    | cons x rs =>
      obtain ⟨b, t⟩ := x
      obtain ⟨ht, hb, hcr2⟩ := hcr
      have hne := encT_ne (b := b) (r := rs) ht
      have hpl : p < L.length := by
        rcases Nat.lt_or_ge p L.length with z | z
        · exact z
        · rw [List.drop_eq_nil_iff.mpr z] at hd; exact absurd hd.symm hne
      refine ⟨fun _ => ⟨rs.length, rfl, ?_⟩, fun z => ?_⟩
      · unfold b_tokens_of_0
        obtain ⟨c, t', et, hc32⟩ := tok_head ht
        refine ws_join (fun δ g' => ∃ p' : Nat, δ = [some (.str (sS L)), some row, some (.loc h.length), some (.int ((p' : Nat) : Int)), x4] ∧ g' = g ∧ L.drop p' = t ++ encT rs ∧ 0 < p' + t.length) ?_ ?_
        · rw [ofS " " [32] (by decide +kernel)]
          cases b with
          | true =>
            have hd2 : L.drop p = 32 :: (t ++ encT rs) := hd
            obtain ⟨a1, a2⟩ := at_drop hd2
            have a3 := at_drop (p := p + 1) (r := t' ++ encT rs) (by rw [a2, et]; rfl)
            have hp1 : p + 1 < L.length := (List.getElem?_eq_some_iff.mp a3.1).1
            have hp0 : p ≠ 0 := fun z => by
              have := hz z
              subst this
              have := hfirst _ _ _ hts2
              cases this
            (repeat walk_at "w1")
            refine wp_ixs hlim a1 ?_
            (repeat walk_at "w1")
            refine wp_lenS (by rw [sS_len]; exact hlim) ?_
            rw [sS_len]
            (repeat walk_at "w1")
            refine wif_ff (by rw [beq_eq_false_iff_ne]; omega) ?_
            (repeat walk_at "w1")
            rw [show ((p : Nat) : Int) + 1 = ((p + 1 : Nat) : Int) by push_cast; rfl]
            refine wp_ixs hlim a3.1 ?_
            (repeat walk_at "w1")
            rw [sS_beq]
            refine wif_ff (by simpa using hc32) ?_
            (repeat walk_at "w1")
            refine wif_ff (by rw [beq_eq_false_iff_ne]; omega) ?_
            (repeat walk_at "w1")
            rw [show ((p : Nat) : Int) + 1 = ((p + 1 : Nat) : Int) by push_cast; rfl]
            exact ⟨p + 1, rfl, rfl, a2, by omega⟩
          | false =>
            have hd2 : L.drop p = t ++ encT rs := hd
            obtain ⟨a1, a2⟩ := at_drop (r := t' ++ encT rs) (by rw [hd2, et]; rfl)
            (repeat walk_at "w1")
            refine wp_ixs hlim a1 ?_
            (repeat walk_at "w1")
            rw [sS_beq]
            refine wif_ff (by simpa using hc32) ?_
            (repeat walk_at "w1")
            exact ⟨p, rfl, rfl, hd2, by rw [et, List.length_cons]; omega⟩
        · rintro δ g' ⟨p', rfl, rfl, hd', hpos⟩
          refine one_w k hl hd' ht hb hM (by rw [List.length_map]; have := congrArg List.length hts2; rw [List.length_append] at this; omega) fun y4 => ?_
          refine ⟨dn ++ [(b, t)], rs, p' + t.length, _, ?_, rfl, rfl, ?_, ?_, fun z => by omega, hcr2, ?_, st.put (Nat.le_refl _)⟩
          · rw [hts2, List.append_assoc]; rfl
          · rw [← List.drop_drop, hd', List.drop_left]
          · have := congrArg List.length hd'
            rw [List.length_drop, List.length_append] at this
            obtain ⟨ht1, _⟩ := ht.ne
            have : 0 < t.length := List.length_pos_iff.mpr ht1
            omega
          · rw [List.map_append]
            exact List.getElem?_set_self (List.getElem?_eq_some_iff.mp hM).1
      · rw [decide_eq_false_iff_not] at z; omega
  · rintro δ g ⟨⟨x3, x4, rfl⟩, hM, st⟩
    (repeat walk_at "w1")
    exact q g hM st
/-! ## the law's tokens -/
noncomputable def ltS : String := "abcdefghijklmnopqrstuvwxyz"
theorem lt_at {r : Int} (h0 : 0 ≤ r) (h1 : r < 26) : ∃ c, isLet c = true ∧ (sS (TL.tl (Str.ofString "abcdefghijklmnopqrstuvwxyz"))).cps.toList[r.toNat]? = some c := by
  have e : TL.tl (Str.ofString "abcdefghijklmnopqrstuvwxyz") = [97, 98, 99, 100, 101, 102, 103, 104, 105, 106, 107, 108, 109, 110, 111, 112, 113, 114, 115, 116, 117, 118, 119, 120, 121, 122] := by decide +kernel
  rw [sS_tl, e]
  obtain ⟨n, rfl⟩ : ∃ n : Nat, r = (n : Int) := ⟨r.toNat, by omega⟩
  have hn : n < 26 := by omega
  rw [Int.toNat_natCast]
  refine ⟨97 + n, isLet_iff.mpr (by omega), ?_⟩
  have all : ∀ m : Fin 26, ([97, 98, 99, 100, 101, 102, 103, 104, 105, 106, 107, 108, 109, 110, 111, 112, 113, 114, 115, 116, 117, 118, 119, 120, 121, 122] : List Nat)[m.val]? = some (97 + m.val) := by decide
  exact all ⟨n, hn⟩
theorem wp_joinS {Q : D → AH → Prop} {E : EX} {a : List Nat} {n : Nat} {ys : List (List Nat)} {h : AH} (hn : lstAt h n = some (ys.map fun y => D.str (sS y))) (hz : (ys.map (·.length)).sum + ys.length * a.length ≤ 16777216) (q : Q (.str (sS (TL.joinL a ys))) h) : wp (joinD (.str (sS a)) [.loc n] h) Q E := by
  have e1 : seqD h (.loc n) = some (ys.map fun y => D.str (sS y)) := by
    rcases lstAt_or hn with e0 | e0 <;> (unfold seqD; simp only [e0])
  have e2 : strsOf (ys.map fun y => D.str (sS y)) = some (ys.map sS) := by
    have := strsOf_map (ys.map sS)
    rwa [List.map_map] at this
  have e3 : Txt.join (sS a) (ys.map sS) = sS (TL.joinL a ys) := by
    refine TL.ext_tl ?_
    rw [TL.join_eq, TL.tl_join, tl_sS, tl_sS, List.map_map]
    have : (TL.tl ∘ sS) = id := by funext l; rfl
    rw [this, List.map_id]
  unfold joinD
  simp only [e1, e2]
  have hz2 : ((ys.map sS).map (·.length)).sum + (ys.map sS).length * (sS a).length ≤ 16777216 := by
    rw [List.map_map, List.length_map, sS_len]
    have : ((fun x : Str => x.length) ∘ sS) = fun l : List Nat => l.length := by funext l; exact sS_len l
    rw [this]; exact hz
  rw [if_pos hz2, e3]
  exact q
theorem joinL_nil : ∀ ys : List (List Nat), TL.joinL [] ys = ys.flatten
  | [] => rfl
  | [p] => by simp [TL.joinL]
  | p :: q :: r => by
    show p ++ ([] ++ TL.joinL [] (q :: r)) = _
    rw [joinL_nil (q :: r)]
    simp
theorem wp_strI {Q : D → AH → Prop} {E : EX} {i : Int} {h : AH} (h0 : -2147483648 ≤ i) (h1 : i ≤ 2147483647) (q : Q (.str (sS (numT i))) h) : wp (strD [.int i] h) Q E := by
  unfold strD
  have hb : i.natAbs.log2 < 1920 := by
    have : i.natAbs < 2 ^ 1920 := Nat.lt_of_lt_of_le (by omega : i.natAbs < 2 ^ 32) (Nat.pow_le_pow_right (by decide) (by decide))
    by_cases z : i.natAbs = 0
    · rw [z]; decide
    · exact (Nat.log2_lt z).mpr this
  simp only [if_pos hb]
  have e : (Str.ofString (toString i)) = sS (numT i) := (sS_of _).symm
  rw [← e] at q
  exact q
theorem typed {α : Type} {f : α → D} {P : α → Prop} : ∀ acc : List D, (∀ y ∈ acc, ∃ a, y = f a ∧ P a) → ∃ as : List α, acc = as.map f ∧ ∀ a ∈ as, P a
  | [], _ => ⟨[], rfl, fun _ h => absurd h List.not_mem_nil⟩
  | y :: r, h => by
    obtain ⟨a, rfl, ha⟩ := h y List.mem_cons_self
    obtain ⟨as, rfl, has⟩ := typed r fun z hz => h z (List.mem_cons_of_mem _ hz)
    refine ⟨a :: as, rfl, fun b hb => ?_⟩
    rcases List.mem_cons.mp hb with rfl | hb
    · exact ha
    · exact has b hb
theorem tok_w (k : Nat) {l : Nat} {h : AH} {Q : D → AH → Prop} {E : EX} (d : Dice h l) (q : ∀ t g, TokOk t → St1 l h g → Dice g l → Q (.str (sS t)) g) : wp (runOf fs (k + 3) i__law_token [.loc l] h) Q E := by
  refine go__law_token (k + 2) ?_
  unfold m__law_token
  (repeat walk_at "w1")
  refine roll_w (k + 1) (by decide) (by decide) d fun rn h1 r0 r1 s1 d1 => ?_
  dsimp only [List.set]
  (repeat walk_at "w1")
  refine wif (fun z1 => ?_) fun z1 => ?_
  · (repeat walk_at "w1")
    refine word_w k d1 fun w h2 w0 w1 s2 d2 => ?_
    refine wp_strI w0 w1 ?_
    exact q _ _ (.inr (.inl ⟨w, numTx w0 w1, w0, w1⟩)) (s1.trans s2) d2
  (repeat walk_at "w1")
  refine wif (fun z2 => ?_) fun z2 => ?_
  · (repeat walk_at "w1")
    refine roll_w (k + 1) (by decide) (by decide) d1 fun r2 h2 r20 r21 s2 d2 => ?_
    (repeat walk_at "w1")
    refine ⟨rfl, ?_⟩
    (repeat walk_at "w1")
    with_reducible refine wp_iR1 (j := 1 + r2) (by unfold big; simp; omega) ?_
    obtain ⟨xs, ex, hx1, hx2⟩ := rng_len 0 (1 + r2)
    rw [ex]
    dsimp only [dwipe, List.set]
    refine wp_lcDI (fun _ y => ∃ c : Nat, y = .str (sS [c]) ∧ isLet c = true) d2 (by rw [hx1]; unfold lim; omega) (fun i x g hx dg sg => ⟨_, rfl, ?_⟩) fun acc h3 ha hp hM s3 d3 => ?_
    · (try dsimp only [dwipe, List.set])
      (repeat walk_at "w1")
      refine roll_w (k + 1) (by decide) (by decide) dg fun r3 g2 r30 r31 s3 d3 => ?_
      obtain ⟨c, hc, ec⟩ := lt_at r30 r31
      rw [sS_tl] at ec
      have e1 : Str.ofString "abcdefghijklmnopqrstuvwxyz" = sS (TL.tl (Str.ofString "abcdefghijklmnopqrstuvwxyz")) := (sS_of _).symm
      rw [e1, show r3 = ((r3.toNat : Nat) : Int) by omega]
      refine wp_ixs (by have := (List.getElem?_eq_some_iff.mp ec).1; have e : (TL.tl (Str.ofString "abcdefghijklmnopqrstuvwxyz")).length = 26 := by decide +kernel
                        rw [e]; unfold lim; omega) ec ?_
      exact ⟨⟨c, rfl, hc⟩, s3, d3⟩
    · obtain ⟨cs, rfl, hcs⟩ := typed (f := fun c : Nat => D.str (sS [c])) (P := fun c => isLet c = true) acc fun y hy => by
        obtain ⟨i, hi⟩ := List.mem_iff_getElem?.mp hy
        exact hp i y hi
      rw [List.length_map, hx1] at ha
      (repeat walk_at "w1")
      have hcl : cs.length = (1 + r2).toNat := by simpa using ha
      have hs9 : (cs.map fun c : Nat => ([c] : List Nat)).flatten = cs := by
        clear hM hcs ha hcl hp
        induction cs with
        | nil => rfl
        | cons c r ih => rw [List.map_cons, List.flatten_cons, ih]; rfl
      rw [ofS "" [] (by decide +kernel)]
      refine wp_joinS (ys := cs.map fun c => [c]) (by rw [List.map_map]; exact lstAt_lst hM) ?_ ?_
      · rw [List.length_map, List.map_map]
        have : ((cs.map ((·.length) ∘ fun c : Nat => ([c] : List Nat)))).sum ≤ cs.length := by
          clear hM hcs ha hcl hp hs9
          induction cs with
          | nil => simp
          | cons c r ih => rw [List.map_cons, List.sum_cons, List.length_cons]; simp at ih ⊢; omega
        simp only [List.length_nil, Nat.mul_zero, Nat.add_zero]
        omega
      · rw [joinL_nil, hs9]
        refine q cs _ (.inl ⟨?_, by omega, hcs⟩) (s1.trans (s2.trans s3)) d3
        intro e
        rw [e] at hcl
        simp at hcl
        omega
  (repeat walk_at "w1")
  have el : [D.str "==", .str "+", .str "-", .str "*", .str "/", .str "<", .str "&", .str "^", .str "|", .str ",", .str "(", .str ")", .str "[", .str "]", .str ":", .str "="] = symsL.map fun s => D.str (sS s) := by
    have := syms_e
    unfold v_SYMBOLS at this
    injection this
  rw [el]
  have hne : h1.length ≠ l := by have := d1.lt; omega
  refine roll_w (k + 1) (by decide) (by decide) ((Stay.app _ _).dice d1) fun r2 h2 r20 r21 s2 d2 => ?_
  have hM := s2.keep _ _ hne (newO h1 _)
  refine wp_ixM (lstAt_lst hM) r20 (by rw [List.length_map, show symsL.length = 16 from rfl]; exact r21) fun x hx => ?_
  rw [List.getElem?_map, Option.map_eq_some_iff] at hx
  obtain ⟨t, ht, rfl⟩ := hx
  exact q t _ (.inr (.inr (List.mem_of_getElem? ht))) (s1.trans ((St1.app _ _ _).trans s2)) d2
/-! ## rows of tokens -/
noncomputable def nbF (a c : Nat) : Bool := (isLet a && isLet c) || (((isDig a || decide (a = 45)) && isDig c) || (decide (a = 61) && decide (c = 61)))
theorem nbF_sep {a c : Nat} (h : nbF a c = false) : Sep a c := by
  unfold nbF at h
  simp only [Bool.or_eq_false_iff, Bool.and_eq_false_iff, Bool.or_eq_false_iff, decide_eq_false_iff_not] at h
  obtain ⟨h1, h2, h3⟩ := h
  refine ⟨fun z => ?_, fun z => ?_, fun z z2 => ?_⟩
  · rcases h1 with h1 | h1
    · rw [z] at h1; cases h1
    · exact h1
  · rcases h2 with ⟨h2, h4⟩ | h2
    · rcases z with z | z
      · rw [z] at h2; cases h2
      · exact absurd z h4
    · exact h2
  · rcases h3 with h3 | h3
    · exact h3 z
    · exact h3 z2
theorem nb_w (k : Nat) {x y : List Nat} {a c : Nat} {y' : List Nat} (hx : x.getLast? = some a) (hy : y = c :: y') (hxl : x.length ≤ 1000) (hyl : y.length ≤ 1000) {h : AH} {Q : D → AH → Prop} {E : EX} (q : Q (.bl (nbF a c)) h) : wp (runOf fs (k + 1) i__law_needs_blank [.str (sS x), .str (sS y)] h) Q E := by
  have l1 : x.length ≤ lim := by unfold lim; omega
  have l2 : y.length ≤ lim := by unfold lim; omega
  have hy0 : y[0]? = some c := by rw [hy]; rfl
  refine go__law_needs_blank k ?_
  unfold m__law_needs_blank
  have first : ∀ {Q : D → AH → Prop} {E : EX}, Q (.str (sS [c])) h → wp (ixD (.str (sS y)) (.int 0) h) Q E := fun q => wp_ixs (i := 0) l2 hy0 q
  have last : ∀ {Q : D → AH → Prop} {E : EX}, Q (.str (sS [a])) h → wp (ixD (.str (sS x)) (.int (-1)) h) Q E := fun q => wp_ixl l1 hx q
  have in2 : ∀ (z1 z2 : Str) (b1 b2 : Bool), decide (a ∈ TL.tl z1) = b1 → decide (c ∈ TL.tl z2) = b2 → ∀ {Q : Bool → AH → Prop} {E : EX}, Q (b1 && b2) h → wp (bAnd (bOf (e2 (inD false) (e2 ixD (eVar 0) (e1 negD (eC (.int 1)))) (eC (.str z1)))) (bOf (e2 (inD false) (e2 ixD (eVar 1) (eC (.int 0))) (eC (.str z2)))) [some (.str (sS x)), some (.str (sS y))] h) Q E := by
    intro z1 z2 b1 b2 e1 e2 Q E q
    refine wp_bAnd ?_
    (repeat walk_at "w1")
    refine last ?_
    (repeat walk_at "w1")
    refine wp_ins ?_
    rw [e1]
    cases b1 with
    | true =>
      (repeat walk_at "w1")
      refine first ?_
      (repeat walk_at "w1")
      refine wp_ins ?_
      rw [e2]
      (repeat walk_at "w1")
      cases b2 <;> exact q
    | false =>
      (repeat walk_at "w1")
      exact q
  rw [ofS "=" [61] (by decide +kernel)]
  refine ws_join (fun δ g => δ = [some (.str (sS x)), some (.str (sS y))] ∧ g = h ∧ (isLet a && isLet c) = false) ?_ ?_
  · refine ws_if (in2 _ _ _ _ let_mem let_mem ?_)
    cases hb : (isLet a && isLet c) with
    | true =>
      (repeat walk_at "w1")
      have : nbF a c = true := by unfold nbF; rw [hb]; rfl
      rw [this] at q
      exact q
    | false =>
      (repeat walk_at "w1")
      exact ⟨rfl, rfl, rfl⟩
  rintro δ g ⟨rfl, rfl, hb1⟩
  refine ws_join (fun δ g' => δ = [some (.str (sS x)), some (.str (sS y))] ∧ g' = g ∧ ((isDig a || decide (a = 45)) && isDig c) = false) ?_ ?_
  · refine ws_if (in2 _ _ _ _ digm_mem dig_mem ?_)
    cases hb : ((isDig a || decide (a = 45)) && isDig c) with
    | true =>
      (repeat walk_at "w1")
      have : nbF a c = true := by unfold nbF; rw [hb, Bool.true_or, Bool.or_true]
      rw [this] at q
      exact q
    | false =>
      (repeat walk_at "w1")
      exact ⟨rfl, rfl, rfl⟩
  rintro δ g' ⟨rfl, rfl, hb2⟩
  have eq : nbF a c = (decide (a = 61) && decide (c = 61)) := by unfold nbF; rw [hb1, hb2, Bool.false_or, Bool.false_or]
  rw [eq] at q
  (repeat walk_at "w1")
  refine last ?_
  (repeat walk_at "w1")
  rw [sS_beq]
  by_cases z : a = 61
  · rw [decide_eq_true z, Bool.true_and] at q
    rw [decide_eq_true (show ([a] : List Nat) = [61] by rw [z])]
    (repeat walk_at "w1")
    refine first ?_
    (repeat walk_at "w1")
    rw [sS_beq, show decide (([c] : List Nat) = [61]) = decide (c = 61) by simp]
    exact q
  · rw [decide_eq_false z, Bool.false_and] at q
    rw [decide_eq_false (show ¬ ([a] : List Nat) = [61] by simpa using z)]
    (repeat walk_at "w1")
    exact q
theorem encT_snoc : ∀ (ts : List (Bool × List Nat)) (b : Bool) (t : List Nat), encT (ts ++ [(b, t)]) = encT ts ++ ((if b = true then [32] else []) ++ t)
  | [], b, t => by simp [encT]
  | (b', t') :: r, b, t => by rw [List.cons_append, encT, encT, encT_snoc r b t]; simp
noncomputable def ChA (ts : List (Bool × List Nat)) : Prop := ∀ (j : Nat) (x y : Bool × List Nat), ts[j]? = some x → ts[j + 1]? = some y → y.1 = false → ∀ a c, x.2.getLast? = some a → y.2.head? = some c → Sep a c
theorem ChOk_of : ∀ {ts : List (Bool × List Nat)}, (∀ x ∈ ts, TokOk x.2) → ChA ts → ChOk ts
  | [], _, _ => trivial
  | (b, t) :: r, h, hc => by
    refine ⟨h _ List.mem_cons_self, fun a c R' ea er => ?_, ChOk_of (fun x hx => h x (List.mem_cons_of_mem _ hx)) fun j x y e1 e2 => hc (j + 1) x y (by simpa using e1) (by simpa using e2)⟩
    cases r with
    | nil => cases er
    | cons y r =>
      obtain ⟨b', t'⟩ := y
      rw [encT] at er
      cases b' with
      | true =>
        have : c = 32 := by
          have er : 32 :: (t' ++ encT r) = c :: R' := er
          injection er with e _
          exact e.symm
        subst this
        exact Sep.blank a
      | false =>
        obtain ⟨c', t2, e, _⟩ := tok_head (h (false, t') (by simp))
        have e : t' = c' :: t2 := e
        have er : t' ++ encT r = c :: R' := er
        rw [e] at er
        injection er with e1 _
        subst e1
        exact hc 0 (b, t) (false, t') rfl rfl rfl a c' ea (by rw [e]; rfl)
theorem ChA_snoc {ts : List (Bool × List Nat)} {b : Bool} {t : List Nat} (h : ChA ts) (hb : ∀ x, ts.getLast? = some x → b = false → ∀ a c, x.2.getLast? = some a → t.head? = some c → Sep a c) : ChA (ts ++ [(b, t)]) := by
  intro j x y e1 e2 hy a c ea ec
  by_cases hj : j + 1 < ts.length
  · rw [List.getElem?_append_left hj] at e2
    rw [List.getElem?_append_left (by omega)] at e1
    exact h j x y e1 e2 hy a c ea ec
  · have hl := (List.getElem?_eq_some_iff.mp e2).1
    rw [List.length_append, List.length_singleton] at hl
    have hj2 : j + 1 = ts.length := by omega
    rw [List.getElem?_append_right (by omega), hj2, Nat.sub_self] at e2
    cases e2
    rw [List.getElem?_append_left (by omega)] at e1
    refine hb x ?_ hy a c ea ec
    rw [List.getLast?_eq_getElem?, show ts.length - 1 = j by omega]
    exact e1
theorem encT_len : ∀ {ts : List (Bool × List Nat)}, (∀ x ∈ ts, TokOk x.2) → (encT ts).length ≤ 12 * ts.length
  | [], _ => by simp [encT]
  | (b, t) :: r, h => by
    have h1 := (h (b, t) List.mem_cons_self).ne.2
    have h2 := encT_len (ts := r) fun x hx => h x (List.mem_cons_of_mem _ hx)
    have h1 : t.length ≤ 11 := h1
    rw [encT, List.length_append, List.length_append, List.length_cons]
    split <;> simp <;> omega
theorem join_enc : ∀ (t : List Nat) (r : List (List Nat)), TL.joinL [32] (t :: r) = encT ((false, t) :: r.map fun s => (true, s))
  | t, [] => by simp [TL.joinL, encT]
  | t, s :: r => by
    show t ++ ([32] ++ TL.joinL [32] (s :: r)) = _
    rw [join_enc s r]
    simp [encT]
theorem all_ch (t : List Nat) (r : List (List Nat)) : ChA ((false, t) :: r.map fun s => (true, s)) := by
  intro j x y e1 e2 hy
  rw [List.getElem?_cons_succ, List.getElem?_map, Option.map_eq_some_iff] at e2
  obtain ⟨s, _, rfl⟩ := e2
  cases hy
theorem strs_ok (xs : List (List Nat)) : (xs.map fun s => D.str (sS s)).all (okD 59) = true := by
  rw [List.all_map, List.all_eq_true]
  intro x _
  rfl
theorem law_true (ns : List Int) (o : O) (hl : ns.length ≤ 63) (ho : o = .frz (ns.map D.int) ∨ o = .lst (ns.map D.int)) : ∃ h, runOf fs 70 i_law [.loc 0] [o] = .ok (.bl true) h := by
  suffices H : wp (runOf fs 70 i_law [.loc 0] [o]) (fun d _ => d = .bl true) noE by
    obtain ⟨a, h, e, rfl⟩ := wp_get H
    exact ⟨h, e⟩
  have hs : lstAt [o] 0 = some (ns.map D.int) := by rcases ho with rfl | rfl <;> rfl
  refine go_law 69 ?_
  unfold m_law
  (repeat walk_at "w1")
  refine rounds_w 67 hs hl fun M g' ls r s2 fr => ?_
  refine wp_iL (lstAt_lst r.at_) ?_
  refine ws_rounds r (fun δ => ∃ x1 x2 x3 x4, δ = [some (.loc 0), x1, x2, x3, x4]) ⟨_, _, _, _, rfl⟩ ?_ ?_
  · rintro l δ g1 ⟨x1, x2, x3, x4, rfl⟩ d
    refine ⟨_, rfl, ?_⟩
    unfold b_law_0
    (try dsimp only [List.set])
    refine ws_join (fun δ g => ∃ (M : Nat) (toks : List (List Nat)), δ = [some (.loc 0), some (.loc l), some (.loc M), x3, x4] ∧ g[M]? = some (.lst (toks.map fun s => D.str (sS s))) ∧ M ≠ l ∧ (∀ t ∈ toks, TokOk t) ∧ 1 ≤ toks.length ∧ toks.length ≤ 9 ∧ St1 l g1 g ∧ Dice g l) ?_ ?_
    · (repeat walk_at "w1")
      refine roll_w 68 (by decide) (by decide) d fun r2 h2 r20 r21 s2 d2 => ?_
      (repeat walk_at "w1")
      with_reducible refine wp_iR1 (j := 1 + r2) (by unfold big; simp; omega) ?_
      obtain ⟨xs, ex, hx1, hx2⟩ := rng_len 0 (1 + r2)
      rw [ex]
      dsimp only [dwipe, List.set]
      refine wp_lcDI (fun _ y => ∃ t : List Nat, y = .str (sS t) ∧ TokOk t) d2 (by rw [hx1]; unfold lim; omega) (fun i x g hx dg sg => ⟨_, rfl, ?_⟩) fun acc h3 ha hp hM s3 d3 => ?_
      · (try dsimp only [dwipe, List.set])
        (repeat walk_at "w1")
        refine tok_w 66 dg fun t g2 ht s3 d3 => ?_
        exact ⟨⟨t, rfl, ht⟩, s3, d3⟩
      · obtain ⟨toks, rfl, htk⟩ := typed (f := fun t : List Nat => D.str (sS t)) (P := TokOk) acc fun y hy => by
          obtain ⟨i, hi⟩ := List.mem_iff_getElem?.mp hy
          exact hp i y hi
        rw [List.length_map, hx1] at ha
        exact ⟨_, toks, rfl, hM, by have := d2.lt; omega, htk, by omega, by omega, s2.trans s3, d3⟩
    rintro δ g ⟨M, toks, rfl, hM, hMl, htk, hn1, hn9, st, dg⟩
    have tk : ∀ {i : Nat} {t : List Nat}, toks[i]? = some t → TokOk t ∧ t.length ≤ 1000 := fun {i t} e => by
      have := htk t (List.mem_of_getElem? e)
      exact ⟨this, by have := this.ne.2; omega⟩
    obtain ⟨t0, ts0, et0⟩ : ∃ t0 ts0, toks = t0 :: ts0 := by
      cases toks with
      | nil => simp at hn1
      | cons t r => exact ⟨t, r, rfl⟩
    -- the text, some blanks left out
    refine ws_join (fun δ g' => δ = [some (.loc 0), some (.loc l), some (.loc M), some (.str (sS t0)), x4] ∧ g' = g) ?_ ?_
    · (repeat walk_at "w1")
      refine wp_ixM (lstAt_lst hM) (by decide) (by rw [List.length_map]; omega) fun x hx => ?_
      rw [et0] at hx
      cases hx
      exact ⟨rfl, rfl⟩
    rintro δ g' ⟨rfl, rfl⟩
    refine ws_join (fun δ g2 => ∃ (ts : List (Bool × List Nat)) (y4 : Option D), δ = [some (.loc 0), some (.loc l), some (.loc M), some (.str (sS (encT ts))), y4] ∧ ts.map (·.2) = toks ∧ (∃ r, ts = (false, t0) :: r) ∧ ChA ts ∧ g2[M]? = some (.lst (toks.map fun s => D.str (sS s))) ∧ St1 l g1 g2 ∧ Dice g2 l) ?_ ?_
    · (repeat walk_at "w1")
      refine wp_lenL (lstAt_lst hM) ?_
      (repeat walk_at "w1")
      rw [List.length_map]
      with_reducible refine wp_iR2 (i := 1) (j := ((toks.length : Nat) : Int)) rfl (by unfold big; simp; omega) ?_
      obtain ⟨xs, ex, hx1, hx2⟩ := rng_len 1 ((toks.length : Nat) : Int)
      rw [ex]
      refine ws_items (fun i δ g2 => ∃ (ts : List (Bool × List Nat)) (y4 : Option D), δ = [some (.loc 0), some (.loc l), some (.loc M), some (.str (sS (encT ts))), y4] ∧ ts.map (·.2) = toks.take (i + 1) ∧ (∃ r, ts = (false, t0) :: r) ∧ ChA ts ∧ g2[M]? = some (.lst (toks.map fun s => D.str (sS s))) ∧ St1 l g1 g2 ∧ Dice g2 l) ⟨[(false, t0)], x4, by simp [encT], by rw [et0]; rfl, ⟨[], rfl⟩, fun j x y _ e2 => by simp at e2, hM, st, dg⟩ ?_ ?_
      · rintro i x δ g2 hx ⟨ts, y4, rfl, hmap, ⟨r0, hr0⟩, hch, hM2, st2, d2⟩
        have hxi := hx2 i x hx
        subst hxi
        have hi := (List.getElem?_eq_some_iff.mp hx).1
        have hi2 : i + 1 < toks.length := by omega
        have htsl : ts.length = i + 1 := by
          have := congrArg List.length hmap
          rw [List.length_map, List.length_take] at this
          omega
        obtain ⟨xo, hxo⟩ : ∃ z, toks[i]? = some z := ⟨_, List.getElem?_eq_getElem (by omega)⟩
        obtain ⟨xt, hxt⟩ : ∃ z, toks[i + 1]? = some z := ⟨_, List.getElem?_eq_getElem hi2⟩
        obtain ⟨ho, hol⟩ := tk hxo
        obtain ⟨ht, htl⟩ := tk hxt
        obtain ⟨a, ea, _⟩ := last_some ho.ne.1
        obtain ⟨c, t', ec, _⟩ := tok_head ht
        have hokts : ∀ x ∈ ts, TokOk x.2 := fun x hx => htk x.2 (by
          have : x.2 ∈ ts.map (·.2) := List.mem_map_of_mem hx
          rw [hmap] at this
          exact List.mem_of_mem_take this)
        have hel := encT_len hokts
        have hlast : ∀ x, ts.getLast? = some x → x.2 = xo := fun x ex => by
          rw [List.getLast?_eq_getElem?] at ex
          have : (ts.map (·.2))[ts.length - 1]? = some x.2 := by rw [List.getElem?_map, ex]; rfl
          rw [hmap, List.getElem?_take, if_pos (by omega), show ts.length - 1 = i by omega, hxo] at this
          exact (Option.some.inj this).symm
        have li : ∀ {j : Nat} {z : List Nat} {h : AH} {Q : D → AH → Prop} {E : EX}, h[M]? = some (.lst (toks.map fun s => D.str (sS s))) → toks[j]? = some z → Q (.str (sS z)) h → wp (ixD (.loc M) (.int ((j : Nat) : Int)) h) Q E := fun {j z h Q E} hM e q => by
          refine wp_ixM (lstAt_lst hM) (by omega) (by rw [List.length_map]; have := (List.getElem?_eq_some_iff.mp e).1; omega) fun x hx => ?_
          rw [Int.toNat_natCast, List.getElem?_map, e] at hx
          cases hx
          exact q
        refine ⟨_, rfl, ?_⟩
        unfold b_law_1
        dsimp only [List.set]
        rw [show (1 : Int) + ((i : Nat) : Int) = ((i + 1 : Nat) : Int) by omega]
        -- the blank
        refine ws_join (fun δ g3 => ∃ b : Bool, δ = [some (.loc 0), some (.loc l), some (.loc M), some (.str (sS (encT ts ++ (if b = true then [32] else [])))), some (.int ((i + 1 : Nat) : Int))] ∧ (b = false → Sep a c) ∧ g3[M]? = some (.lst (toks.map fun s => D.str (sS s))) ∧ St1 l g1 g3 ∧ Dice g3 l) ?_ ?_
        · have yes : ∀ (g3 : AH), g3[M]? = some (.lst (toks.map fun s => D.str (sS s))) → St1 l g1 g3 → Dice g3 l → wp (addD (.str (sS (encT ts))) (.str " ") g3) (fun d h => ∃ b : Bool, ([some (.loc 0), some (.loc l), some (.loc M), some (.str (sS (encT ts))), some (.int ((i + 1 : Nat) : Int))] : Sl).set 3 (some d) = [some (.loc 0), some (.loc l), some (.loc M), some (.str (sS (encT ts ++ (if b = true then [32] else [])))), some (.int ((i + 1 : Nat) : Int))] ∧ (b = false → Sep a c) ∧ h[M]? = some (.lst (toks.map fun s => D.str (sS s))) ∧ St1 l g1 h ∧ Dice h l) (fun c fs h => noE c fs h) := by
            intro g3 hM3 st3 d3
            rw [ofS " " [32] (by decide +kernel)]
            refine wp_addS (by rw [sS_len, sS_len]; unfold lim; simp; omega) ?_
            rw [sS_app]
            exact ⟨true, rfl, fun z => (by cases z), hM3, st3, d3⟩
          refine ws_if ?_
          (repeat walk_at "w1")
          rw [show ((i + 1 : Nat) : Int) - 1 = ((i : Nat) : Int) by omega]
          refine li hM2 hxo ?_
          (repeat walk_at "w1")
          refine li hM2 hxt ?_
          (repeat walk_at "w1")
          refine nb_w 68 ea ec hol htl ?_
          (repeat walk_at "w1")
          cases hnb : nbF a c with
          | true =>
            (repeat walk_at "w1")
            exact yes _ hM2 st2 d2
          | false =>
            (repeat walk_at "w1")
            refine roll_w 68 (by decide) (by decide) d2 fun r3 h3 r30 r31 s3 d3 => ?_
            (repeat walk_at "w1")
            have hM3 := s3.keep _ _ hMl hM2
            refine wif (fun _ => ?_) fun _ => ?_
            · (repeat walk_at "w1")
              exact yes _ hM3 (st2.trans s3) d3
            · (repeat walk_at "w1")
              exact ⟨false, by simp, fun _ => nbF_sep hnb, hM3, st2.trans s3, d3⟩
        · rintro δ g3 ⟨b, rfl, hb, hM3, st3, d3⟩
          (repeat walk_at "w1")
          refine li hM3 hxt ?_
          refine wp_addS (by rw [sS_len, sS_len, List.length_append]; unfold lim; split <;> simp <;> omega) ?_
          rw [sS_app, List.append_assoc, ← encT_snoc]
          refine ⟨ts ++ [(b, xt)], _, rfl, ?_, ⟨r0 ++ [(b, xt)], by rw [hr0]; rfl⟩, ChA_snoc hch fun x ex hbf a2 c2 ea2 ec2 => ?_, hM3, st3, d3⟩
          · rw [List.map_append, hmap, takeS hxt]; rfl
          · rw [hlast x ex, ea] at ea2
            cases ea2
            rw [ec] at ec2
            cases ec2
            exact hb hbf
      · rintro δ g2 ⟨ts, y4, rfl, hmap, hr, hch, hM2, st2, d2⟩
        rw [List.take_of_length_le (by omega)] at hmap
        exact ⟨ts, y4, rfl, hmap, hr, hch, hM2, st2, d2⟩
    rintro δ g2 ⟨ts, y4, rfl, hmap, ⟨r0, hr0⟩, hch, hM2, st2, d2⟩
    have hokts : ∀ x ∈ ts, TokOk x.2 := fun x hx => htk x.2 (by rw [← hmap]; exact List.mem_map_of_mem hx)
    have htsl : ts.length = toks.length := by rw [← hmap, List.length_map]
    have hel := encT_len hokts
    have hel0 : r0.length ≤ 900 := by have := congrArg List.length hr0; rw [List.length_cons] at this; omega
    have emap : ts.map (fun x => D.str (sS x.2)) = toks.map fun s => D.str (sS s) := by rw [← hmap, List.map_map]; rfl
    refine ws_chk1H (fun g => Stay g2 g) ?_ fun g5 st5 => ⟨⟨_, _, _, _, rfl⟩, st2.trans st5.st1, st5.dice d2⟩
    (repeat walk_at "w1")
    refine tokens_w 66 (L := encT ts) (t0 := t0) (ts0 := r0) (by rw [hr0]) (by rw [← hr0]; exact ChOk_of hokts hch) (by omega) hel0 fun g3 hM3 st3 => ?_
    (repeat walk_at "w1")
    rw [← hr0, emap] at hM3
    refine wp_ne (eqB_lists (lstAt_lst hM3) (lstAt_lst (st3 _ _ hM2)) (strs_ok toks)) ?_
    (repeat walk_at "w1")
    have hM4 := st3 _ _ hM2
    refine ⟨rfl, ?_⟩
    (repeat walk_at "w1")
    rw [ofS " " [32] (by decide +kernel)]
    refine wp_joinS (ys := toks) (lstAt_lst hM4) ?_ ?_
    · have : ∀ l : List (List Nat), (∀ t ∈ l, t.length ≤ 11) → (l.map (·.length)).sum ≤ 11 * l.length := by
        intro l
        induction l with
        | nil => intro _; simp
        | cons t r ih => intro h; rw [List.map_cons, List.sum_cons, List.length_cons]; have := h t List.mem_cons_self; have := ih fun x hx => h x (List.mem_cons_of_mem _ hx); omega
      have := this toks fun t ht => (htk t ht).ne.2
      simp only [List.length_singleton]
      omega
    rw [et0, join_enc]
    have hok2 : ∀ x ∈ (false, t0) :: ts0.map (fun s => (true, s)), TokOk x.2 := fun x hx => by
      rcases List.mem_cons.mp hx with rfl | hx
      · exact htk _ (by rw [et0]; exact List.mem_cons_self)
      · obtain ⟨s, hs, rfl⟩ := List.mem_map.mp hx
        exact htk _ (by rw [et0]; exact List.mem_cons_of_mem _ hs)
    have hel2 := encT_len hok2
    have hln : ts0.length ≤ 8 := by rw [et0] at hn9; simpa using hn9
    rw [List.length_cons, List.length_map] at hel2
    (repeat walk_at "w1")
    refine tokens_w 66 (L := encT ((false, t0) :: ts0.map fun s => (true, s))) rfl (ChOk_of hok2 (all_ch t0 ts0)) (by omega) (by rw [List.length_map]; omega) fun g4 hM5 st4 => ?_
    have emap2 : ((false, t0) :: ts0.map fun s => (true, s)).map (fun x => D.str (sS x.2)) = toks.map fun s => D.str (sS s) := by
      rw [et0, List.map_cons, List.map_cons, List.map_map]; rfl
    rw [emap2] at hM5
    (repeat walk_at "w1")
    refine wp_ne (eqB_lists (lstAt_lst hM5) (lstAt_lst (st4 _ _ hM4)) (strs_ok toks)) ?_
    (repeat walk_at "w1")
    exact ⟨rfl, st3.trans st4⟩
  · rintro δ g1 ⟨x1, x2, x3, x4, rfl⟩
    (repeat walk_at "w1")
    rfl
end K08
open PySem PySem.W PyProof.Rows
set_option maxRecDepth 100000 in
set_option maxHeartbeats 0 in
theorem PySem.Challenge.cw_codeline_k08_tokens_laid_and_cut_holds : PySem.Challenge.rw_codeline_k08_tokens_laid_and_cut.Holds := by
  w_on; o_law; k_head; (case hw => w_witness2)
  k_fill
  refine Cod.walk_law (l := PySem.Challenge.rw_codeline_k08_tokens_laid_and_cut) (k := 3 * 70) (F := Cod.runOf K08.fs 70 11) rfl rfl ⟨rfl, by decide, by decide⟩ (ts := []) (fun w h Y => PySem.W.kIn_of Y) (fun _ _ _ _ h => nomatch h) ?F K08.law_true
  case F =>
    intro w mg fa h KX G hmg T T2
    refine' K08.all_mk KX G hmg T T2 ?a0 ?l0 ?c0 ?k0 ?a1 ?l1 ?c1 ?k1 ?a2 ?l2 ?c2 ?k2 ?a3 ?l3 ?c3 ?k3 ?a4 ?l4 ?c4 ?k4 ?a5 ?l5 ?c5 ?k5 ?a6 ?l6 ?c6 ?k6 ?a7 ?l7 ?c7 ?k7 ?a8 ?l8 ?c8 ?k8 ?a9 ?l9 ?c9 ?k9 ?a10 ?l10 ?c10 ?k10 ?a11 ?l11 ?c11 ?k11 ?v0 ?v1 ?v2 ?v3 ?v4 ?q4_0 ?z0 ?z1 ?z2 ?z3 ?z4 ?z5 ?XBv ?XBl ?XBf ?Xv1 ?Xk1 ?Xe1 ?Xt1 ?Xw1 ?XL1 ?Xs1 ?Xi1 ?Xf1 ?Xl1 ?Xc1 ?Xd1 ?Xh1 ?Xg1 ?Xp1 ?Xm1 ?Xn1_0 ?Xo ?Xy
    (case a0 => k_is)
    (case l0 => k_is)
    (case c0 => k_is)
    (case k0 => k_is)
    (case a1 => k_is)
    (case l1 => k_is)
    (case c1 => k_is)
    (case k1 => k_is)
    (case a2 => k_is)
    (case l2 => k_is)
    (case c2 => k_is)
    (case k2 => k_is)
    (case a3 => k_is)
    (case l3 => k_is)
    (case c3 => k_is)
    (case k3 => k_is)
    (case a4 => k_is)
    (case l4 => k_is)
    (case c4 => k_is)
    (case k4 => k_is)
    (case a5 => k_is)
    (case l5 => k_is)
    (case c5 => k_is)
    (case k5 => k_is)
    (case a6 => k_is)
    (case l6 => k_is)
    (case c6 => k_is)
    (case k6 => k_is)
    (case a7 => k_is)
    (case l7 => k_is)
    (case c7 => k_is)
    (case k7 => k_is)
    (case a8 => k_is)
    (case l8 => k_is)
    (case c8 => k_is)
    (case k8 => k_is)
    (case a9 => k_is)
    (case l9 => k_is)
    (case c9 => k_is)
    (case k9 => k_is)
    (case a10 => k_is)
    (case l10 => k_is)
    (case c10 => k_is)
    (case k10 => k_is)
    (case a11 => k_is)
    (case l11 => k_is)
    (case c11 => k_is)
    (case k11 => k_is)
    (case v0 => k_is)
    (case v1 => k_is)
    (case v2 => k_is)
    (case v3 => k_is)
    (case v4 => k_is)
    (case q4_0 => k_is)
    (case z0 => k_is)
    (case z1 => k_is)
    (case z2 => k_is)
    (case z3 => k_is)
    (case z4 => k_is)
    (case z5 => k_is)
    (case XBv => k_is)
    (case XBl => k_is)
    (case XBf => k_is)
    (case Xv1 => k_is)
    (case Xk1 => k_is)
    (case Xe1 => k_is)
    (case Xt1 => k_is)
    (case Xw1 => k_is)
    (case XL1 => k_is)
    (case Xs1 => k_is)
    (case Xi1 => k_is)
    (case Xf1 => k_is)
    (case Xl1 => k_is)
    (case Xc1 => k_is)
    (case Xd1 => k_is)
    (case Xh1 => first | rfl | decide +kernel | k_is)
    (case Xg1 => first | rfl | decide +kernel | k_is)
    (case Xp1 => k_is)
    (case Xm1 => k_is)
    (case Xn1_0 => k_is)
    (case Xo => k_is)
    (case Xy => first | rfl | decide +kernel | k_is)
